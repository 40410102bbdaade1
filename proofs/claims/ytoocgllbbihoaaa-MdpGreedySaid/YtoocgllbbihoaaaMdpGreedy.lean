/- For every process, list and policy the law MdpGreedy answers true, and each argument reads afterwards as before. Conditions: none. By an AI agent. -/
import Derived.ProofKit
import Derived.Test.YtoocgllbbihoaaaRows
import Derived.Test.YtoocgllbbihoaaaBaseA
import Derived.Test.YtoocgllbbihoaaaBaseB
import Derived.Test.YtoocgllbbihoaaaBaseC
import Derived.Test.YtoocgllbbihoaaaBaseD
import Derived.Test.YtoocgllbbihoaaaBaseE
import Derived.Test.YtoocgllbbihoaaaBaseF
import Derived.Test.YtoocgllbbihoaaaBaseG
import Derived.Test.YtoocgllbbihoaaaBaseH
set_option linter.unusedVariables false
set_option linter.unusedSimpArgs false
set_option linter.unnecessarySimpa false
namespace Go.Proofs.Ytoocgllbbihoaaa
open Go Go.Gv Go.RowKit
set_option maxRecDepth 100000
set_option maxHeartbeats 1000000
theorem greedy_c (w : World) (X : Hid) (hX : ∀ k o, X k o → k < w.heap.size) (m : Mdp) (ad : Option Addr) (len cap : Nat) (h : Limbs (rd w X) ad len cap m.disc.ln) (ae : Option Addr) (le ce : Nat) (h2 : Limbs (rd w X) ae le ce m.disc.ld) (st : Option Addr) (ls cs : Nat) (hst : StatesR (rd w X) st ls cs m.states) (v : List Raw) (av : Option Addr) (lv cv : Nat) (hv : Rats (rd w X) av lv cv v) (p : List Int) (ap : Option Addr) (lp cp : Nat) (hp : Ints (rd w X) ap lp cp p) : Calls Try.prog 3 #[.agg #[.bool m.disc.neg, .slice ad len cap, .slice ae le ce, .slice st ls cs], .slice av lv cv, .slice ap lp cp] w (Ret E0 w fun _ v => v = .bool true) := by
 obtain rfl := hv.hlen
 have hcapv := hv.hcap
 have hbigv := hv.hbig
 obtain rfl := hst.hlen
 have hcaps := hst.hcap
 have hbigs := hst.hbig
 obtain rfl := hp.hlen
 have hcapp := hp.hcap
 have hbigp := hp.hbig
 obtain ⟨bx, bi, be, hB⟩ : ∃ bx bi be, m.backV v = (bx, bi, be) := ⟨_, _, _, rfl⟩
 refine zZ (n := 169) (vs := [.agg #[.bool m.disc.neg, .slice ad len cap, .slice ae le ce, .slice st m.states.length cs], .slice av v.length cv, .slice ap p.length cp]) Try.func3 rfl rfl rfl kr (fun a0 A0 => ?_)
 have A0 : Fr 169 a0 [(0, .agg #[.bool m.disc.neg, .slice ad len cap, .slice ae le ce, .slice st m.states.length cs]), (1, .slice av v.length cv), (2, .slice ap p.length cp)] := A0
 have j0 : St E0 w X w X [] := St.start hX
 refine zD (fun K1 C1 => ?_)
 refine zC ?_
 refine wplI A0 kr (zN (d := 3) (fun b => .pointer (some ⟨b, 0, none⟩)) (.cells #[.bool m.disc.neg, .slice ad len cap, .slice ae le ce, .slice st m.states.length cs] 28 (0, 0)) A0 kr j0 kw ?_)
 intro b2 w2 Y2 j2 q2 hu2 a3 A3
 refine zB 1 [(6, .bool false)] A3 kr kr (fun a4 A4 => ?_)
 refine zE ?_
 refine zA (C1 _ _ ?_)
 refine zD (fun K5 C5 => ?_)
 refine zD (fun K6 C6 => ?_)
 refine zC ?_
 refine wplI A4 kr (zJ (d := 19) (v := .agg #[.bool m.disc.neg, .slice ad len cap, .slice ae le ce, .slice st m.states.length cs]) A4 kr (zF (t := 28) (g := true) (vs := [.bool m.disc.neg, .slice ad len cap, .slice ae le ce, .slice st m.states.length cs]) (ad := ⟨b2, 0, none⟩) rfl kr kr ir (j2.cells 0 rfl rfl)) ?_)
 intro a7 A7
 refine wplI A7 kr (zK (d := 20) (f := 7) (cap := #[]) (vs := #[.agg #[.bool m.disc.neg, .slice ad len cap, .slice ae le ce, .slice st m.states.length cs]]) A7 kr j2 rfl kr kr (fun w => Try.call7 _ w) (Long_c _ _ j2.lt m _ _ _ (h.mono q2) _ _ _ (h2.mono q2) _ _ _ (hst.mono q2)) ?_)
 rintro v8 w8 j8 q8 hu8 ⟨bb8, rfl⟩ a9 A9
 refine zB 1 [(21, .bool bb8)] A9 kr kr (fun a10 A10 => ?_)
 rcases Bool.eq_false_or_eq_true bb8 with hc11 | hc11
 ·
  have A12 := A10.set 21 (v' := .bool true) kr rfl (zG hc11)
  have ht13 : bb8 = true := by simpa using hc11
  refine zB 12 [(33, .bool true), (32, undef), (31, undef), (30, .bool true), (29, .bool true), (28, undef), (27, undef), (26, undef), (25, .bool true), (24, .bool true), (23, undef), (22, undef)] A12 kr kr (fun a14 A14 => ?_)
  refine zE ?_
  refine zA (C6 _ _ ?_)
  refine qG A14 kr kr ?_
  refine zD (fun K15 C15 => ?_)
  refine zC ?_
  refine wplI A14 kr (zK (d := 34) (f := 9) (cap := #[]) (vs := #[]) A14 kr j8 rfl kr kr (fun w => Try.call9 _ w) (awake_c _ _ j8.lt) ?_)
  rintro v16 w16 j16 q16 hu16 rfl a17 A17
  refine zB 1 [(6, .bool true)] A17 kr kr (fun a18 A18 => ?_)
  refine zE ?_
  refine zA (C15 _ _ ?_)
  refine zQ ?_
  refine zL ?_
  refine zR (v := .bool true) (rs := [.tmp 6]) A18 kr (Res.tmp kr Res.nil) kr ?_
  exact ⟨j16.upd, _, rfl, rfl⟩
 have A19 := A10.set 21 (v' := .bool false) kr rfl (zG hc11)
 have ht20 : bb8 = false := by simpa using hc11
 try have hl20_8 := (hbb8 ht20).1
 try have hl200_8 := (hbb8 ht20).2
 refine zB 1 [(22, .slice av v.length cv)] A19 kr kr (fun a21 A21 => ?_)
 refine wplI A21 kr (zK (d := 23) (f := 8) (cap := #[]) (vs := #[.slice av v.length cv]) A21 kr j8 rfl kr kr (fun w => Try.call8 _ w) (LongList_c _ _ j8.lt _ _ _ v (hv.mono (Le2 q2 q8))) ?_)
 rintro v22 w22 j22 q22 hu22 ⟨bb22, rfl, hbb22⟩ a23 A23
 refine zB 2 [(25, .bool bb22), (24, .bool bb22)] A23 kr kr (fun a24 A24 => ?_)
 rcases Bool.eq_false_or_eq_true bb22 with hc25 | hc25
 ·
  have A26 := A24.set 25 (v' := .bool true) kr rfl (zG hc25)
  have ht27 : bb22 = true := by simpa using hc25
  refine zB 8 [(33, .bool true), (32, undef), (31, undef), (30, .bool true), (29, .bool true), (28, undef), (27, undef), (26, undef)] A26 kr kr (fun a28 A28 => ?_)
  refine zE ?_
  refine zA (C6 _ _ ?_)
  refine qG A28 kr kr ?_
  refine zD (fun K29 C29 => ?_)
  refine zC ?_
  refine wplI A28 kr (zK (d := 34) (f := 9) (cap := #[]) (vs := #[]) A28 kr j22 rfl kr kr (fun w => Try.call9 _ w) (awake_c _ _ j22.lt) ?_)
  rintro v30 w30 j30 q30 hu30 rfl a31 A31
  refine zB 1 [(6, .bool true)] A31 kr kr (fun a32 A32 => ?_)
  refine zE ?_
  refine zA (C29 _ _ ?_)
  refine zQ ?_
  refine zL ?_
  refine zR (v := .bool true) (rs := [.tmp 6]) A32 kr (Res.tmp kr Res.nil) kr ?_
  exact ⟨j30.upd, _, rfl, rfl⟩
 have A33 := A24.set 25 (v' := .bool false) kr rfl (zG hc25)
 have ht34 : bb22 = false := by simpa using hc25
 try have hl20_22 := (hbb22 ht34).1
 try have hl200_22 := (hbb22 ht34).2
 refine zB 5 [(30, .bool (decide ((p.length : Int) > 20))), (29, .bool (decide ((p.length : Int) > 20))), (28, .bool (decide ((p.length : Int) > 20))), (27, .int .i64 (p.length : Int)), (26, .slice ap p.length cp)] A33 kr kr (fun a35 A35 => ?_)
 rcases Bool.eq_false_or_eq_true (decide ((p.length : Int) > 20)) with hc36 | hc36
 ·
  have A37 := A35.set 30 (v' := .bool true) kr rfl (zG hc36)
  have ht38 : (p.length : Int) > 20 := of_decide_eq_true hc36
  refine zB 3 [(33, .bool true), (32, undef), (31, undef)] A37 kr kr (fun a39 A39 => ?_)
  refine zE ?_
  refine zA (C6 _ _ ?_)
  refine qG A39 kr kr ?_
  refine zD (fun K40 C40 => ?_)
  refine zC ?_
  refine wplI A39 kr (zK (d := 34) (f := 9) (cap := #[]) (vs := #[]) A39 kr j22 rfl kr kr (fun w => Try.call9 _ w) (awake_c _ _ j22.lt) ?_)
  rintro v41 w41 j41 q41 hu41 rfl a42 A42
  refine zB 1 [(6, .bool true)] A42 kr kr (fun a43 A43 => ?_)
  refine zE ?_
  refine zA (C40 _ _ ?_)
  refine zQ ?_
  refine zL ?_
  refine zR (v := .bool true) (rs := [.tmp 6]) A43 kr (Res.tmp kr Res.nil) kr ?_
  exact ⟨j41.upd, _, rfl, rfl⟩
 have A44 := A35.set 30 (v' := .bool false) kr rfl (zG hc36)
 have ht45 : ¬ ((p.length : Int) > 20) := of_decide_eq_false hc36
 refine wplI A44 kr (zK (d := 31) (f := 9) (cap := #[]) (vs := #[]) A44 kr j22 rfl kr kr (fun w => Try.call9 _ w) (awake_c _ _ j22.lt) ?_)
 rintro v46 w46 j46 q46 hu46 rfl a47 A47
 refine zB 2 [(33, .bool false), (32, .bool false)] A47 kr kr (fun a48 A48 => ?_)
 refine zE ?_
 refine zA (C6 _ _ ?_)
 refine qH A48 kr kr ?_
 refine i_skip ?_
 refine zA (C5 _ _ ?_)
 refine zD (fun K49 C49 => ?_)
 refine zC ?_
 refine wplI A48 kr (zJ (d := 36) (v := .agg #[.bool m.disc.neg, .slice ad len cap, .slice ae le ce, .slice st m.states.length cs]) A48 kr (zF (t := 28) (g := true) (vs := [.bool m.disc.neg, .slice ad len cap, .slice ae le ce, .slice st m.states.length cs]) (ad := ⟨b2, 0, none⟩) rfl kr kr ir (j46.cells 0 rfl rfl)) ?_)
 intro a50 A50
 refine zB 1 [(37, .slice av v.length cv)] A50 kr kr (fun a51 A51 => ?_)
 refine wplI A51 kr (zK (d := 38) (f := 10) (cap := #[]) (vs := #[.agg #[.bool m.disc.neg, .slice ad len cap, .slice ae le ce, .slice st m.states.length cs], .slice av v.length cv]) A51 kr j46 rfl kr kr (fun w => Try.call10 _ w) (Backup_e _ _ j46.lt m _ _ _ (h.mono (Le4 q2 q8 q22 q46)) _ _ _ (h2.mono (Le4 q2 q8 q22 q46)) _ _ _ (hst.mono (Le4 q2 q8 q22 q46)) v _ _ _ (hv.mono (Le4 q2 q8 q22 q46)) (by omega) bx bi be hB) ?_)
 rintro v52 w52 j52 q52 hu52 ⟨ad52, len52, cap52, ae52, le52, ce52, rfl, hR52, hI52⟩ a53 A53
 refine zB 7 [(9, .int .i64 be), (8, .slice ae52 le52 ce52), (7, .slice ad52 len52 cap52), (41, .int .i64 be), (40, .slice ae52 le52 ce52), (39, .slice ad52 len52 cap52), (35, .tuple #[.slice ad52 len52 cap52, .slice ae52 le52 ce52, .int .i64 be])] A53 kr kr (fun a54 A54 => ?_)
 refine zE ?_
 refine zA (C49 _ _ ?_)
 refine zD (fun K55 C55 => ?_)
 refine zD (fun K56 C56 => ?_)
 refine zC ?_
 refine zB 2 [(43, .bool ((be) != 0)), (42, .int .i64 be)] A54 kr kr (fun a57 A57 => ?_)
 refine zE ?_
 refine zA (C56 _ _ ?_)
 refine zS ((be) != 0) A57 kr kr (fun hc58 => ?_) (fun hc58 => ?_)
 ·
  have A59 := A57.set 43 (v' := .bool true) kr rfl (zG hc58)
  have ht60 : (be) ≠ 0 := by simpa using hc58
  have hbe := back_err (m := m) (v := v) (by rw [hB]; exact ht60)
  rw [hB] at hbe
  obtain ⟨rfl, rfl⟩ := hbe
  have hl1 : len52 = 0 := hR52.hlen
  have hl2 : le52 = 0 := hI52.hlen
  refine zD (fun K61 C61 => ?_)
  refine zC ?_
  refine zB 5 [(48, .int .i64 (IntKind.i64.wrap ((len52 : Int) + (le52 : Int)))), (47, .int .i64 (le52 : Int)), (46, .slice ae52 le52 ce52), (45, .int .i64 (len52 : Int)), (44, .slice ad52 len52 cap52)] A59 kr kr (fun a62 A62 => ?_)
  have A63 := A62.set 48 (v' := .int .i64 ((len52 : Int) + (le52 : Int))) kr rfl (vint (wi64 (by omega) (by omega)))
  refine zB 2 [(6, .bool (((len52 : Int) + (le52 : Int)) == 0)), (49, .bool (((len52 : Int) + (le52 : Int)) == 0))] A63 kr kr (fun a64 A64 => ?_)
  refine zE ?_
  refine zA (C61 _ _ ?_)
  refine zQ ?_
  refine zL ?_
  refine zR (v := .bool (((len52 : Int) + (le52 : Int)) == 0)) (rs := [.tmp 6]) A64 kr (Res.tmp kr Res.nil) kr ?_
  exact ⟨j52.upd, _, rfl, vboolE (by first | (simp; omega) | simp_all)⟩
 have A65 := A57.set 43 (v' := .bool false) kr rfl (zG hc58)
 have ht66 : (be) = 0 := by simpa using hc58
 have hok : (m.backV v).2.2 = 0 := by rw [hB]; exact ht66
 have hbl := back_len hok
 have hU := greedy_same hok
 rw [hB] at hbl hU
 simp only at hbl hU
 have hl1 := hR52.hlen
 have hl2 := hI52.hlen
 refine i_skip ?_
 refine zA (C55 _ _ ?_)
 refine zD (fun K67 C67 => ?_)
 refine zC ?_
 refine wplI A65 kr (zJ (d := 51) (v := .agg #[.bool m.disc.neg, .slice ad len cap, .slice ae le ce, .slice st m.states.length cs]) A65 kr (zF (t := 28) (g := true) (vs := [.bool m.disc.neg, .slice ad len cap, .slice ae le ce, .slice st m.states.length cs]) (ad := ⟨b2, 0, none⟩) rfl kr kr ir (j52.cells 0 rfl rfl)) ?_)
 intro a68 A68
 refine zB 2 [(53, .slice av v.length cv), (52, .slice ae52 le52 ce52)] A68 kr kr (fun a69 A69 => ?_)
 refine wplI A69 kr (zK (d := 54) (f := 11) (cap := #[]) (vs := #[.agg #[.bool m.disc.neg, .slice ad len cap, .slice ae le ce, .slice st m.states.length cs], .slice ae52 le52 ce52, .slice av v.length cv]) A69 kr j52 rfl kr kr (fun w => Try.call11 _ w) (Under_e _ _ j52.lt m _ _ _ (h.mono (Le5 q2 q8 q22 q46 q52)) _ _ _ (h2.mono (Le5 q2 q8 q22 q46 q52)) _ _ _ (hst.mono (Le5 q2 q8 q22 q46 q52)) v _ _ _ (hv.mono (Le5 q2 q8 q22 q46 q52)) (by omega) bi _ _ _ hI52 (by first | omega | decide) bx 0 hU) ?_)
 rintro v70 w70 j70 q70 hu70 ⟨ad70, len70, cap70, rfl, hR70⟩ a71 A71
 refine zB 5 [(11, .int .i64 0), (10, .slice ad70 len70 cap70), (56, .int .i64 0), (55, .slice ad70 len70 cap70), (50, .tuple #[.slice ad70 len70 cap70, .int .i64 0])] A71 kr kr (fun a72 A72 => ?_)
 refine zE ?_
 refine zA (C67 _ _ ?_)
 refine zD (fun K73 C73 => ?_)
 refine zD (fun K74 C74 => ?_)
 refine zC ?_
 refine zB 5 [(61, .slice ad52 len52 cap52), (60, .slice ad70 len70 cap70), (59, .bool false), (58, .bool false), (57, .int .i64 0)] A72 kr kr (fun a75 A75 => ?_)
 refine wplI A75 kr (zK (d := 62) (f := 12) (cap := #[]) (vs := #[.slice ad70 len70 cap70, .slice ad52 len52 cap52]) A75 kr j70 rfl kr kr (fun w => Try.call12 _ w) (EqualRats_c _ _ j70.lt _ _ _ bx hR70 _ _ _ bx (hR52.mono q70)) ?_)
 rintro v76 w76 j76 q76 hu76 rfl a77 A77
 have A78 := A77.set 62 (v' := .bool true) kr rfl (zG (decide_eq_true (rfl)))
 refine zB 6 [(68, .pointer (some ⟨b2, 3, none⟩)), (67, .int .i64 (len52 : Int)), (66, .slice ad52 len52 cap52), (65, .bool false), (64, .bool false), (63, .bool false)] A78 kr kr (fun a79 A79 => ?_)
 refine wplI A79 kr (zJ (d := 69) (v := .slice st m.states.length cs) A79 kr (zF (t := 26) (g := false) (vs := [.slice st m.states.length cs]) (ad := ⟨b2, 3, none⟩) rfl kr kr ir (j76.cells 0 rfl rfl)) ?_)
 intro a80 A80
 refine zB 4 [(73, .bool ((len52 : Int) != (m.states.length : Int))), (72, .bool ((len52 : Int) != (m.states.length : Int))), (71, .bool ((len52 : Int) != (m.states.length : Int))), (70, .int .i64 (m.states.length : Int))] A80 kr kr (fun a81 A81 => ?_)
 rcases Bool.eq_false_or_eq_true ((len52 : Int) != (m.states.length : Int)) with hc82 | hc82
 ·
  have A83 := A81.set 73 (v' := .bool true) kr rfl (zG hc82)
  have ht84 : (len52 : Int) ≠ (m.states.length : Int) := by simpa using hc82
  exfalso; omega
 have A85 := A81.set 73 (v' := .bool false) kr rfl (zG hc82)
 have ht86 : (len52 : Int) = (m.states.length : Int) := by simpa using hc82
 refine zB 3 [(76, .pointer (some ⟨b2, 3, none⟩)), (75, .int .i64 (le52 : Int)), (74, .slice ae52 le52 ce52)] A85 kr kr (fun a87 A87 => ?_)
 refine wplI A87 kr (zJ (d := 77) (v := .slice st m.states.length cs) A87 kr (zF (t := 26) (g := false) (vs := [.slice st m.states.length cs]) (ad := ⟨b2, 3, none⟩) rfl kr kr ir (j76.cells 0 rfl rfl)) ?_)
 intro a88 A88
 refine zB 3 [(80, .bool ((le52 : Int) != (m.states.length : Int))), (79, .bool ((le52 : Int) != (m.states.length : Int))), (78, .int .i64 (m.states.length : Int))] A88 kr kr (fun a89 A89 => ?_)
 have A90 := A89.as [1, 2, 3, 7, 8, 80] (L' := [(1, .slice av v.length cv), (2, .slice ap p.length cp), (3, .pointer (some ⟨b2, 0, none⟩)), (7, .slice ad52 len52 cap52), (8, .slice ae52 le52 ce52), (80, .bool ((le52 : Int) != (m.states.length : Int)))]) kr kr
 refine zE ?_
 refine zA (C74 _ _ ?_)
 refine zS ((le52 : Int) != (m.states.length : Int)) A90 kr kr (fun hc91 => ?_) (fun hc91 => ?_)
 ·
  have A92 := A90.set 80 (v' := .bool true) kr rfl (zG hc91)
  have ht93 : (le52 : Int) ≠ (m.states.length : Int) := by simpa using hc91
  exfalso; omega
 have A94 := A90.set 80 (v' := .bool false) kr rfl (zG hc91)
 have ht95 : (le52 : Int) = (m.states.length : Int) := by simpa using hc91
 refine i_skip ?_
 refine zA (C73 _ _ ?_)
 refine zD (fun K96 C96 => ?_)
 refine zD (fun K97 C97 => ?_)
 refine zC ?_
 refine zB 1 [(12, .int .i64 0)] A94 kr kr (fun a98 A98 => ?_)
 refine zE ?_
 refine zA (C97 _ _ ?_)
 refine zV ?_
 refine qC (fun (k : Nat) ac w1 => ∃ (Y1 : Hid), Fr 169 ac [(1, .slice av v.length cv), (2, .slice ap p.length cp), (3, .pointer (some ⟨b2, 0, none⟩)), (7, .slice ad52 len52 cap52), (8, .slice ae52 le52 ce52), (12, .int .i64 (k : Int))] ∧ St E0 w X w1 Y1 [(b2, .cells #[.bool m.disc.neg, .slice ad len cap, .slice ae le ce, .slice st m.states.length cs] 28 (0, 0))] ∧ Le (rd w76 Y2) (rd w1 Y1) ∧ (k ≤ len52)) (fun (k : Nat) => len52 - k) 0 ?_ ?_
 ·
  refine ⟨_, A98.as [1, 2, 3, 7, 8, 12] kr kr, j76, Le.refl _, Nat.zero_le _⟩
 rintro k a99 w99 ⟨Y99, A99, j99, q99, hp99_0⟩
 refine zD (fun K100 C100 => ?_)
 refine zD (fun K101 C101 => ?_)
 refine zC ?_
 refine zB 4 [(84, .bool (decide ((k : Int) < (len52 : Int)))), (83, .int .i64 (len52 : Int)), (82, .slice ad52 len52 cap52), (81, .int .i64 (k : Int))] A99 kr kr (fun a102 A102 => ?_)
 refine zE ?_
 refine zA (C101 _ _ ?_)
 refine zS (decide ((k : Int) < (len52 : Int))) A102 kr kr (fun hc103 => ?_) (fun hc103 => ?_)
 ·
  have A104 := A102.set 84 (v' := .bool true) kr rfl (zG hc103)
  have ht105 : (k : Int) < (len52 : Int) := of_decide_eq_true hc103
  obtain ⟨b0, off0, rfl⟩ := hst.addr (by omega)
  obtain ⟨sx, ax, lx, cx, hxs, hAs, hacts⟩ := hst.at (k := k) (by omega)
  obtain rfl := hacts.hlen
  have hcapx := hacts.hcap
  have hbigx := hacts.hbig
  have hAs1 : At (rd w X) ⟨b0, off0 + k, none⟩ [.slice ax sx.length cx] := by simpa using hAs
  have hsd : m.states.getD k [] = sx := getD_get hxs
  refine i_skip ?_
  refine zA (C100 _ _ ?_)
  refine zD (fun K106 C106 => ?_)
  refine zV ?_
  refine zD (fun K107 C107 => ?_)
  refine zC ?_
  refine zB 1 [(13, .int .i64 0)] A104 kr kr (fun a108 A108 => ?_)
  refine zE ?_
  refine zA (C107 _ _ ?_)
  refine zV ?_
  refine qC (fun (j : Nat) ac w1 => ∃ (Y1 : Hid), Fr 169 ac [(1, .slice av v.length cv), (2, .slice ap p.length cp), (3, .pointer (some ⟨b2, 0, none⟩)), (7, .slice ad52 len52 cap52), (8, .slice ae52 le52 ce52), (12, .int .i64 (k : Int)), (13, .int .i64 (j : Int))] ∧ St E0 w X w1 Y1 [(b2, .cells #[.bool m.disc.neg, .slice ad len cap, .slice ae le ce, .slice (some ⟨b0, off0, none⟩) m.states.length cs] 28 (0, 0))] ∧ Le (rd w99 Y99) (rd w1 Y1) ∧ (j ≤ sx.length)) (fun (j : Nat) => sx.length - j) 0 ?_ ?_
  ·
   refine ⟨_, A108.as [1, 2, 3, 7, 8, 12, 13] kr kr, j99, Le.refl _, Nat.zero_le _⟩
  rintro j a109 w109 ⟨Y109, A109, j109, q109, hp109_0⟩
  refine zD (fun K110 C110 => ?_)
  refine zD (fun K111 C111 => ?_)
  refine zC ?_
  refine zB 2 [(88, .pointer (some ⟨b2, 3, none⟩)), (87, .int .i64 (j : Int))] A109 kr kr (fun a112 A112 => ?_)
  refine wplI A112 kr (zJ (d := 89) (v := .slice (some ⟨b0, off0, none⟩) m.states.length cs) A112 kr (zF (t := 26) (g := false) (vs := [.slice (some ⟨b0, off0, none⟩) m.states.length cs]) (ad := ⟨b2, 3, none⟩) rfl kr kr ir (j109.cells 0 rfl rfl)) ?_)
  intro a113 A113
  refine zB 1 [(90, .int .i64 (k : Int))] A113 kr kr (fun a114 A114 => ?_)
  refine wplI A114 kr (zJ (d := 91) (v := .pointer (some ⟨b0, off0 + k, none⟩)) A114 kr (zP (t := 26) (e := 40) (b := b0) (off := off0) (len := m.states.length) (cap := cs) (kd := .i64) (i := (k : Int)) (g := false) (m := 1) (off' := off0 + k) rfl kr kr kr kr (by omega) (by omega) (by first | rfl | omega | (simp; done) | (simp; omega)) _) ?_)
  intro a115 A115
  refine wplI A115 kr (zJ (d := 92) (v := .slice ax sx.length cx) A115 kr (zF (t := 40) (g := false) (vs := [.slice ax sx.length cx]) (ad := ⟨b0, off0 + k, none⟩) rfl kr kr ir ((hAs1.mono (Le9 q2 q8 q22 q46 q52 q70 q76 q99 q109))).cells) ?_)
  intro a116 A116
  refine zB 2 [(94, .bool (decide ((j : Int) < (sx.length : Int)))), (93, .int .i64 (sx.length : Int))] A116 kr kr (fun a117 A117 => ?_)
  refine zE ?_
  refine zA (C111 _ _ ?_)
  refine zS (decide ((j : Int) < (sx.length : Int))) A117 kr kr (fun hc118 => ?_) (fun hc118 => ?_)
  ·
   have A119 := A117.set 94 (v' := .bool true) kr rfl (zG hc118)
   have ht120 : (j : Int) < (sx.length : Int) := of_decide_eq_true hc118
   refine i_skip ?_
   refine zA (C110 _ _ ?_)
   refine zD (fun K121 C121 => ?_)
   refine zV ?_
   refine zD (fun K122 C122 => ?_)
   refine zC ?_
   refine wplI A119 kr (zJ (d := 98) (v := .agg #[.bool m.disc.neg, .slice ad len cap, .slice ae le ce, .slice (some ⟨b0, off0, none⟩) m.states.length cs]) A119 kr (zF (t := 28) (g := true) (vs := [.bool m.disc.neg, .slice ad len cap, .slice ae le ce, .slice (some ⟨b0, off0, none⟩) m.states.length cs]) (ad := ⟨b2, 0, none⟩) rfl kr kr ir (j109.cells 0 rfl rfl)) ?_)
   intro a123 A123
   refine zB 3 [(101, .int .i64 (j : Int)), (100, .int .i64 (k : Int)), (99, .slice av v.length cv)] A123 kr kr (fun a124 A124 => ?_)
   have hgs := greedy_score hok (s := k) (a := j) (by omega) (by rw [hsd]; omega)
   obtain ⟨sr, hSc⟩ : ∃ r, m.scoreAt v (k : Int) (j : Int) = (r, 0) := ⟨_, Prod.ext rfl hgs.1⟩
   rw [hSc, hB] at hgs
   refine wplI A124 kr (zK (d := 102) (f := 13) (cap := #[]) (vs := #[.agg #[.bool m.disc.neg, .slice ad len cap, .slice ae le ce, .slice (some ⟨b0, off0, none⟩) m.states.length cs], .slice av v.length cv, .int .i64 (k : Int), .int .i64 (j : Int)]) A124 kr j109 rfl kr kr (fun w => Try.call13 _ w) (Score_e _ _ j109.lt m _ _ _ (h.mono (Le9 q2 q8 q22 q46 q52 q70 q76 q99 q109)) _ _ _ (h2.mono (Le9 q2 q8 q22 q46 q52 q70 q76 q99 q109)) _ _ _ (hst.mono (Le9 q2 q8 q22 q46 q52 q70 q76 q99 q109)) v _ _ _ (hv.mono (Le9 q2 q8 q22 q46 q52 q70 q76 q99 q109)) (by omega) (k : Int) (j : Int) sr 0 hSc) ?_)
   rintro v125 w125 j125 q125 hu125 ⟨u125, rfl, ⟨ad125, len125, cap125, ae125, le125, ce125, rfl, hN125, hD125⟩⟩ a126 A126
   obtain ⟨bu, offu, xu, anu, lnu, cnu, amu, lmu, cmu, rfl, hxu, hAu, hLu, hMu⟩ := hR52.cell (k := k) (by omega)
   rw [getD_get hxu] at hgs
   obtain ⟨bi, offi, rfl⟩ := SlR.addr hI52 (by omega)
   obtain ⟨xi, hxi, hAi⟩ := SlR.at hI52 (k := k) (by omega)
   have hBi := int_at hAi
   refine zB 3 [(104, .int .i64 0), (103, .agg #[.bool sr.neg, .slice ad125 len125 cap125, .slice ae125 le125 ce125]), (97, .tuple #[.agg #[.bool sr.neg, .slice ad125 len125 cap125, .slice ae125 le125 ce125], .int .i64 0])] A126 kr kr (fun a127 A127 => ?_)
   refine wplI A127 kr (zN (d := 14) (fun b => .pointer (some ⟨b, 0, none⟩)) (.cells #[.bool false, .slice none 0 0, .slice none 0 0] 25 (0, 0)) A127 kr j125 kw ?_)
   intro b128 w128 Y128 j128 q128 hu128 a129 A129
   refine wplI A129 kr (zO (t := 25) (b := b128) (off := 0) (c' := #[.bool sr.neg, .slice ad125 len125 cap125, .slice ae125 le125 ce125]) (g := true) (m := 3) 0 _ A129 kr j128 rfl kr rfl kr kr kr rfl (by first | decide | (simp; done)) kr rfl ?_)
   intro w130 j130 q130
   refine zB 1 [(15, .int .i64 0)] A129 kr kr (fun a131 A131 => ?_)
   refine zE ?_
   refine zA (C122 _ _ ?_)
   refine zD (fun K132 C132 => ?_)
   refine qD (N := 27) (Held [(⟨bu, offu + k * 3, none⟩, [.bool xu.neg, .slice anu lnu cnu, .slice amu lmu cmu]), (⟨b128, 0, none⟩, [.bool sr.neg, .slice ad125 len125 cap125, .slice ae125 le125 ce125])]) [] kr kr kr j130 ?_
   intro w133 j133 q133 hu133
   refine zX (Held.cons ((hAu.mono (Le8 q70 q76 q99 q109 q125 q128 q130 q133))).cells (Held.cons (j133.cells 0 rfl rfl) (Held.nil _))) (fun hH133 => ?_)
   refine zH (d := 105) (v := .int .i64 0) 0 A131 rfl kr kr kw (fun _ => hH133) ?_
   intro a134 A134
   refine zH (d := 106) (v := .bool false) 1 A134 rfl kr kr kw (fun _ => hH133) ?_
   intro a135 A135
   refine zH (d := 107) (v := .bool false) 2 A135 rfl kr kr kw (fun _ => hH133) ?_
   intro a136 A136
   refine zH (d := 108) (v := .slice (some ⟨bu, offu, none⟩) len52 cap52) 3 A136 rfl kr kr kw (fun _ => hH133) ?_
   intro a137 A137
   refine zH (d := 109) (v := .int .i64 (k : Int)) 4 A137 rfl kr kr kw (fun _ => hH133) ?_
   intro a138 A138
   refine zH (d := 110) (v := .pointer (some ⟨bu, offu + k * 3, none⟩)) 5 A138 rfl kr kr (fun w => zP (t := 29) (e := 25) (b := bu) (off := offu) (len := len52) (cap := cap52) (kd := .i64) (i := (k : Int)) (g := true) (m := 3) (off' := offu + k * 3) rfl kr kr kr kr (by omega) (by omega) (by first | rfl | omega | (simp; done) | (simp; omega)) w) (fun _ => hH133) ?_
   intro a139 A139
   refine zY (d := 111) (v := .agg #[.bool xu.neg, .slice anu lnu cnu, .slice amu lmu cmu]) 6 A139 rfl kr kr kr (fun w hw => zF (t := 25) (g := true) (vs := [.bool xu.neg, .slice anu lnu cnu, .slice amu lmu cmu]) (ad := ⟨bu, offu + k * 3, none⟩) rfl kr kr ir (hw.get 0 kr)) hH133 ?_
   intro a140 A140
   refine zY (d := 112) (v := .agg #[.bool sr.neg, .slice ad125 len125 cap125, .slice ae125 le125 ce125]) 7 A140 rfl kr kr kr (fun w hw => zF (t := 25) (g := true) (vs := [.bool sr.neg, .slice ad125 len125 cap125, .slice ae125 le125 ce125]) (ad := ⟨b128, 0, none⟩) rfl kr kr ir (hw.get 1 kr)) hH133 ?_
   intro a141 A141
   refine zM [8] kr rfl ?_
   refine ForkT.cons (i := 8) A141 rfl kr (zK (d := 113) (f := 14) (cap := #[]) (vs := #[.agg #[.bool xu.neg, .slice anu lnu cnu, .slice amu lmu cmu], .agg #[.bool sr.neg, .slice ad125 len125 cap125, .slice ae125 le125 ce125]]) A141 kr j133 rfl kr kr (fun w => Try.call14 _ w) (atMost_c _ _ j133.lt xu _ _ _ (hLu.mono (Le8 q70 q76 q99 q109 q125 q128 q130 q133)) _ _ _ (hMu.mono (Le8 q70 q76 q99 q109 q125 q128 q130 q133)) sr _ _ _ (hN125.mono (Le3 q128 q130 q133)) _ _ _ (hD125.mono (Le3 q128 q130 q133))) ?_) ForkT.nil
   rintro v142 w142 j142 q142 hu142 rfl a143 A143
   refine zI (hH133.up hu142) (fun hH142 => ?_)
   refine zH (d := 114) (v := .bool (!(atMostV xu sr))) 9 A143 rfl kr kr kw (fun _ => hH142) ?_
   intro a144 A144
   refine zH (d := 115) (v := .bool (!(atMostV xu sr))) 10 A144 rfl kr kr kw (fun _ => hH142) ?_
   intro a145 A145
   refine zH (d := 116) (v := .bool (!(atMostV xu sr))) 11 A145 rfl kr kr kw (fun _ => hH142) ?_
   intro a146 A146
   rcases Bool.eq_false_or_eq_true (!(atMostV xu sr)) with hc147 | hc147
   ·
    have A148 := A146.set 116 (v' := .bool true) kr rfl (zG hc147)
    have ht149 : (atMostV xu sr) = false := by simpa using hc147
    rw [am_true hgs.2.1 hgs.2.2.1] at ht149; cases ht149
   have A150 := A146.set 116 (v' := .bool false) kr rfl (zG hc147)
   have ht151 : (atMostV xu sr) = true := by simpa using hc147
   refine zH (d := 117) (v := .int .i64 (j : Int)) 12 A150 rfl kr kr kw (fun _ => hH142) ?_
   intro a152 A152
   refine zH (d := 118) (v := .slice (some ⟨bi, offi, none⟩) le52 ce52) 13 A152 rfl kr kr kw (fun _ => hH142) ?_
   intro a153 A153
   refine zH (d := 119) (v := .int .i64 (k : Int)) 14 A153 rfl kr kr kw (fun _ => hH142) ?_
   intro a154 A154
   refine zH (d := 120) (v := .pointer (some ⟨bi, offi + k, none⟩)) 15 A154 rfl kr kr (fun w => zP (t := 30) (e := 3) (b := bi) (off := offi) (len := le52) (cap := ce52) (kd := .i64) (i := (k : Int)) (g := false) (m := 1) (off' := offi + k) rfl kr kr kr kr (by omega) (by omega) (by first | rfl | omega | (simp; done) | (simp; omega)) w) (fun _ => hH142) ?_
   intro a155 A155
   refine zM [16] kr rfl ?_
   refine ForkT.cons (i := 16) A155 rfl kr (zJ (d := 121) (v := .int .i64 xi) A155 kr (zF (t := 3) (g := false) (vs := [.int .i64 xi]) (ad := ⟨bi, offi + k, none⟩) rfl kr kr ir ((hBi.mono (Le9 q70 q76 q99 q109 q125 q128 q130 q133 q142))).cells) ?_) ForkT.nil
   intro a156 A156
   refine zI (Held.cons ((hAu.mono (Le9 q70 q76 q99 q109 q125 q128 q130 q133 q142))).cells (Held.cons (j142.cells 0 rfl rfl) (Held.nil _))) (fun hH142 => ?_)
   refine zH (d := 122) (v := .bool (decide ((j : Int) < xi))) 17 A156 rfl kr kr kw (fun _ => hH142) ?_
   intro a157 A157
   refine zH (d := 123) (v := .bool (decide ((j : Int) < xi))) 18 A157 rfl kr kr kw (fun _ => hH142) ?_
   intro a158 A158
   rcases Bool.eq_false_or_eq_true (decide ((j : Int) < xi)) with hc159 | hc159
   ·
    have A160 := A158.set 123 (v' := .bool true) kr rfl (zG hc159)
    have ht161 : (j : Int) < xi := of_decide_eq_true hc159
    refine zY (d := 124) (v := .agg #[.bool sr.neg, .slice ad125 len125 cap125, .slice ae125 le125 ce125]) 19 A160 rfl kr kr kr (fun w hw => zF (t := 25) (g := true) (vs := [.bool sr.neg, .slice ad125 len125 cap125, .slice ae125 le125 ce125]) (ad := ⟨b128, 0, none⟩) rfl kr kr ir (hw.get 1 kr)) hH142 ?_
    intro a162 A162
    refine zH (d := 125) (v := .slice (some ⟨bu, offu, none⟩) len52 cap52) 20 A162 rfl kr kr kw (fun _ => hH142) ?_
    intro a163 A163
    refine zH (d := 126) (v := .int .i64 (k : Int)) 21 A163 rfl kr kr kw (fun _ => hH142) ?_
    intro a164 A164
    refine zH (d := 127) (v := .pointer (some ⟨bu, offu + k * 3, none⟩)) 22 A164 rfl kr kr (fun w => zP (t := 29) (e := 25) (b := bu) (off := offu) (len := len52) (cap := cap52) (kd := .i64) (i := (k : Int)) (g := true) (m := 3) (off' := offu + k * 3) rfl kr kr kr kr (by omega) (by omega) (by first | rfl | omega | (simp; done) | (simp; omega)) w) (fun _ => hH142) ?_
    intro a165 A165
    refine zY (d := 128) (v := .agg #[.bool xu.neg, .slice anu lnu cnu, .slice amu lmu cmu]) 23 A165 rfl kr kr kr (fun w hw => zF (t := 25) (g := true) (vs := [.bool xu.neg, .slice anu lnu cnu, .slice amu lmu cmu]) (ad := ⟨bu, offu + k * 3, none⟩) rfl kr kr ir (hw.get 0 kr)) hH142 ?_
    intro a166 A166
    refine zM [24] kr rfl ?_
    refine ForkT.cons (i := 24) A166 rfl kr (zK (d := 129) (f := 14) (cap := #[]) (vs := #[.agg #[.bool sr.neg, .slice ad125 len125 cap125, .slice ae125 le125 ce125], .agg #[.bool xu.neg, .slice anu lnu cnu, .slice amu lmu cmu]]) A166 kr j142 rfl kr kr (fun w => Try.call14 _ w) (atMost_c _ _ j142.lt sr _ _ _ (hN125.mono (Le4 q128 q130 q133 q142)) _ _ _ (hD125.mono (Le4 q128 q130 q133 q142)) xu _ _ _ (hLu.mono (Le9 q70 q76 q99 q109 q125 q128 q130 q133 q142)) _ _ _ (hMu.mono (Le9 q70 q76 q99 q109 q125 q128 q130 q133 q142))) ?_) ForkT.nil
    rintro v167 w167 j167 q167 hu167 rfl a168 A168
    refine zI (hH142.up hu167) (fun hH167 => ?_)
    refine zH (d := 130) (v := .bool (atMostV sr xu)) 25 A168 rfl kr kr kw (fun _ => hH167) ?_
    intro a169 A169
    refine zH (d := 131) (v := .bool (atMostV sr xu)) 26 A169 rfl kr kr kw (fun _ => hH167) ?_
    intro a170 A170
    refine qB kr (nrm ?_)
    refine zA (C132 _ _ ?_)
    refine zS (atMostV sr xu) A170 kr kr (fun hc171 => ?_) (fun hc171 => ?_)
    ·
     have A172 := A170.set 131 (v' := .bool true) kr rfl (zG hc171)
     have ht173 : (atMostV sr xu) = true := by simpa using hc171
     exact absurd (am_le ht173).2 (hgs.2.2.2 (by rw [getD_get hxi]; exact ht161))
    have A174 := A170.set 131 (v' := .bool false) kr rfl (zG hc171)
    have ht175 : (atMostV sr xu) = false := by simpa using hc171
    refine i_skip ?_
    refine zW ?_
    refine zA (C121 _ _ ?_)
    refine zC ?_
    refine zB 2 [(96, .int .i64 (IntKind.i64.wrap ((j : Int) + 1))), (95, .int .i64 (j : Int))] A174 kr kr (fun a176 A176 => ?_)
    have A177 := A176.set 96 (v' := .int .i64 ((j : Int) + 1)) kr rfl (vint (wi64 (by omega) (by omega)))
    refine zB 1 [(13, .int .i64 ((j : Int) + 1))] A177 kr kr (fun a178 A178 => ?_)
    refine zE ?_
    refine zA ?_
    refine ⟨j + 1, ⟨_, A178.as [1, 2, 3, 7, 8, 12, 13] kr kr, j167.tail, (Le7 q109 q125 q128 q130 q133 q142 q167), by omega⟩, ?_⟩
    first | omega | (simp; omega)
   have A179 := A158.set 123 (v' := .bool false) kr rfl (zG hc159)
   have ht180 : ¬ ((j : Int) < xi) := of_decide_eq_false hc159
   refine qE (d := 124) 19 A179 rfl kr kr (fun _ => hH142) ?_
   intro a181 A181
   refine qE (d := 125) 20 A181 rfl kr kr (fun _ => hH142) ?_
   intro a182 A182
   refine qE (d := 126) 21 A182 rfl kr kr (fun _ => hH142) ?_
   intro a183 A183
   refine qE (d := 127) 22 A183 rfl kr kr (fun _ => hH142) ?_
   intro a184 A184
   refine qE (d := 128) 23 A184 rfl kr kr (fun _ => hH142) ?_
   intro a185 A185
   refine qE (d := 129) 24 A185 rfl kr kr (fun _ => hH142) ?_
   intro a186 A186
   refine zH (d := 130) (v := .bool false) 25 A186 rfl kr kr kw (fun _ => hH142) ?_
   intro a187 A187
   refine zH (d := 131) (v := .bool false) 26 A187 rfl kr kr kw (fun _ => hH142) ?_
   intro a188 A188
   refine qB kr (nrm ?_)
   refine zA (C132 _ _ ?_)
   refine qH A188 kr kr ?_
   refine i_skip ?_
   refine zW ?_
   refine zA (C121 _ _ ?_)
   refine zC ?_
   refine zB 2 [(96, .int .i64 (IntKind.i64.wrap ((j : Int) + 1))), (95, .int .i64 (j : Int))] A188 kr kr (fun a189 A189 => ?_)
   have A190 := A189.set 96 (v' := .int .i64 ((j : Int) + 1)) kr rfl (vint (wi64 (by omega) (by omega)))
   refine zB 1 [(13, .int .i64 ((j : Int) + 1))] A190 kr kr (fun a191 A191 => ?_)
   refine zE ?_
   refine zA ?_
   refine ⟨j + 1, ⟨_, A191.as [1, 2, 3, 7, 8, 12, 13] kr kr, j142.tail, (Le6 q109 q125 q128 q130 q133 q142), by omega⟩, ?_⟩
   first | omega | (simp; omega)
  have A192 := A117.set 94 (v' := .bool false) kr rfl (zG hc118)
  have ht193 : ¬ ((j : Int) < (sx.length : Int)) := of_decide_eq_false hc118
  refine i_exit ?_
  refine zT ?_
  refine zT ?_
  refine qA ?_
  refine zW ?_
  refine zA (C106 _ _ ?_)
  refine zC ?_
  refine zB 2 [(86, .int .i64 (IntKind.i64.wrap ((k : Int) + 1))), (85, .int .i64 (k : Int))] A192 kr kr (fun a194 A194 => ?_)
  have A195 := A194.set 86 (v' := .int .i64 ((k : Int) + 1)) kr rfl (vint (wi64 (by omega) (by omega)))
  refine zB 1 [(12, .int .i64 ((k : Int) + 1))] A195 kr kr (fun a196 A196 => ?_)
  refine zE ?_
  refine zA ?_
  refine ⟨k + 1, ⟨_, A196.as [1, 2, 3, 7, 8, 12] kr kr, j109, (Le2 q99 q109), by omega⟩, ?_⟩
  first | omega | (simp; omega)
 have A197 := A102.set 84 (v' := .bool false) kr rfl (zG hc103)
 have ht198 : ¬ ((k : Int) < (len52 : Int)) := of_decide_eq_false hc103
 refine i_exit ?_
 refine zT ?_
 refine zT ?_
 refine qA ?_
 refine zA (C96 _ _ ?_)
 refine zD (fun K199 C199 => ?_)
 obtain ⟨px, pe, hP⟩ : ∃ px pe, m.underV p v = (px, pe) := ⟨_, _, rfl⟩
 have hgu := greedy_under hok p
 rw [hP, hB] at hgu
 simp only at hgu
 rcases hgu with ⟨rfl, hpl, hps⟩ | ⟨rfl | rfl, rfl⟩
 ·
  refine zC ?_
  refine wplI A197 kr (zJ (d := 133) (v := .agg #[.bool m.disc.neg, .slice ad len cap, .slice ae le ce, .slice st m.states.length cs]) A197 kr (zF (t := 28) (g := true) (vs := [.bool m.disc.neg, .slice ad len cap, .slice ae le ce, .slice st m.states.length cs]) (ad := ⟨b2, 0, none⟩) rfl kr kr ir (j99.cells 0 rfl rfl)) ?_)
  intro a200 A200
  refine zB 2 [(135, .slice av v.length cv), (134, .slice ap p.length cp)] A200 kr kr (fun a201 A201 => ?_)
  refine wplI A201 kr (zK (d := 136) (f := 11) (cap := #[]) (vs := #[.agg #[.bool m.disc.neg, .slice ad len cap, .slice ae le ce, .slice st m.states.length cs], .slice ap p.length cp, .slice av v.length cv]) A201 kr j99 rfl kr kr (fun w => Try.call11 _ w) (Under_e _ _ j99.lt m _ _ _ (h.mono (Le8 q2 q8 q22 q46 q52 q70 q76 q99)) _ _ _ (h2.mono (Le8 q2 q8 q22 q46 q52 q70 q76 q99)) _ _ _ (hst.mono (Le8 q2 q8 q22 q46 q52 q70 q76 q99)) v _ _ _ (hv.mono (Le8 q2 q8 q22 q46 q52 q70 q76 q99)) (by omega) p _ _ _ (hp.mono (Le8 q2 q8 q22 q46 q52 q70 q76 q99)) (by first | omega | decide) px 0 hP) ?_)
  rintro v202 w202 j202 q202 hu202 ⟨ad202, len202, cap202, rfl, hR202⟩ a203 A203
  have hlp := hR202.hlen
  refine zB 5 [(17, .int .i64 0), (16, .slice ad202 len202 cap202), (138, .int .i64 0), (137, .slice ad202 len202 cap202), (132, .tuple #[.slice ad202 len202 cap202, .int .i64 0])] A203 kr kr (fun a204 A204 => ?_)
  refine zE ?_
  refine zA (C199 _ _ ?_)
  refine zD (fun K205 C205 => ?_)
  refine zD (fun K206 C206 => ?_)
  refine zC ?_
  refine zB 1 [(18, .int .i64 0)] A204 kr kr (fun a207 A207 => ?_)
  refine zE ?_
  refine zA (C206 _ _ ?_)
  refine zV ?_
  refine qC (fun (k : Nat) ac w1 => ∃ (Y1 : Hid), Fr 169 ac [(7, .slice ad52 len52 cap52), (16, .slice ad202 len202 cap202), (17, .int .i64 0), (18, .int .i64 (k : Int))] ∧ St E0 w X w1 Y1 [(b2, .cells #[.bool m.disc.neg, .slice ad len cap, .slice ae le ce, .slice st m.states.length cs] 28 (0, 0))] ∧ Le (rd w202 Y99) (rd w1 Y1) ∧ (k ≤ len202)) (fun (k : Nat) => len202 - k) 0 ?_ ?_
  ·
   refine ⟨_, A207.as [7, 16, 17, 18] kr kr, j202, Le.refl _, Nat.zero_le _⟩
  rintro k a208 w208 ⟨Y208, A208, j208, q208, hp208_0⟩
  refine zD (fun K209 C209 => ?_)
  refine zD (fun K210 C210 => ?_)
  refine zC ?_
  refine zB 5 [(143, .bool (decide ((k : Int) < (len202 : Int)))), (142, .bool (decide ((k : Int) < (len202 : Int)))), (141, .int .i64 (len202 : Int)), (140, .slice ad202 len202 cap202), (139, .int .i64 (k : Int))] A208 kr kr (fun a211 A211 => ?_)
  rcases Bool.eq_false_or_eq_true (decide ((k : Int) < (len202 : Int))) with hc212 | hc212
  ·
   have A213 := A211.set 143 (v' := .bool true) kr rfl (zG hc212)
   have ht214 : (k : Int) < (len202 : Int) := of_decide_eq_true hc212
   refine zB 3 [(146, .bool true), (145, .bool true), (144, .int .i64 0)] A213 kr kr (fun a215 A215 => ?_)
   refine zE ?_
   refine zA (C210 _ _ ?_)
   refine qG A215 kr kr ?_
   refine i_skip ?_
   refine zA (C209 _ _ ?_)
   refine zD (fun K216 C216 => ?_)
   refine zV ?_
   refine zD (fun K217 C217 => ?_)
   obtain ⟨bu, offu, xu, anu, lnu, cnu, amu, lmu, cmu, rfl, hxu, hAu, hLu, hMu⟩ := hR52.cell (k := k) (by omega)
   obtain ⟨bp, offp, xp, anp, lnp, cnp, amp, lmp, cmp, rfl, hxp, hAp, hLp, hMp⟩ := hR202.cell (k := k) (by omega)
   have hps0 := hps k (by omega)
   rw [getD_get hxu, getD_get hxp] at hps0
   ·
    refine qD (N := 10) (Held [(⟨bu, offu + k * 3, none⟩, [.bool xu.neg, .slice anu lnu cnu, .slice amu lmu cmu]), (⟨bp, offp + k * 3, none⟩, [.bool xp.neg, .slice anp lnp cnp, .slice amp lmp cmp])]) [] kr kr kr j208 ?_
    intro w218 j218 q218 hu218
    refine zX (Held.cons ((hAu.mono (Le6 q70 q76 q99 q202 q208 q218))).cells (Held.cons ((hAp.mono (Le2 q208 q218))).cells (Held.nil _))) (fun hH218 => ?_)
    refine zH (d := 149) (v := .slice (some ⟨bu, offu, none⟩) len52 cap52) 0 A215 rfl kr kr kw (fun _ => hH218) ?_
    intro a219 A219
    refine zH (d := 150) (v := .int .i64 (k : Int)) 1 A219 rfl kr kr kw (fun _ => hH218) ?_
    intro a220 A220
    refine zH (d := 151) (v := .pointer (some ⟨bu, offu + k * 3, none⟩)) 2 A220 rfl kr kr (fun w => zP (t := 29) (e := 25) (b := bu) (off := offu) (len := len52) (cap := cap52) (kd := .i64) (i := (k : Int)) (g := true) (m := 3) (off' := offu + k * 3) rfl kr kr kr kr (by omega) (by omega) (by first | rfl | omega | (simp; done) | (simp; omega)) w) (fun _ => hH218) ?_
    intro a221 A221
    refine zY (d := 152) (v := .agg #[.bool xu.neg, .slice anu lnu cnu, .slice amu lmu cmu]) 3 A221 rfl kr kr kr (fun w hw => zF (t := 25) (g := true) (vs := [.bool xu.neg, .slice anu lnu cnu, .slice amu lmu cmu]) (ad := ⟨bu, offu + k * 3, none⟩) rfl kr kr ir (hw.get 0 kr)) hH218 ?_
    intro a222 A222
    refine zH (d := 153) (v := .slice (some ⟨bp, offp, none⟩) len202 cap202) 4 A222 rfl kr kr kw (fun _ => hH218) ?_
    intro a223 A223
    refine zH (d := 154) (v := .int .i64 (k : Int)) 5 A223 rfl kr kr kw (fun _ => hH218) ?_
    intro a224 A224
    refine zH (d := 155) (v := .pointer (some ⟨bp, offp + k * 3, none⟩)) 6 A224 rfl kr kr (fun w => zP (t := 29) (e := 25) (b := bp) (off := offp) (len := len202) (cap := cap202) (kd := .i64) (i := (k : Int)) (g := true) (m := 3) (off' := offp + k * 3) rfl kr kr kr kr (by omega) (by omega) (by first | rfl | omega | (simp; done) | (simp; omega)) w) (fun _ => hH218) ?_
    intro a225 A225
    refine zY (d := 156) (v := .agg #[.bool xp.neg, .slice anp lnp cnp, .slice amp lmp cmp]) 7 A225 rfl kr kr kr (fun w hw => zF (t := 25) (g := true) (vs := [.bool xp.neg, .slice anp lnp cnp, .slice amp lmp cmp]) (ad := ⟨bp, offp + k * 3, none⟩) rfl kr kr ir (hw.get 1 kr)) hH218 ?_
    intro a226 A226
    refine zM [8] kr rfl ?_
    refine ForkT.cons (i := 8) A226 rfl kr (zK (d := 157) (f := 14) (cap := #[]) (vs := #[.agg #[.bool xu.neg, .slice anu lnu cnu, .slice amu lmu cmu], .agg #[.bool xp.neg, .slice anp lnp cnp, .slice amp lmp cmp]]) A226 kr j218 rfl kr kr (fun w => Try.call14 _ w) (atMost_c _ _ j218.lt xu _ _ _ (hLu.mono (Le6 q70 q76 q99 q202 q208 q218)) _ _ _ (hMu.mono (Le6 q70 q76 q99 q202 q208 q218)) xp _ _ _ (hLp.mono (Le2 q208 q218)) _ _ _ (hMp.mono (Le2 q208 q218))) ?_) ForkT.nil
    rintro v227 w227 j227 q227 hu227 rfl a228 A228
    refine zI (hH218.up hu227) (fun hH227 => ?_)
    refine zH (d := 158) (v := .bool (!(atMostV xu xp))) 9 A228 rfl kr kr kw (fun _ => hH227) ?_
    intro a229 A229
    refine qB kr (nrm ?_)
    refine zA (C217 _ _ ?_)
    refine zS (!(atMostV xu xp)) A229 kr kr (fun hc230 => ?_) (fun hc230 => ?_)
    ·
     have A231 := A229.set 158 (v' := .bool true) kr rfl (zG hc230)
     have ht232 : (atMostV xu xp) = false := by simpa using hc230
     rw [am_true hps0.1 hps0.2] at ht232; cases ht232
    have A233 := A229.set 158 (v' := .bool false) kr rfl (zG hc230)
    have ht234 : (atMostV xu xp) = true := by simpa using hc230
    refine i_skip ?_
    refine zW ?_
    refine zA (C216 _ _ ?_)
    refine zC ?_
    refine zB 2 [(148, .int .i64 (IntKind.i64.wrap ((k : Int) + 1))), (147, .int .i64 (k : Int))] A233 kr kr (fun a235 A235 => ?_)
    have A236 := A235.set 148 (v' := .int .i64 ((k : Int) + 1)) kr rfl (vint (wi64 (by omega) (by omega)))
    refine zB 1 [(18, .int .i64 ((k : Int) + 1))] A236 kr kr (fun a237 A237 => ?_)
    refine zE ?_
    refine zA ?_
    refine ⟨k + 1, ⟨_, A237.as [7, 16, 17, 18] kr kr, j227, (Le3 q208 q218 q227), by omega⟩, ?_⟩
    first | omega | (simp; omega)
  have A238 := A211.set 143 (v' := .bool false) kr rfl (zG hc212)
  have ht239 : ¬ ((k : Int) < (len202 : Int)) := of_decide_eq_false hc212
  refine zB 3 [(146, .bool false), (145, undef), (144, undef)] A238 kr kr (fun a240 A240 => ?_)
  refine zE ?_
  refine zA (C210 _ _ ?_)
  refine qH A240 kr kr ?_
  refine i_exit ?_
  refine zT ?_
  refine zT ?_
  refine qA ?_
  refine zA (C205 _ _ ?_)
  refine zD (fun K241 C241 => ?_)
  refine zC ?_
  refine zB 11 [(6, .bool true), (168, .bool true), (167, undef), (166, undef), (165, .bool true), (164, .bool true), (163, undef), (162, undef), (161, .bool true), (160, .bool true), (159, .int .i64 0)] A240 kr kr (fun a242 A242 => ?_)
  refine zE ?_
  refine zA (C241 _ _ ?_)
  refine zQ ?_
  refine zR (v := .bool true) (rs := [.tmp 6]) A242 kr (Res.tmp kr Res.nil) kr ?_
  exact ⟨j208.upd, _, rfl, rfl⟩
 ·
  refine zC ?_
  refine wplI A197 kr (zJ (d := 133) (v := .agg #[.bool m.disc.neg, .slice ad len cap, .slice ae le ce, .slice st m.states.length cs]) A197 kr (zF (t := 28) (g := true) (vs := [.bool m.disc.neg, .slice ad len cap, .slice ae le ce, .slice st m.states.length cs]) (ad := ⟨b2, 0, none⟩) rfl kr kr ir (j99.cells 0 rfl rfl)) ?_)
  intro a243 A243
  refine zB 2 [(135, .slice av v.length cv), (134, .slice ap p.length cp)] A243 kr kr (fun a244 A244 => ?_)
  refine wplI A244 kr (zK (d := 136) (f := 11) (cap := #[]) (vs := #[.agg #[.bool m.disc.neg, .slice ad len cap, .slice ae le ce, .slice st m.states.length cs], .slice ap p.length cp, .slice av v.length cv]) A244 kr j99 rfl kr kr (fun w => Try.call11 _ w) (Under_e _ _ j99.lt m _ _ _ (h.mono (Le8 q2 q8 q22 q46 q52 q70 q76 q99)) _ _ _ (h2.mono (Le8 q2 q8 q22 q46 q52 q70 q76 q99)) _ _ _ (hst.mono (Le8 q2 q8 q22 q46 q52 q70 q76 q99)) v _ _ _ (hv.mono (Le8 q2 q8 q22 q46 q52 q70 q76 q99)) (by omega) p _ _ _ (hp.mono (Le8 q2 q8 q22 q46 q52 q70 q76 q99)) (by first | omega | decide) ([]) 16 hP) ?_)
  rintro v245 w245 j245 q245 hu245 ⟨ad245, len245, cap245, rfl, hR245⟩ a246 A246
  have hlp := hR245.hlen
  refine zB 5 [(17, .int .i64 16), (16, .slice ad245 len245 cap245), (138, .int .i64 16), (137, .slice ad245 len245 cap245), (132, .tuple #[.slice ad245 len245 cap245, .int .i64 16])] A246 kr kr (fun a247 A247 => ?_)
  refine zE ?_
  refine zA (C199 _ _ ?_)
  refine zD (fun K248 C248 => ?_)
  refine zD (fun K249 C249 => ?_)
  refine zC ?_
  refine zB 1 [(18, .int .i64 0)] A247 kr kr (fun a250 A250 => ?_)
  refine zE ?_
  refine zA (C249 _ _ ?_)
  refine zV ?_
  refine qC (fun (k : Nat) ac w1 => ∃ (Y1 : Hid), Fr 169 ac [(7, .slice ad52 len52 cap52), (16, .slice ad245 len245 cap245), (17, .int .i64 16), (18, .int .i64 (k : Int))] ∧ St E0 w X w1 Y1 [(b2, .cells #[.bool m.disc.neg, .slice ad len cap, .slice ae le ce, .slice st m.states.length cs] 28 (0, 0))] ∧ Le (rd w245 Y99) (rd w1 Y1) ∧ (k ≤ len245)) (fun (k : Nat) => len245 - k) 0 ?_ ?_
  ·
   refine ⟨_, A250.as [7, 16, 17, 18] kr kr, j245, Le.refl _, Nat.zero_le _⟩
  rintro k a251 w251 ⟨Y251, A251, j251, q251, hp251_0⟩
  refine zD (fun K252 C252 => ?_)
  refine zD (fun K253 C253 => ?_)
  refine zC ?_
  refine zB 5 [(143, .bool (decide ((k : Int) < (len245 : Int)))), (142, .bool (decide ((k : Int) < (len245 : Int)))), (141, .int .i64 (len245 : Int)), (140, .slice ad245 len245 cap245), (139, .int .i64 (k : Int))] A251 kr kr (fun a254 A254 => ?_)
  rcases Bool.eq_false_or_eq_true (decide ((k : Int) < (len245 : Int))) with hc255 | hc255
  ·
   have A256 := A254.set 143 (v' := .bool true) kr rfl (zG hc255)
   have ht257 : (k : Int) < (len245 : Int) := of_decide_eq_true hc255
   refine zB 3 [(146, .bool false), (145, .bool false), (144, .int .i64 16)] A256 kr kr (fun a258 A258 => ?_)
   refine zE ?_
   refine zA (C253 _ _ ?_)
   refine qH A258 kr kr ?_
   refine i_exit ?_
   refine zT ?_
   refine zT ?_
   refine qA ?_
   refine zA (C248 _ _ ?_)
   refine zD (fun K259 C259 => ?_)
   refine zC ?_
   refine zB 11 [(6, .bool true), (168, .bool true), (167, undef), (166, undef), (165, .bool true), (164, .bool true), (163, .bool true), (162, .int .i64 16), (161, .bool false), (160, .bool false), (159, .int .i64 16)] A258 kr kr (fun a260 A260 => ?_)
   refine zE ?_
   refine zA (C259 _ _ ?_)
   refine zQ ?_
   refine zR (v := .bool true) (rs := [.tmp 6]) A260 kr (Res.tmp kr Res.nil) kr ?_
   exact ⟨j251.upd, _, rfl, rfl⟩
  have A261 := A254.set 143 (v' := .bool false) kr rfl (zG hc255)
  have ht262 : ¬ ((k : Int) < (len245 : Int)) := of_decide_eq_false hc255
  refine zB 3 [(146, .bool false), (145, undef), (144, undef)] A261 kr kr (fun a263 A263 => ?_)
  refine zE ?_
  refine zA (C253 _ _ ?_)
  refine qH A263 kr kr ?_
  refine i_exit ?_
  refine zT ?_
  refine zT ?_
  refine qA ?_
  refine zA (C248 _ _ ?_)
  refine zD (fun K264 C264 => ?_)
  refine zC ?_
  refine zB 11 [(6, .bool true), (168, .bool true), (167, undef), (166, undef), (165, .bool true), (164, .bool true), (163, .bool true), (162, .int .i64 16), (161, .bool false), (160, .bool false), (159, .int .i64 16)] A263 kr kr (fun a265 A265 => ?_)
  refine zE ?_
  refine zA (C264 _ _ ?_)
  refine zQ ?_
  refine zR (v := .bool true) (rs := [.tmp 6]) A265 kr (Res.tmp kr Res.nil) kr ?_
  exact ⟨j251.upd, _, rfl, rfl⟩
 ·
  refine zC ?_
  refine wplI A197 kr (zJ (d := 133) (v := .agg #[.bool m.disc.neg, .slice ad len cap, .slice ae le ce, .slice st m.states.length cs]) A197 kr (zF (t := 28) (g := true) (vs := [.bool m.disc.neg, .slice ad len cap, .slice ae le ce, .slice st m.states.length cs]) (ad := ⟨b2, 0, none⟩) rfl kr kr ir (j99.cells 0 rfl rfl)) ?_)
  intro a266 A266
  refine zB 2 [(135, .slice av v.length cv), (134, .slice ap p.length cp)] A266 kr kr (fun a267 A267 => ?_)
  refine wplI A267 kr (zK (d := 136) (f := 11) (cap := #[]) (vs := #[.agg #[.bool m.disc.neg, .slice ad len cap, .slice ae le ce, .slice st m.states.length cs], .slice ap p.length cp, .slice av v.length cv]) A267 kr j99 rfl kr kr (fun w => Try.call11 _ w) (Under_e _ _ j99.lt m _ _ _ (h.mono (Le8 q2 q8 q22 q46 q52 q70 q76 q99)) _ _ _ (h2.mono (Le8 q2 q8 q22 q46 q52 q70 q76 q99)) _ _ _ (hst.mono (Le8 q2 q8 q22 q46 q52 q70 q76 q99)) v _ _ _ (hv.mono (Le8 q2 q8 q22 q46 q52 q70 q76 q99)) (by omega) p _ _ _ (hp.mono (Le8 q2 q8 q22 q46 q52 q70 q76 q99)) (by first | omega | decide) ([]) 8 hP) ?_)
  rintro v268 w268 j268 q268 hu268 ⟨ad268, len268, cap268, rfl, hR268⟩ a269 A269
  have hlp := hR268.hlen
  refine zB 5 [(17, .int .i64 8), (16, .slice ad268 len268 cap268), (138, .int .i64 8), (137, .slice ad268 len268 cap268), (132, .tuple #[.slice ad268 len268 cap268, .int .i64 8])] A269 kr kr (fun a270 A270 => ?_)
  refine zE ?_
  refine zA (C199 _ _ ?_)
  refine zD (fun K271 C271 => ?_)
  refine zD (fun K272 C272 => ?_)
  refine zC ?_
  refine zB 1 [(18, .int .i64 0)] A270 kr kr (fun a273 A273 => ?_)
  refine zE ?_
  refine zA (C272 _ _ ?_)
  refine zV ?_
  refine qC (fun (k : Nat) ac w1 => ∃ (Y1 : Hid), Fr 169 ac [(7, .slice ad52 len52 cap52), (16, .slice ad268 len268 cap268), (17, .int .i64 8), (18, .int .i64 (k : Int))] ∧ St E0 w X w1 Y1 [(b2, .cells #[.bool m.disc.neg, .slice ad len cap, .slice ae le ce, .slice st m.states.length cs] 28 (0, 0))] ∧ Le (rd w268 Y99) (rd w1 Y1) ∧ (k ≤ len268)) (fun (k : Nat) => len268 - k) 0 ?_ ?_
  ·
   refine ⟨_, A273.as [7, 16, 17, 18] kr kr, j268, Le.refl _, Nat.zero_le _⟩
  rintro k a274 w274 ⟨Y274, A274, j274, q274, hp274_0⟩
  refine zD (fun K275 C275 => ?_)
  refine zD (fun K276 C276 => ?_)
  refine zC ?_
  refine zB 5 [(143, .bool (decide ((k : Int) < (len268 : Int)))), (142, .bool (decide ((k : Int) < (len268 : Int)))), (141, .int .i64 (len268 : Int)), (140, .slice ad268 len268 cap268), (139, .int .i64 (k : Int))] A274 kr kr (fun a277 A277 => ?_)
  rcases Bool.eq_false_or_eq_true (decide ((k : Int) < (len268 : Int))) with hc278 | hc278
  ·
   have A279 := A277.set 143 (v' := .bool true) kr rfl (zG hc278)
   have ht280 : (k : Int) < (len268 : Int) := of_decide_eq_true hc278
   refine zB 3 [(146, .bool false), (145, .bool false), (144, .int .i64 8)] A279 kr kr (fun a281 A281 => ?_)
   refine zE ?_
   refine zA (C276 _ _ ?_)
   refine qH A281 kr kr ?_
   refine i_exit ?_
   refine zT ?_
   refine zT ?_
   refine qA ?_
   refine zA (C271 _ _ ?_)
   refine zD (fun K282 C282 => ?_)
   refine zC ?_
   refine zB 11 [(6, .bool true), (168, .bool true), (167, .bool true), (166, .int .i64 8), (165, .bool false), (164, .bool false), (163, .bool false), (162, .int .i64 8), (161, .bool false), (160, .bool false), (159, .int .i64 8)] A281 kr kr (fun a283 A283 => ?_)
   refine zE ?_
   refine zA (C282 _ _ ?_)
   refine zQ ?_
   refine zR (v := .bool true) (rs := [.tmp 6]) A283 kr (Res.tmp kr Res.nil) kr ?_
   exact ⟨j274.upd, _, rfl, rfl⟩
  have A284 := A277.set 143 (v' := .bool false) kr rfl (zG hc278)
  have ht285 : ¬ ((k : Int) < (len268 : Int)) := of_decide_eq_false hc278
  refine zB 3 [(146, .bool false), (145, undef), (144, undef)] A284 kr kr (fun a286 A286 => ?_)
  refine zE ?_
  refine zA (C276 _ _ ?_)
  refine qH A286 kr kr ?_
  refine i_exit ?_
  refine zT ?_
  refine zT ?_
  refine qA ?_
  refine zA (C271 _ _ ?_)
  refine zD (fun K287 C287 => ?_)
  refine zC ?_
  refine zB 11 [(6, .bool true), (168, .bool true), (167, .bool true), (166, .int .i64 8), (165, .bool false), (164, .bool false), (163, .bool false), (162, .int .i64 8), (161, .bool false), (160, .bool false), (159, .int .i64 8)] A286 kr kr (fun a288 A288 => ?_)
  refine zE ?_
  refine zA (C287 _ _ ?_)
  refine zQ ?_
  refine zR (v := .bool true) (rs := [.tmp 6]) A288 kr (Res.tmp kr Res.nil) kr ?_
  exact ⟨j274.upd, _, rfl, rfl⟩
end Go.Proofs.Ytoocgllbbihoaaa
namespace Go.Proofs.Ytoocgllbbihoaaa
open Go Go.Gv Go.ChangeShapes Go.WideShapes Go.ChangeAt Go.RowKit
theorem own_mdpGreedy : ownKnob Try.prog.godebug = Option.none := by kernel_rfl
theorem laidOut_mdpGreedy : laidOutB Try.prog = true := by kernel_rfl
set_option maxRecDepth 100000 in
theorem mdpGreedy_lifted (os : Os) (started : os.Started) (H : Type) (enc : TypeId × Value → H) :
    ReturnsInHanded {} Try.checked os 3 .any (Rows.mdpGreedySpec.pre6 enc Try.prog Try.f3 Rows.mdpGreedyRow.domain false) (Rows.mdpGreedySpec.post enc Try.prog Try.f3 false true false false) := by
  refine returnsInHanded_of_change (C := Try.checked) own_mdpGreedy started (by kernel_rfl) Try.func3
    (ChangeSpec.witness6 (enc := enc) (C := Try.checked) false ⟨#[], #[.agg #[.bool false, .slice none 0 0, .slice none 0 0, .slice none 0 0], .slice none 0 0, .slice none 0 0], []⟩ 8 (by kernel_rfl) (by kernel_rfl) (by kernel_rfl) (by kernel_rfl)) ?_
  intro W base args ds gs before hval0 hW hcnd _
  have hval : ∀ (j : Nat) t v, Try.f3.params[j]? = some t → args[j]? = some v → Value.okWide Try.prog W .any base t v := hval0
  have hW' := hW
  obtain ⟨p, q, hA0, hV, rfl, hfz, hnd⟩ := hW
  have hA : DataW.TrodAll enc Try.prog W 0 (fun _ => true) true Try.f3.params.toList args.toList ds p := hA0
  rw [Try.params3] at hA hval
  obtain ⟨v0, v1, v2, d0, d1, d2, p0, p1, p2, rfl, rfl, rfl, h0, h1, h2⟩ := trodAll_three hA
  obtain ⟨rfl, rfl⟩ := trodVars_none hV
  have h0k := h0
  obtain ⟨m0, a1_0, a2_0, a3_0, a4_0, a5_0, a6_0, a7_0, a8_0, a9_0, rfl, g1_0, g2_0, g3_0⟩ := open_mdp (hval 0 28 v0 rfl rfl) h0
  have h1k := h1
  obtain ⟨ad1, len1, cap1, xs1, rfl, g1⟩ := open_arats (hval 1 29 v1 rfl rfl) h1
  have h2k := h2
  obtain ⟨ad2, len2, cap2, xs2, rfl, g2⟩ := open_aints (hval 2 30 v2 rfl rfl) h2
  clear hA0 hval0
  simp only [List.append_nil] at hW'
  refine (greedy_c W X0 (X0_lt _) m0 _ _ _ g1_0 _ _ _ g2_0 _ _ _ g3_0 xs1 _ _ _ g1 xs2 _ _ _ g2).mono ?_
  rintro e W' ⟨hu, v, rfl, rfl⟩
  have hb := Upd.below hu
  exact ⟨_, rfl, _, _, _, [] ++ [], _, [], hW', trodAll_mk1 (shut_bool (by kernel_rfl) true), trodAll_mk3 (Below.trod laidOut_mdpGreedy (by kernel_rfl) (of_decide_eq_true (by kernel_rfl)) h0k hb (fun x hx => by simpa using hW'.lt x (by simp [hx]))) (Below.trod laidOut_mdpGreedy (by kernel_rfl) (of_decide_eq_true (by kernel_rfl)) h1k hb (fun x hx => by simpa using hW'.lt x (by simp [hx]))) (Below.trod laidOut_mdpGreedy (by kernel_rfl) (of_decide_eq_true (by kernel_rfl)) h2k hb (fun x hx => by simpa using hW'.lt x (by simp [hx]))), rfl, hb.frame _, fun h => by cases h⟩
theorem mdpGreedy_holds : Rows.MdpGreedySaid :=
  OpenClaim.holds_of_wide 3 Try.f3 rfl rfl rfl rfl rfl rfl rfl ⟨rfl, rfl, rfl, rfl, rfl⟩ rfl rfl rfl rfl rfl (by kernel_rfl) Try.func3 (by kernel_rfl)
    (of_decide_eq_true (by kernel_rfl)) (by unfold Func.isWrapper; first | (rw [if_pos (by decide +kernel)]; kernel_rfl) | (rw [if_neg (by decide +kernel)]; exact ⟨rfl, rfl⟩))
    (fun os started H enc _ => mdpGreedy_lifted os started H enc)
end Go.Proofs.Ytoocgllbbihoaaa

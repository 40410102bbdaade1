/- Parts of the proof: F21 F22 F23 F24 F25 F26 F27 F28 F29 F31. By an AI agent. -/
import Derived.Test.YtoocgllbbihoaaaBaseA
import Derived.Test.YtoocgllbbihoaaaBaseB
import Derived.Test.YtoocgllbbihoaaaBaseC
set_option linter.unusedVariables false
set_option linter.unusedSimpArgs false
set_option linter.unnecessarySimpa false
namespace Go.Proofs.Ytoocgllbbihoaaa
open Go Go.Gv Go.RowKit
set_option maxRecDepth 100000
set_option maxHeartbeats 1000000
theorem natural_c (w : World) (X : Hid) (hX : ∀ k o, X k o → k < w.heap.size) (n : Int) (h1 : -9223372036854775808 ≤ n) (h2 : n ≤ 9223372036854775807) : Calls Try.prog 68 #[.int .i64 n] w (Ret E0 w fun w' v => NatX X w' v n.natAbs) := by
 refine zZ (n := 12) (vs := [.int .i64 n]) Try.func68 rfl rfl rfl kr (fun a0 A0 => ?_)
 have A0 : Fr 12 a0 [(0, .int .i64 n)] := A0
 have j0 : St E0 w X w X [] := St.start hX
 refine zD (fun K1 C1 => ?_)
 refine zC ?_
 refine zB 1 [(2, .slice none 0 0)] A0 kr kr (fun a2 A2 => ?_)
 refine zE ?_
 refine zA (C1 _ _ ?_)
 refine zD (fun K3 C3 => ?_)
 refine zD (fun K4 C4 => ?_)
 refine zC ?_
 refine zB 2 [(4, .bool (decide ((n) < 0))), (3, .int .i64 n)] A2 kr kr (fun a5 A5 => ?_)
 refine zE ?_
 refine zA (C4 _ _ ?_)
 refine zS (decide ((n) < 0)) A5 kr kr (fun hc6 => ?_) (fun hc6 => ?_)
 ·
  have A7 := A5.set 4 (v' := .bool true) kr rfl (zG hc6)
  have ht8 : (n) < 0 := of_decide_eq_true hc6
  refine zD (fun K9 C9 => ?_)
  refine zC ?_
  refine zB 2 [(6, .int .u64 (IntKind.u64.wrap (n))), (5, .int .i64 n)] A7 kr kr (fun a10 A10 => ?_)
  have A11 := A10.set 6 (v' := .int .u64 (n + 18446744073709551616)) kr rfl (vint (by rw [wrap_u64]; omega))
  refine zB 1 [(7, .int .u64 (IntKind.u64.wrap ((0 : Int) - (n + 18446744073709551616))))] A11 kr kr (fun a12 A12 => ?_)
  have A13 := A12.set 7 (v' := .int .u64 ((n.natAbs : Nat) : Int)) kr rfl (vint (by rw [wrap_u64]; omega))
  refine wplI A13 kr (zK (d := 8) (f := 91) (cap := #[]) (vs := #[.int .u64 ((n.natAbs : Nat) : Int)]) A13 kr j0 rfl kr kr (fun w => Try.call91 _ w) (from_n _ n.natAbs (by omega)) ?_)
  rintro v14 w14 j14 q14 hu14 ⟨ad14, len14, cap14, rfl, hn14⟩ a15 A15
  have hN14 := hn14 _ j0.lt
  refine zB 1 [(2, .slice ad14 len14 cap14)] A15 kr kr (fun a16 A16 => ?_)
  refine zE ?_
  refine zA (C9 _ _ ?_)
  refine zQ ?_
  refine zL ?_
  refine zR (v := .slice ad14 len14 cap14) (rs := [.tmp 2]) A16 kr (Res.tmp kr Res.nil) kr ?_
  exact ⟨j14.upd, _, rfl, j14.lastN hN14⟩
 have A17 := A5.set 4 (v' := .bool false) kr rfl (zG hc6)
 have ht18 : ¬ ((n) < 0) := of_decide_eq_false hc6
 refine i_skip ?_
 refine zA (C3 _ _ ?_)
 refine zD (fun K19 C19 => ?_)
 refine zC ?_
 refine zB 2 [(10, .int .u64 (IntKind.u64.wrap (n))), (9, .int .i64 n)] A17 kr kr (fun a20 A20 => ?_)
 have A21 := A20.set 10 (v' := .int .u64 ((n.natAbs : Nat) : Int)) kr rfl (vint (by rw [wrap_u64]; omega))
 refine wplI A21 kr (zK (d := 11) (f := 91) (cap := #[]) (vs := #[.int .u64 ((n.natAbs : Nat) : Int)]) A21 kr j0 rfl kr kr (fun w => Try.call91 _ w) (from_n _ n.natAbs (by omega)) ?_)
 rintro v22 w22 j22 q22 hu22 ⟨ad22, len22, cap22, rfl, hn22⟩ a23 A23
 have hN22 := hn22 _ j0.lt
 refine zB 1 [(2, .slice ad22 len22 cap22)] A23 kr kr (fun a24 A24 => ?_)
 refine zE ?_
 refine zA (C19 _ _ ?_)
 refine zQ ?_
 refine zR (v := .slice ad22 len22 cap22) (rs := [.tmp 2]) A24 kr (Res.tmp kr Res.nil) kr ?_
 exact ⟨j22.upd, _, rfl, j22.lastN hN22⟩
theorem lowest_c (w : World) (X : Hid) (hX : ∀ k o, X k o → k < w.heap.size) (ad : Option Addr) (len cap x : Nat) (h : NatR (rd w X) ad len cap x) (ad2 : Option Addr) (len2 cap2 y : Nat) (h2 : NatR (rd w X) ad2 len2 cap2 y) (sg : Bool) (hx : x < 4294967296 ^ 512) (hy : y < 4294967296 ^ 512) (hd : 0 < y) : Calls Try.prog 58 #[.agg #[.slice ad len cap, .slice ad2 len2 cap2, .bool sg]] w (Ret E0 w fun w' v => RatX X w' v (mkRat (sgn sg x) y)) := by
 refine zZ (n := 65) (vs := [.agg #[.slice ad len cap, .slice ad2 len2 cap2, .bool sg]]) Try.func58 rfl rfl rfl kr (fun a0 A0 => ?_)
 have A0 : Fr 65 a0 [(0, .agg #[.slice ad len cap, .slice ad2 len2 cap2, .bool sg])] := A0
 have j0 : St E0 w X w X [] := St.start hX
 refine zD (fun K1 C1 => ?_)
 refine zC ?_
 refine wplI A0 kr (zN (d := 1) (fun b => .pointer (some ⟨b, 0, none⟩)) (.cells #[.slice ad len cap, .slice ad2 len2 cap2, .bool sg] 91 (0, 0)) A0 kr j0 kw ?_)
 intro b2 w2 Y2 j2 q2 hu2 a3 A3
 refine wplI A3 kr (zN (d := 2) (fun b => .pointer (some ⟨b, 0, none⟩)) (.cells #[.bool false, .slice none 0 0, .slice none 0 0] 25 (0, 0)) A3 kr j2 kw ?_)
 intro b4 w4 Y4 j4 q4 hu4 a5 A5
 refine zE ?_
 refine zA (C1 _ _ ?_)
 refine zD (fun K6 C6 => ?_)
 refine zD (fun K7 C7 => ?_)
 refine zC ?_
 refine zB 2 [(7, .pointer (some ⟨b2, 0, none⟩)), (6, .pointer (some ⟨b2, 0, none⟩))] A5 kr kr (fun a8 A8 => ?_)
 refine wplI A8 kr (zJ (d := 8) (v := .slice ad len cap) A8 kr (zF (t := 23) (g := false) (vs := [.slice ad len cap]) (ad := ⟨b2, 0, none⟩) rfl kr kr ir (j4.cells 1 rfl rfl)) ?_)
 intro a9 A9
 refine zB 2 [(10, .bool ((len : Int) == 0)), (9, .int .i64 (len : Int))] A9 kr kr (fun a10 A10 => ?_)
 refine zE ?_
 refine zA (C7 _ _ ?_)
 refine zS ((len : Int) == 0) A10 kr kr (fun hc11 => ?_) (fun hc11 => ?_)
 ·
  have A12 := A10.set 10 (v' := .bool true) kr rfl (zG hc11)
  have ht13 : (len : Int) = 0 := by simpa using hc11
  have hx0 : x = 0 := h.len0.1 (by omega)
  refine zD (fun K14 C14 => ?_)
  refine zC ?_
  refine zB 1 [(11, .agg #[.bool false, .slice none 0 0, .slice none 0 0])] A12 kr kr (fun a15 A15 => ?_)
  refine wplI A15 kr (zO (t := 25) (b := b4) (off := 0) (c' := #[.bool false, .slice none 0 0, .slice none 0 0]) (g := true) (m := 3) 0 _ A15 kr j4 rfl kr rfl kr kr kr rfl (by first | decide | (simp; done)) kr rfl ?_)
  intro w16 j16 q16
  refine zE ?_
  refine zA (C14 _ _ ?_)
  refine zQ ?_
  refine zL ?_
  refine zR (v := .agg #[.bool false, .slice none 0 0, .slice none 0 0]) (rs := [.cell 2 25]) A15 kr (Res.cell (ad := ⟨b4, 0, none⟩) (cs := [.bool false, .slice none 0 0, .slice none 0 0]) (g := true) kr kr kr ir (j16.cells 0 rfl rfl) Res.nil) kr ?_
  exact ⟨j16.upd, _, rfl, by rw [hx0]; exact zero_rat y⟩
 have A17 := A10.set 10 (v' := .bool false) kr rfl (zG hc11)
 have ht18 : (len : Int) ≠ 0 := by simpa using hc11
 have hx0 : x ≠ 0 := fun e => absurd (h.len0.2 e) (by omega)
 have hgp : 0 < Nat.gcd x y := Nat.gcd_pos_of_pos_right _ hd
 have hgb : Nat.gcd x y < 4294967296 ^ 512 := Nat.lt_of_le_of_lt (Nat.gcd_le_right _ hd) hy
 have hb1 : x / Nat.gcd x y < 4294967296 ^ 512 := Nat.lt_of_le_of_lt (Nat.div_le_self _ _) hx
 have hb2 : y / Nat.gcd x y < 4294967296 ^ 512 := Nat.lt_of_le_of_lt (Nat.div_le_self _ _) hy
 refine i_skip ?_
 refine zA (C6 _ _ ?_)
 refine zD (fun K19 C19 => ?_)
 refine zD (fun K20 C20 => ?_)
 refine zC ?_
 refine zB 2 [(14, .pointer (some ⟨b2, 0, none⟩)), (13, .pointer (some ⟨b2, 0, none⟩))] A17 kr kr (fun a21 A21 => ?_)
 refine wplI A21 kr (zJ (d := 15) (v := .slice ad len cap) A21 kr (zF (t := 23) (g := false) (vs := [.slice ad len cap]) (ad := ⟨b2, 0, none⟩) rfl kr kr ir (j4.cells 1 rfl rfl)) ?_)
 intro a22 A22
 refine zB 2 [(17, .pointer (some ⟨b2, 1, none⟩)), (16, .pointer (some ⟨b2, 0, none⟩))] A22 kr kr (fun a23 A23 => ?_)
 refine wplI A23 kr (zJ (d := 18) (v := .slice ad2 len2 cap2) A23 kr (zF (t := 23) (g := false) (vs := [.slice ad2 len2 cap2]) (ad := ⟨b2, 1, none⟩) rfl kr kr ir (j4.cells 1 rfl rfl)) ?_)
 intro a24 A24
 refine wplI A24 kr (zK (d := 19) (f := 35) (cap := #[]) (vs := #[.slice ad len cap, .slice ad2 len2 cap2]) A24 kr j4 rfl kr kr (fun w => Try.call35 _ w) (GCD_n _ _ _ _ x ((h.mono (Le2 q2 q4)).mono Le.x0) _ _ _ y ((h2.mono (Le2 q2 q4)).mono Le.x0) (by first | assumption | omega) (by first | assumption | omega)) ?_)
 rintro v25 w25 j25 q25 hu25 ⟨u25, rfl, ⟨ad25, len25, cap25, rfl, hn25⟩⟩ a26 A26
 have hN25 := hn25 _ j4.lt
 refine zB 5 [(4, .int .i64 0), (3, .slice ad25 len25 cap25), (21, .int .i64 0), (20, .slice ad25 len25 cap25), (12, .tuple #[.slice ad25 len25 cap25, .int .i64 0])] A26 kr kr (fun a27 A27 => ?_)
 refine zE ?_
 refine zA (C20 _ _ ?_)
 refine zD (fun K28 C28 => ?_)
 refine zC ?_
 refine zB 1 [(22, .slice ad25 len25 cap25)] A27 kr kr (fun a29 A29 => ?_)
 refine wplI A29 kr (zK (d := 23) (f := 34) (cap := #[]) (vs := #[.slice ad25 len25 cap25]) A29 kr j25 rfl kr kr (fun w => Try.call34 _ w) (unit_c _ _ j25.lt _ _ _ (Nat.gcd x y) hN25) ?_)
 rintro v30 w30 j30 q30 hu30 rfl a31 A31
 refine zB 1 [(24, .bool (!(decide (Nat.gcd x y = 1))))] A31 kr kr (fun a32 A32 => ?_)
 refine zE ?_
 refine zA (C28 _ _ ?_)
 refine zS (!(decide (Nat.gcd x y = 1))) A32 kr kr (fun hc33 => ?_) (fun hc33 => ?_)
 ·
  have A34 := A32.set 24 (v' := .bool true) kr rfl (zG hc33)
  have ht35 : ¬ (Nat.gcd x y = 1) := by simpa using hc33
  refine zD (fun K36 C36 => ?_)
  refine zC ?_
  refine zB 2 [(27, .pointer (some ⟨b2, 0, none⟩)), (26, .pointer (some ⟨b2, 0, none⟩))] A34 kr kr (fun a37 A37 => ?_)
  refine wplI A37 kr (zJ (d := 28) (v := .slice ad len cap) A37 kr (zF (t := 23) (g := false) (vs := [.slice ad len cap]) (ad := ⟨b2, 0, none⟩) rfl kr kr ir (j30.cells 1 rfl rfl)) ?_)
  intro a38 A38
  refine zB 1 [(29, .slice ad25 len25 cap25)] A38 kr kr (fun a39 A39 => ?_)
  refine wplI A39 kr (zK (d := 30) (f := 75) (cap := #[]) (vs := #[.slice ad len cap, .slice ad25 len25 cap25]) A39 kr j30 rfl kr kr (fun w => Try.call75 _ w) (DivMod_n _ _ _ _ x ((h.mono (Le4 q2 q4 q25 q30)).mono Le.x0) _ _ _ (Nat.gcd x y) ((hN25.mono q30).mono Le.x0) (by first | assumption | omega) (by first | assumption | omega) (by assumption)) ?_)
  rintro v40 w40 j40 q40 hu40 ⟨u40, v240, rfl, ⟨ad40, len40, cap40, rfl, hn40⟩, ⟨ae40, le40, ce40, rfl, hm40⟩⟩ a41 A41
  have hN40 := hn40 _ j30.lt
  refine zB 6 [(35, .pointer (some ⟨b2, 0, none⟩)), (34, .pointer (some ⟨b2, 0, none⟩)), (33, .int .i64 0), (32, .slice ae40 le40 ce40), (31, .slice ad40 len40 cap40), (25, .tuple #[.slice ad40 len40 cap40, .slice ae40 le40 ce40, .int .i64 0])] A41 kr kr (fun a42 A42 => ?_)
  refine wplI A42 kr (zO (t := 23) (b := b2) (off := 0) (c' := #[.slice ad40 len40 cap40, .slice ad2 len2 cap2, .bool sg]) (g := false) (m := 1) 1 _ A42 kr j40 rfl kr rfl kr kr kr rfl (by first | decide | (simp; done)) kr rfl ?_)
  intro w43 j43 q43
  refine zE ?_
  refine zA (C36 _ _ ?_)
  refine zC ?_
  refine zB 2 [(38, .pointer (some ⟨b2, 1, none⟩)), (37, .pointer (some ⟨b2, 0, none⟩))] A42 kr kr (fun a44 A44 => ?_)
  refine wplI A44 kr (zJ (d := 39) (v := .slice ad2 len2 cap2) A44 kr (zF (t := 23) (g := false) (vs := [.slice ad2 len2 cap2]) (ad := ⟨b2, 1, none⟩) rfl kr kr ir (j43.cells 1 rfl rfl)) ?_)
  intro a45 A45
  refine zB 1 [(40, .slice ad25 len25 cap25)] A45 kr kr (fun a46 A46 => ?_)
  refine wplI A46 kr (zK (d := 41) (f := 75) (cap := #[]) (vs := #[.slice ad2 len2 cap2, .slice ad25 len25 cap25]) A46 kr j43 rfl kr kr (fun w => Try.call75 _ w) (DivMod_n _ _ _ _ y ((h2.mono (Le6 q2 q4 q25 q30 q40 q43)).mono Le.x0) _ _ _ (Nat.gcd x y) ((hN25.mono (Le3 q30 q40 q43)).mono Le.x0) (by first | assumption | omega) (by first | assumption | omega) (by assumption)) ?_)
  rintro v47 w47 j47 q47 hu47 ⟨u47, v247, rfl, ⟨ad47, len47, cap47, rfl, hn47⟩, ⟨ae47, le47, ce47, rfl, hm47⟩⟩ a48 A48
  have hN47 := hn47 _ j43.lt
  refine zB 6 [(46, .pointer (some ⟨b2, 1, none⟩)), (45, .pointer (some ⟨b2, 0, none⟩)), (44, .int .i64 0), (43, .slice ae47 le47 ce47), (42, .slice ad47 len47 cap47), (36, .tuple #[.slice ad47 len47 cap47, .slice ae47 le47 ce47, .int .i64 0])] A48 kr kr (fun a49 A49 => ?_)
  refine wplI A49 kr (zO (t := 23) (b := b2) (off := 1) (c' := #[.slice ad40 len40 cap40, .slice ad47 len47 cap47, .bool sg]) (g := false) (m := 1) 1 _ A49 kr j47 rfl kr rfl kr kr kr rfl (by first | decide | (simp; done)) kr rfl ?_)
  intro w50 j50 q50
  refine zE ?_
  refine zA (C19 _ _ ?_)
  refine zD (fun K51 C51 => ?_)
  have hJ9001 : ∀ a9001 w9001, (∃ (Y9001 : Hid) (b61 : Nat) (ad58 : Option Addr) (len58 : Nat) (cap58 : Nat), Fr 65 a9001 [(1, .pointer (some ⟨b2, 0, none⟩)), (2, .pointer (some ⟨b4, 0, none⟩)), (5, .pointer (some ⟨b61, 0, none⟩))] ∧ St E0 w X w9001 Y9001 [(b61, .cells #[.bool sg, .slice ad58 len58 cap58, .slice none 0 0] 25 (0, 0)), (b4, .cells #[.bool false, .slice none 0 0, .slice none 0 0] 25 (0, 0)), (b2, .cells #[.slice ad40 len40 cap40, .slice ad47 len47 cap47, .bool sg] 91 (0, 0))] ∧ Le (rd w50 Y4) (rd w9001 Y9001) ∧ (NatR (rd w9001 Y9001) ad58 len58 cap58 (x / (Nat.gcd x y)))) → K51 a9001 w9001 := by
   rintro a9001 w9001 ⟨Y9001, b61, ad58, len58, cap58, A9001, j9001, q9001, hN58⟩
   refine C51 _ _ ?_
   refine zD (fun K64 C64 => ?_)
   refine zD (fun K65 C65 => ?_)
   refine zC ?_
   refine zB 2 [(55, .pointer (some ⟨b2, 1, none⟩)), (54, .pointer (some ⟨b2, 0, none⟩))] A9001 kr kr (fun a66 A66 => ?_)
   refine wplI A66 kr (zJ (d := 56) (v := .slice ad47 len47 cap47) A66 kr (zF (t := 23) (g := false) (vs := [.slice ad47 len47 cap47]) (ad := ⟨b2, 1, none⟩) rfl kr kr ir (j9001.cells 2 rfl rfl)) ?_)
   intro a67 A67
   refine wplI A67 kr (zK (d := 57) (f := 34) (cap := #[]) (vs := #[.slice ad47 len47 cap47]) A67 kr j9001 rfl kr kr (fun w => Try.call34 _ w) (unit_c _ _ j9001.lt _ _ _ (y / (Nat.gcd x y)) (hN47.mono (Le2 q50 q9001))) ?_)
   rintro v68 w68 j68 q68 hu68 rfl a69 A69
   refine zB 1 [(58, .bool (!(decide (y / (Nat.gcd x y) = 1))))] A69 kr kr (fun a70 A70 => ?_)
   refine zE ?_
   refine zA (C65 _ _ ?_)
   refine zS (!(decide (y / (Nat.gcd x y) = 1))) A70 kr kr (fun hc71 => ?_) (fun hc71 => ?_)
   ·
    have A72 := A70.set 58 (v' := .bool true) kr rfl (zG hc71)
    have ht73 : ¬ (y / (Nat.gcd x y) = 1) := by simpa using hc71
    refine zC ?_
    refine zB 2 [(60, .pointer (some ⟨b2, 1, none⟩)), (59, .pointer (some ⟨b2, 0, none⟩))] A72 kr kr (fun a74 A74 => ?_)
    refine wplI A74 kr (zJ (d := 61) (v := .slice ad47 len47 cap47) A74 kr (zF (t := 23) (g := false) (vs := [.slice ad47 len47 cap47]) (ad := ⟨b2, 1, none⟩) rfl kr kr ir (j68.cells 2 rfl rfl)) ?_)
    intro a75 A75
    refine wplI A75 kr (zK (d := 62) (f := 53) (cap := #[]) (vs := #[.slice ad47 len47 cap47]) A75 kr j68 rfl kr kr (fun w => Try.call53 _ w) (clone_n _ _ _ _ (y / (Nat.gcd x y)) ((hN47.mono (Le3 q50 q9001 q68)).mono Le.x0) (by first | assumption | omega)) ?_)
    rintro v76 w76 j76 q76 hu76 ⟨ad76, len76, cap76, rfl, hn76⟩ a77 A77
    have hN76 := hn76 _ j68.lt
    refine zB 1 [(63, .pointer (some ⟨b61, 2, none⟩))] A77 kr kr (fun a78 A78 => ?_)
    refine wplI A78 kr (zO (t := 23) (b := b61) (off := 2) (c' := #[.bool sg, .slice ad58 len58 cap58, .slice ad76 len76 cap76]) (g := false) (m := 1) 0 _ A78 kr j76 rfl kr rfl kr kr kr rfl (by first | decide | (simp; done)) kr rfl ?_)
    intro w79 j79 q79
    refine zE ?_
    refine zA (C64 _ _ ?_)
    refine zD (fun K80 C80 => ?_)
    refine zC ?_
    refine wplI A78 kr (zJ (d := 64) (v := .agg #[.bool sg, .slice ad58 len58 cap58, .slice ad76 len76 cap76]) A78 kr (zF (t := 25) (g := true) (vs := [.bool sg, .slice ad58 len58 cap58, .slice ad76 len76 cap76]) (ad := ⟨b61, 0, none⟩) rfl kr kr ir (j79.cells 0 rfl rfl)) ?_)
    intro a81 A81
    refine wplI A81 kr (zO (t := 25) (b := b4) (off := 0) (c' := #[.bool sg, .slice ad58 len58 cap58, .slice ad76 len76 cap76]) (g := true) (m := 3) 1 _ A81 kr j79 rfl kr rfl kr kr kr rfl (by first | decide | (simp; done)) kr rfl ?_)
    intro w82 j82 q82
    refine zE ?_
    refine zA (C80 _ _ ?_)
    refine zQ ?_
    refine zR (v := .agg #[.bool sg, .slice ad58 len58 cap58, .slice ad76 len76 cap76]) (rs := [.cell 2 25]) A81 kr (Res.cell (ad := ⟨b4, 0, none⟩) (cs := [.bool sg, .slice ad58 len58 cap58, .slice ad76 len76 cap76]) (g := true) kr kr kr ir (j82.cells 1 rfl rfl) Res.nil) kr ?_
    refine ⟨j82.upd, _, rfl, low_rat hx0 hd (by exact (hN58.mono (Le4 q68 q76 q79 q82)).mono j82.le) ?_⟩
    rw [den1, if_neg ht73]; exact (hN76.mono (Le2 q79 q82)).mono j82.le
   have A83 := A70.set 58 (v' := .bool false) kr rfl (zG hc71)
   have ht84 : y / (Nat.gcd x y) = 1 := by simpa using hc71
   refine i_skip ?_
   refine zA (C64 _ _ ?_)
   refine zD (fun K85 C85 => ?_)
   refine zC ?_
   refine wplI A83 kr (zJ (d := 64) (v := .agg #[.bool sg, .slice ad58 len58 cap58, .slice none 0 0]) A83 kr (zF (t := 25) (g := true) (vs := [.bool sg, .slice ad58 len58 cap58, .slice none 0 0]) (ad := ⟨b61, 0, none⟩) rfl kr kr ir (j68.cells 0 rfl rfl)) ?_)
   intro a86 A86
   refine wplI A86 kr (zO (t := 25) (b := b4) (off := 0) (c' := #[.bool sg, .slice ad58 len58 cap58, .slice none 0 0]) (g := true) (m := 3) 1 _ A86 kr j68 rfl kr rfl kr kr kr rfl (by first | decide | (simp; done)) kr rfl ?_)
   intro w87 j87 q87
   refine zE ?_
   refine zA (C85 _ _ ?_)
   refine zQ ?_
   refine zR (v := .agg #[.bool sg, .slice ad58 len58 cap58, .slice none 0 0]) (rs := [.cell 2 25]) A86 kr (Res.cell (ad := ⟨b4, 0, none⟩) (cs := [.bool sg, .slice ad58 len58 cap58, .slice none 0 0]) (g := true) kr kr kr ir (j87.cells 1 rfl rfl) Res.nil) kr ?_
   refine ⟨j87.upd, _, rfl, low_rat hx0 hd (by exact (hN58.mono (Le2 q68 q87)).mono j87.le) ?_⟩
   rw [den1, if_pos ht84]; exact (NatR.nil none (by omega))
  refine qD (N := 9) (Held [(⟨b2, 2, none⟩, [.bool sg]), (⟨b2, 0, none⟩, [.slice ad40 len40 cap40])]) [8] kr kr kr j50 ?_
  intro w52 j52 q52 hu52
  refine zX (Held.cons (j52.cells 1 rfl rfl) (Held.cons (j52.cells 1 rfl rfl) (Held.nil _))) (fun hH52 => ?_)
  refine zH (d := 47) (v := .pointer (some ⟨b2, 2, none⟩)) 0 A49 rfl kr kr kw (fun _ => hH52) ?_
  intro a53 A53
  refine zY (d := 48) (v := .bool sg) 1 A53 rfl kr kr kr (fun w hw => zF (t := 4) (g := false) (vs := [.bool sg]) (ad := ⟨b2, 2, none⟩) rfl kr kr ir (hw.get 0 kr)) hH52 ?_
  intro a54 A54
  refine zH (d := 49) (v := .pointer (some ⟨b2, 0, none⟩)) 2 A54 rfl kr kr kw (fun _ => hH52) ?_
  intro a55 A55
  refine zH (d := 50) (v := .pointer (some ⟨b2, 0, none⟩)) 3 A55 rfl kr kr kw (fun _ => hH52) ?_
  intro a56 A56
  refine zY (d := 51) (v := .slice ad40 len40 cap40) 4 A56 rfl kr kr kr (fun w hw => zF (t := 23) (g := false) (vs := [.slice ad40 len40 cap40]) (ad := ⟨b2, 0, none⟩) rfl kr kr ir (hw.get 1 kr)) hH52 ?_
  intro a57 A57
  refine zM [5, 7] kr rfl ?_
  refine ForkT.cons (i := 5) A57 rfl kr ?_ ?_
  ·
   refine zK (d := 52) (f := 53) (cap := #[]) (vs := #[.slice ad40 len40 cap40]) A57 kr j52 rfl kr kr (fun w => Try.call53 _ w) (clone_n _ _ _ _ (x / (Nat.gcd x y)) ((hN40.mono (Le4 q43 q47 q50 q52)).mono Le.x0) (by first | assumption | omega)) ?_
   rintro v58 w58 j58 q58 hu58 ⟨ad58, len58, cap58, rfl, hn58⟩ a59 A59
   have hN58 := hn58 _ j52.lt
   refine zI (hH52.up hu58) (fun hH58 => ?_)
   refine zH (d := 53) (v := .agg #[.bool sg, .slice ad58 len58 cap58, .slice none 0 0]) 6 A59 rfl kr kr kw (fun _ => hH58) ?_
   intro a60 A60
   refine zM [7] kr rfl ?_
   refine ForkT.cons (i := 7) A60 rfl kr (zN (d := 5) (fun b => .pointer (some ⟨b, 0, none⟩)) (.cells #[.bool false, .slice none 0 0, .slice none 0 0] 25 (0, 0)) A60 kr j58 kw ?_) ForkT.nil
   intro b61 w61 Y61 j61 q61 hu61 a62 A62
   refine zI (hH58.up hu61) (fun hH61 => ?_)
   refine zM [8] kr rfl ?_
   refine ForkT.cons (i := 8) A62 rfl kr (zO (t := 25) (b := b61) (off := 0) (c' := #[.bool sg, .slice ad58 len58 cap58, .slice none 0 0]) (g := true) (m := 3) 0 _ A62 kr j61 rfl kr rfl kr kr kr rfl (by first | decide | (simp; done)) kr rfl ?_) ForkT.nil
   intro w63 j63 q63
   refine ⟨begun_tt kr, ?_⟩
   refine qB kr (nrm ?_)
   exact zA (hJ9001 _ _ ⟨_, b61, ad58, len58, cap58, A62.as [1, 2, 5] kr kr, j63, (Le4 q52 q58 q61 q63), (hN58.mono (Le2 q61 q63))⟩)
  refine ForkT.cons (i := 7) A57 rfl kr (zN (d := 5) (fun b => .pointer (some ⟨b, 0, none⟩)) (.cells #[.bool false, .slice none 0 0, .slice none 0 0] 25 (0, 0)) A57 kr j52 kw ?_) ForkT.nil
  intro b64 w64 Y64 j64 q64 hu64 a65 A65
  refine zI (hH52.up hu64) (fun hH64 => ?_)
  refine zM [5] kr rfl ?_
  refine ForkT.cons (i := 5) A65 rfl kr (zK (d := 52) (f := 53) (cap := #[]) (vs := #[.slice ad40 len40 cap40]) A65 kr j64 rfl kr kr (fun w => Try.call53 _ w) (clone_n _ _ _ _ (x / (Nat.gcd x y)) ((hN40.mono (Le5 q43 q47 q50 q52 q64)).mono Le.x0) (by first | assumption | omega)) ?_) ForkT.nil
  rintro v66 w66 j66 q66 hu66 ⟨ad66, len66, cap66, rfl, hn66⟩ a67 A67
  have hN66 := hn66 _ j64.lt
  refine zI (hH64.up hu66) (fun hH66 => ?_)
  refine zH (d := 53) (v := .agg #[.bool sg, .slice ad66 len66 cap66, .slice none 0 0]) 6 A67 rfl kr kr kw (fun _ => hH66) ?_
  intro a68 A68
  refine zM [8] kr rfl ?_
  refine ForkT.cons (i := 8) A68 rfl kr (zO (t := 25) (b := b64) (off := 0) (c' := #[.bool sg, .slice ad66 len66 cap66, .slice none 0 0]) (g := true) (m := 3) 0 _ A68 kr j66 rfl kr rfl kr kr kr rfl (by first | decide | (simp; done)) kr rfl ?_) ForkT.nil
  intro w69 j69 q69
  refine ⟨begun_tt kr, ?_⟩
  refine qB kr (nrm ?_)
  exact zA (hJ9001 _ _ ⟨_, b64, ad66, len66, cap66, A68.as [1, 2, 5] kr kr, j69, (Le4 q52 q64 q66 q69), (hN66.mono q69)⟩)
 have A70 := A32.set 24 (v' := .bool false) kr rfl (zG hc33)
 have ht71 : Nat.gcd x y = 1 := by simpa using hc33
 refine i_skip ?_
 refine zA (C19 _ _ ?_)
 refine zD (fun K72 C72 => ?_)
 have hJ9002 : ∀ a9002 w9002, (∃ (Y9002 : Hid) (b82 : Nat) (ad79 : Option Addr) (len79 : Nat) (cap79 : Nat), Fr 65 a9002 [(1, .pointer (some ⟨b2, 0, none⟩)), (2, .pointer (some ⟨b4, 0, none⟩)), (5, .pointer (some ⟨b82, 0, none⟩))] ∧ St E0 w X w9002 Y9002 [(b82, .cells #[.bool sg, .slice ad79 len79 cap79, .slice none 0 0] 25 (0, 0)), (b4, .cells #[.bool false, .slice none 0 0, .slice none 0 0] 25 (0, 0)), (b2, .cells #[.slice ad len cap, .slice ad2 len2 cap2, .bool sg] 91 (0, 0))] ∧ Le (rd w30 Y4) (rd w9002 Y9002) ∧ (NatR (rd w9002 Y9002) ad79 len79 cap79 x)) → K72 a9002 w9002 := by
  rintro a9002 w9002 ⟨Y9002, b82, ad79, len79, cap79, A9002, j9002, q9002, hN79⟩
  refine C72 _ _ ?_
  refine zD (fun K85 C85 => ?_)
  refine zD (fun K86 C86 => ?_)
  refine zC ?_
  refine zB 2 [(55, .pointer (some ⟨b2, 1, none⟩)), (54, .pointer (some ⟨b2, 0, none⟩))] A9002 kr kr (fun a87 A87 => ?_)
  refine wplI A87 kr (zJ (d := 56) (v := .slice ad2 len2 cap2) A87 kr (zF (t := 23) (g := false) (vs := [.slice ad2 len2 cap2]) (ad := ⟨b2, 1, none⟩) rfl kr kr ir (j9002.cells 2 rfl rfl)) ?_)
  intro a88 A88
  refine wplI A88 kr (zK (d := 57) (f := 34) (cap := #[]) (vs := #[.slice ad2 len2 cap2]) A88 kr j9002 rfl kr kr (fun w => Try.call34 _ w) (unit_c _ _ j9002.lt _ _ _ y (h2.mono (Le5 q2 q4 q25 q30 q9002))) ?_)
  rintro v89 w89 j89 q89 hu89 rfl a90 A90
  refine zB 1 [(58, .bool (!(decide (y = 1))))] A90 kr kr (fun a91 A91 => ?_)
  refine zE ?_
  refine zA (C86 _ _ ?_)
  refine zS (!(decide (y = 1))) A91 kr kr (fun hc92 => ?_) (fun hc92 => ?_)
  ·
   have A93 := A91.set 58 (v' := .bool true) kr rfl (zG hc92)
   have ht94 : ¬ (y = 1) := by simpa using hc92
   refine zC ?_
   refine zB 2 [(60, .pointer (some ⟨b2, 1, none⟩)), (59, .pointer (some ⟨b2, 0, none⟩))] A93 kr kr (fun a95 A95 => ?_)
   refine wplI A95 kr (zJ (d := 61) (v := .slice ad2 len2 cap2) A95 kr (zF (t := 23) (g := false) (vs := [.slice ad2 len2 cap2]) (ad := ⟨b2, 1, none⟩) rfl kr kr ir (j89.cells 2 rfl rfl)) ?_)
   intro a96 A96
   refine wplI A96 kr (zK (d := 62) (f := 53) (cap := #[]) (vs := #[.slice ad2 len2 cap2]) A96 kr j89 rfl kr kr (fun w => Try.call53 _ w) (clone_n _ _ _ _ y ((h2.mono (Le6 q2 q4 q25 q30 q9002 q89)).mono Le.x0) (by first | assumption | omega)) ?_)
   rintro v97 w97 j97 q97 hu97 ⟨ad97, len97, cap97, rfl, hn97⟩ a98 A98
   have hN97 := hn97 _ j89.lt
   refine zB 1 [(63, .pointer (some ⟨b82, 2, none⟩))] A98 kr kr (fun a99 A99 => ?_)
   refine wplI A99 kr (zO (t := 23) (b := b82) (off := 2) (c' := #[.bool sg, .slice ad79 len79 cap79, .slice ad97 len97 cap97]) (g := false) (m := 1) 0 _ A99 kr j97 rfl kr rfl kr kr kr rfl (by first | decide | (simp; done)) kr rfl ?_)
   intro w100 j100 q100
   refine zE ?_
   refine zA (C85 _ _ ?_)
   refine zD (fun K101 C101 => ?_)
   refine zC ?_
   refine wplI A99 kr (zJ (d := 64) (v := .agg #[.bool sg, .slice ad79 len79 cap79, .slice ad97 len97 cap97]) A99 kr (zF (t := 25) (g := true) (vs := [.bool sg, .slice ad79 len79 cap79, .slice ad97 len97 cap97]) (ad := ⟨b82, 0, none⟩) rfl kr kr ir (j100.cells 0 rfl rfl)) ?_)
   intro a102 A102
   refine wplI A102 kr (zO (t := 25) (b := b4) (off := 0) (c' := #[.bool sg, .slice ad79 len79 cap79, .slice ad97 len97 cap97]) (g := true) (m := 3) 1 _ A102 kr j100 rfl kr rfl kr kr kr rfl (by first | decide | (simp; done)) kr rfl ?_)
   intro w103 j103 q103
   refine zE ?_
   refine zA (C101 _ _ ?_)
   refine zQ ?_
   refine zR (v := .agg #[.bool sg, .slice ad79 len79 cap79, .slice ad97 len97 cap97]) (rs := [.cell 2 25]) A102 kr (Res.cell (ad := ⟨b4, 0, none⟩) (cs := [.bool sg, .slice ad79 len79 cap79, .slice ad97 len97 cap97]) (g := true) kr kr kr ir (j103.cells 1 rfl rfl) Res.nil) kr ?_
   refine ⟨j103.upd, _, rfl, low_rat hx0 hd (by rw [ht71, Nat.div_one]; exact (hN79.mono (Le4 q89 q97 q100 q103)).mono j103.le) ?_⟩
   rw [ht71, Nat.div_one]
   rw [den1, if_neg ht94]; exact (hN97.mono (Le2 q100 q103)).mono j103.le
  have A104 := A91.set 58 (v' := .bool false) kr rfl (zG hc92)
  have ht105 : y = 1 := by simpa using hc92
  refine i_skip ?_
  refine zA (C85 _ _ ?_)
  refine zD (fun K106 C106 => ?_)
  refine zC ?_
  refine wplI A104 kr (zJ (d := 64) (v := .agg #[.bool sg, .slice ad79 len79 cap79, .slice none 0 0]) A104 kr (zF (t := 25) (g := true) (vs := [.bool sg, .slice ad79 len79 cap79, .slice none 0 0]) (ad := ⟨b82, 0, none⟩) rfl kr kr ir (j89.cells 0 rfl rfl)) ?_)
  intro a107 A107
  refine wplI A107 kr (zO (t := 25) (b := b4) (off := 0) (c' := #[.bool sg, .slice ad79 len79 cap79, .slice none 0 0]) (g := true) (m := 3) 1 _ A107 kr j89 rfl kr rfl kr kr kr rfl (by first | decide | (simp; done)) kr rfl ?_)
  intro w108 j108 q108
  refine zE ?_
  refine zA (C106 _ _ ?_)
  refine zQ ?_
  refine zR (v := .agg #[.bool sg, .slice ad79 len79 cap79, .slice none 0 0]) (rs := [.cell 2 25]) A107 kr (Res.cell (ad := ⟨b4, 0, none⟩) (cs := [.bool sg, .slice ad79 len79 cap79, .slice none 0 0]) (g := true) kr kr kr ir (j108.cells 1 rfl rfl) Res.nil) kr ?_
  refine ⟨j108.upd, _, rfl, low_rat hx0 hd (by rw [ht71, Nat.div_one]; exact (hN79.mono (Le2 q89 q108)).mono j108.le) ?_⟩
  rw [ht71, Nat.div_one]
  rw [den1, if_pos ht105]; exact (NatR.nil none (by omega))
 refine qD (N := 9) (Held [(⟨b2, 2, none⟩, [.bool sg]), (⟨b2, 0, none⟩, [.slice ad len cap])]) [8] kr kr kr j30 ?_
 intro w73 j73 q73 hu73
 refine zX (Held.cons (j73.cells 1 rfl rfl) (Held.cons (j73.cells 1 rfl rfl) (Held.nil _))) (fun hH73 => ?_)
 refine zH (d := 47) (v := .pointer (some ⟨b2, 2, none⟩)) 0 A70 rfl kr kr kw (fun _ => hH73) ?_
 intro a74 A74
 refine zY (d := 48) (v := .bool sg) 1 A74 rfl kr kr kr (fun w hw => zF (t := 4) (g := false) (vs := [.bool sg]) (ad := ⟨b2, 2, none⟩) rfl kr kr ir (hw.get 0 kr)) hH73 ?_
 intro a75 A75
 refine zH (d := 49) (v := .pointer (some ⟨b2, 0, none⟩)) 2 A75 rfl kr kr kw (fun _ => hH73) ?_
 intro a76 A76
 refine zH (d := 50) (v := .pointer (some ⟨b2, 0, none⟩)) 3 A76 rfl kr kr kw (fun _ => hH73) ?_
 intro a77 A77
 refine zY (d := 51) (v := .slice ad len cap) 4 A77 rfl kr kr kr (fun w hw => zF (t := 23) (g := false) (vs := [.slice ad len cap]) (ad := ⟨b2, 0, none⟩) rfl kr kr ir (hw.get 1 kr)) hH73 ?_
 intro a78 A78
 refine zM [5, 7] kr rfl ?_
 refine ForkT.cons (i := 5) A78 rfl kr ?_ ?_
 ·
  refine zK (d := 52) (f := 53) (cap := #[]) (vs := #[.slice ad len cap]) A78 kr j73 rfl kr kr (fun w => Try.call53 _ w) (clone_n _ _ _ _ x ((h.mono (Le5 q2 q4 q25 q30 q73)).mono Le.x0) (by first | assumption | omega)) ?_
  rintro v79 w79 j79 q79 hu79 ⟨ad79, len79, cap79, rfl, hn79⟩ a80 A80
  have hN79 := hn79 _ j73.lt
  refine zI (hH73.up hu79) (fun hH79 => ?_)
  refine zH (d := 53) (v := .agg #[.bool sg, .slice ad79 len79 cap79, .slice none 0 0]) 6 A80 rfl kr kr kw (fun _ => hH79) ?_
  intro a81 A81
  refine zM [7] kr rfl ?_
  refine ForkT.cons (i := 7) A81 rfl kr (zN (d := 5) (fun b => .pointer (some ⟨b, 0, none⟩)) (.cells #[.bool false, .slice none 0 0, .slice none 0 0] 25 (0, 0)) A81 kr j79 kw ?_) ForkT.nil
  intro b82 w82 Y82 j82 q82 hu82 a83 A83
  refine zI (hH79.up hu82) (fun hH82 => ?_)
  refine zM [8] kr rfl ?_
  refine ForkT.cons (i := 8) A83 rfl kr (zO (t := 25) (b := b82) (off := 0) (c' := #[.bool sg, .slice ad79 len79 cap79, .slice none 0 0]) (g := true) (m := 3) 0 _ A83 kr j82 rfl kr rfl kr kr kr rfl (by first | decide | (simp; done)) kr rfl ?_) ForkT.nil
  intro w84 j84 q84
  refine ⟨begun_tt kr, ?_⟩
  refine qB kr (nrm ?_)
  exact zA (hJ9002 _ _ ⟨_, b82, ad79, len79, cap79, A83.as [1, 2, 5] kr kr, j84, (Le4 q73 q79 q82 q84), (hN79.mono (Le2 q82 q84))⟩)
 refine ForkT.cons (i := 7) A78 rfl kr (zN (d := 5) (fun b => .pointer (some ⟨b, 0, none⟩)) (.cells #[.bool false, .slice none 0 0, .slice none 0 0] 25 (0, 0)) A78 kr j73 kw ?_) ForkT.nil
 intro b85 w85 Y85 j85 q85 hu85 a86 A86
 refine zI (hH73.up hu85) (fun hH85 => ?_)
 refine zM [5] kr rfl ?_
 refine ForkT.cons (i := 5) A86 rfl kr (zK (d := 52) (f := 53) (cap := #[]) (vs := #[.slice ad len cap]) A86 kr j85 rfl kr kr (fun w => Try.call53 _ w) (clone_n _ _ _ _ x ((h.mono (Le6 q2 q4 q25 q30 q73 q85)).mono Le.x0) (by first | assumption | omega)) ?_) ForkT.nil
 rintro v87 w87 j87 q87 hu87 ⟨ad87, len87, cap87, rfl, hn87⟩ a88 A88
 have hN87 := hn87 _ j85.lt
 refine zI (hH85.up hu87) (fun hH87 => ?_)
 refine zH (d := 53) (v := .agg #[.bool sg, .slice ad87 len87 cap87, .slice none 0 0]) 6 A88 rfl kr kr kw (fun _ => hH87) ?_
 intro a89 A89
 refine zM [8] kr rfl ?_
 refine ForkT.cons (i := 8) A89 rfl kr (zO (t := 25) (b := b85) (off := 0) (c' := #[.bool sg, .slice ad87 len87 cap87, .slice none 0 0]) (g := true) (m := 3) 0 _ A89 kr j87 rfl kr rfl kr kr kr rfl (by first | decide | (simp; done)) kr rfl ?_) ForkT.nil
 intro w90 j90 q90
 refine ⟨begun_tt kr, ?_⟩
 refine qB kr (nrm ?_)
 exact zA (hJ9002 _ _ ⟨_, b85, ad87, len87, cap87, A89.as [1, 2, 5] kr kr, j90, (Le4 q73 q85 q87 q90), (hN87.mono q90)⟩)
end Go.Proofs.Ytoocgllbbihoaaa
namespace Go.Proofs.Ytoocgllbbihoaaa
open Go Go.Gv Go.RowKit
set_option maxRecDepth 100000
set_option maxHeartbeats 1000000
theorem of_c (w : World) (X : Hid) (hX : ∀ k o, X k o → k < w.heap.size) (sg : Bool) (ad : Option Addr) (len cap x : Nat) (h : NatR (rd w X) ad len cap x) (ad2 : Option Addr) (len2 cap2 y : Nat) (h2 : NatR (rd w X) ad2 len2 cap2 y) : Calls Try.prog 51 #[.agg #[.bool sg, .slice ad len cap, .slice ad2 len2 cap2]] w (Ret E0 w fun w' v => ValX X w' v sg x (if y = 0 then 1 else y)) := by
 refine zZ (n := 21) (vs := [.agg #[.bool sg, .slice ad len cap, .slice ad2 len2 cap2]]) Try.func51 rfl rfl rfl kr (fun a0 A0 => ?_)
 have A0 : Fr 21 a0 [(0, .agg #[.bool sg, .slice ad len cap, .slice ad2 len2 cap2])] := A0
 have j0 : St E0 w X w X [] := St.start hX
 refine zD (fun K1 C1 => ?_)
 refine zC ?_
 refine wplI A0 kr (zN (d := 1) (fun b => .pointer (some ⟨b, 0, none⟩)) (.cells #[.bool sg, .slice ad len cap, .slice ad2 len2 cap2] 25 (0, 0)) A0 kr j0 kw ?_)
 intro b2 w2 Y2 j2 q2 hu2 a3 A3
 refine wplI A3 kr (zN (d := 2) (fun b => .pointer (some ⟨b, 0, none⟩)) (.cells #[.slice none 0 0, .slice none 0 0, .bool false] 91 (0, 0)) A3 kr j2 kw ?_)
 intro b4 w4 Y4 j4 q4 hu4 a5 A5
 refine zE ?_
 refine zA (C1 _ _ ?_)
 refine zD (fun K6 C6 => ?_)
 refine zC ?_
 refine zB 1 [(4, .pointer (some ⟨b2, 1, none⟩))] A5 kr kr (fun a7 A7 => ?_)
 refine wplI A7 kr (zJ (d := 5) (v := .slice ad len cap) A7 kr (zF (t := 23) (g := false) (vs := [.slice ad len cap]) (ad := ⟨b2, 1, none⟩) rfl kr kr ir (j4.cells 1 rfl rfl)) ?_)
 intro a8 A8
 refine zB 1 [(6, .pointer (some ⟨b2, 2, none⟩))] A8 kr kr (fun a9 A9 => ?_)
 refine wplI A9 kr (zJ (d := 7) (v := .slice ad2 len2 cap2) A9 kr (zF (t := 23) (g := false) (vs := [.slice ad2 len2 cap2]) (ad := ⟨b2, 2, none⟩) rfl kr kr ir (j4.cells 1 rfl rfl)) ?_)
 intro a10 A10
 refine zB 2 [(9, .pointer (some ⟨b2, 0, none⟩)), (8, .agg #[.slice ad len cap, .slice ad2 len2 cap2])] A10 kr kr (fun a11 A11 => ?_)
 refine wplI A11 kr (zJ (d := 10) (v := .bool sg) A11 kr (zF (t := 4) (g := false) (vs := [.bool sg]) (ad := ⟨b2, 0, none⟩) rfl kr kr ir (j4.cells 1 rfl rfl)) ?_)
 intro a12 A12
 refine zB 1 [(11, .agg #[.slice ad len cap, .slice ad2 len2 cap2, .bool sg])] A12 kr kr (fun a13 A13 => ?_)
 refine wplI A13 kr (zN (d := 3) (fun b => .pointer (some ⟨b, 0, none⟩)) (.cells #[.slice none 0 0, .slice none 0 0, .bool false] 91 (0, 0)) A13 kr j4 kw ?_)
 intro b14 w14 Y14 j14 q14 hu14 a15 A15
 refine wplI A15 kr (zO (t := 91) (b := b14) (off := 0) (c' := #[.slice ad len cap, .slice ad2 len2 cap2, .bool sg]) (g := true) (m := 3) 0 _ A15 kr j14 rfl kr rfl kr kr kr rfl (by first | decide | (simp; done)) kr rfl ?_)
 intro w16 j16 q16
 refine zE ?_
 refine zA (C6 _ _ ?_)
 refine zD (fun K17 C17 => ?_)
 refine zD (fun K18 C18 => ?_)
 refine zC ?_
 refine zB 2 [(13, .pointer (some ⟨b14, 1, none⟩)), (12, .pointer (some ⟨b14, 0, none⟩))] A15 kr kr (fun a19 A19 => ?_)
 refine wplI A19 kr (zJ (d := 14) (v := .slice ad2 len2 cap2) A19 kr (zF (t := 23) (g := false) (vs := [.slice ad2 len2 cap2]) (ad := ⟨b14, 1, none⟩) rfl kr kr ir (j16.cells 0 rfl rfl)) ?_)
 intro a20 A20
 refine zB 2 [(16, .bool ((len2 : Int) == 0)), (15, .int .i64 (len2 : Int))] A20 kr kr (fun a21 A21 => ?_)
 refine zE ?_
 refine zA (C18 _ _ ?_)
 refine zS ((len2 : Int) == 0) A21 kr kr (fun hc22 => ?_) (fun hc22 => ?_)
 ·
  have A23 := A21.set 16 (v' := .bool true) kr rfl (zG hc22)
  have ht24 : (len2 : Int) = 0 := by simpa using hc22
  have hy0 : y = 0 := h2.len0.1 (by omega)
  refine zC ?_
  refine wplI A23 kr (zN (d := 17) (fun b => .slice (some ⟨b, 0, none⟩) 1 1) (.cells #[.int .u32 1] 93 (0, 0)) A23 kr j16 kw ?_)
  intro b25 w25 Y25 j25 q25 hu25 a26 A26
  refine zB 2 [(19, .pointer (some ⟨b14, 1, none⟩)), (18, .pointer (some ⟨b14, 0, none⟩))] A26 kr kr (fun a27 A27 => ?_)
  refine wplI A27 kr (zO (t := 23) (b := b14) (off := 1) (c' := #[.slice ad len cap, .slice (some ⟨b25, 0, none⟩) 1 1, .bool sg]) (g := false) (m := 1) 1 _ A27 kr j25 rfl kr rfl kr kr kr rfl (by first | decide | (simp; done)) kr rfl ?_)
  intro w28 j28 q28
  refine zE ?_
  refine zA (C17 _ _ ?_)
  refine zD (fun K29 C29 => ?_)
  refine zC ?_
  refine wplI A27 kr (zJ (d := 20) (v := .agg #[.slice ad len cap, .slice (some ⟨b25, 0, none⟩) 1 1, .bool sg]) A27 kr (zF (t := 91) (g := true) (vs := [.slice ad len cap, .slice (some ⟨b25, 0, none⟩) 1 1, .bool sg]) (ad := ⟨b14, 0, none⟩) rfl kr kr ir (j28.cells 1 rfl rfl)) ?_)
  intro a30 A30
  refine wplI A30 kr (zO (t := 91) (b := b4) (off := 0) (c' := #[.slice ad len cap, .slice (some ⟨b25, 0, none⟩) 1 1, .bool sg]) (g := true) (m := 3) 2 _ A30 kr j28 rfl kr rfl kr kr kr rfl (by first | decide | (simp; done)) kr rfl ?_)
  intro w31 j31 q31
  refine zE ?_
  refine zA (C29 _ _ ?_)
  refine zQ ?_
  refine zR (v := .agg #[.slice ad len cap, .slice (some ⟨b25, 0, none⟩) 1 1, .bool sg]) (rs := [.cell 2 91]) A30 kr (Res.cell (ad := ⟨b4, 0, none⟩) (cs := [.slice ad len cap, .slice (some ⟨b25, 0, none⟩) 1 1, .bool sg]) (g := true) kr kr kr ir (j31.cells 2 rfl rfl) Res.nil) kr ?_
  exact ⟨j31.upd, _, rfl, _, _, _, _, _, _, rfl, (h.mono (Le7 q2 q4 q14 q16 q25 q28 q31)).mono j31.le, by rw [if_pos hy0]; exact one_nat (j31.rowX 0 rfl (j31.own_ge 0 rfl) (one_row rfl))⟩
 have A32 := A21.set 16 (v' := .bool false) kr rfl (zG hc22)
 have ht33 : (len2 : Int) ≠ 0 := by simpa using hc22
 have hy0 : y ≠ 0 := fun e => absurd (h2.len0.2 e) (by omega)
 refine i_skip ?_
 refine zA (C17 _ _ ?_)
 refine zD (fun K34 C34 => ?_)
 refine zC ?_
 refine wplI A32 kr (zJ (d := 20) (v := .agg #[.slice ad len cap, .slice ad2 len2 cap2, .bool sg]) A32 kr (zF (t := 91) (g := true) (vs := [.slice ad len cap, .slice ad2 len2 cap2, .bool sg]) (ad := ⟨b14, 0, none⟩) rfl kr kr ir (j16.cells 0 rfl rfl)) ?_)
 intro a35 A35
 refine wplI A35 kr (zO (t := 91) (b := b4) (off := 0) (c' := #[.slice ad len cap, .slice ad2 len2 cap2, .bool sg]) (g := true) (m := 3) 1 _ A35 kr j16 rfl kr rfl kr kr kr rfl (by first | decide | (simp; done)) kr rfl ?_)
 intro w36 j36 q36
 refine zE ?_
 refine zA (C34 _ _ ?_)
 refine zQ ?_
 refine zR (v := .agg #[.slice ad len cap, .slice ad2 len2 cap2, .bool sg]) (rs := [.cell 2 91]) A35 kr (Res.cell (ad := ⟨b4, 0, none⟩) (cs := [.slice ad len cap, .slice ad2 len2 cap2, .bool sg]) (g := true) kr kr kr ir (j36.cells 1 rfl rfl) Res.nil) kr ?_
 exact ⟨j36.upd, _, rfl, _, _, _, _, _, _, rfl, (h.mono (Le5 q2 q4 q14 q16 q36)).mono j36.le, by rw [if_neg hy0]; exact (h2.mono (Le5 q2 q4 q14 q16 q36)).mono j36.le⟩
theorem sum_c (w : World) (X : Hid) (hX : ∀ k o, X k o → k < w.heap.size) (ad₁ : Option Addr) (len₁ cap₁ n₁ : Nat) (h₁ : NatR (rd w X) ad₁ len₁ cap₁ n₁) (ae₁ : Option Addr) (le₁ ce₁ d₁ : Nat) (k₁ : NatR (rd w X) ae₁ le₁ ce₁ d₁) (s₁ : Bool) (hn₁ : n₁ < K128) (hd₁ : d₁ < K128) (ad₂ : Option Addr) (len₂ cap₂ n₂ : Nat) (h₂ : NatR (rd w X) ad₂ len₂ cap₂ n₂) (ae₂ : Option Addr) (le₂ ce₂ d₂ : Nat) (k₂ : NatR (rd w X) ae₂ le₂ ce₂ d₂) (s₂ : Bool) (hn₂ : n₂ < K128) (hd₂ : d₂ < K128) : Calls Try.prog 37 #[.agg #[.slice ad₁ len₁ cap₁, .slice ae₁ le₁ ce₁, .bool s₁], .agg #[.slice ad₂ len₂ cap₂, .slice ae₂ le₂ ce₂, .bool s₂]] w (Ret E0 w fun w' v => ∃ s m, ValX X w' v s m (d₁ * d₂) ∧ m < 4294967296 ^ 512 ∧ sgn s m = sgn s₁ n₁ * d₂ + sgn s₂ n₂ * d₁) := by
 refine zZ (n := 58) (vs := [.agg #[.slice ad₁ len₁ cap₁, .slice ae₁ le₁ ce₁, .bool s₁], .agg #[.slice ad₂ len₂ cap₂, .slice ae₂ le₂ ce₂, .bool s₂]]) Try.func37 rfl rfl rfl kr (fun a0 A0 => ?_)
 have A0 : Fr 58 a0 [(0, .agg #[.slice ad₁ len₁ cap₁, .slice ae₁ le₁ ce₁, .bool s₁]), (1, .agg #[.slice ad₂ len₂ cap₂, .slice ae₂ le₂ ce₂, .bool s₂])] := A0
 have j0 : St E0 w X w X [] := St.start hX
 have hb : ∀ {x : Nat}, x < K128 → x < 4294967296 ^ 512 := fun h => Nat.lt_of_lt_of_le h k512
 have hbn1 := hb hn₁
 have hbn2 := hb hn₂
 have hbd1 := hb hd₁
 have hbd2 := hb hd₂
 obtain ⟨hp1, hp12⟩ := prod512 hn₁ hd₂ hn₂ hd₁
 have hp2 := (prod512 hn₂ hd₁ hn₁ hd₂).1
 have hpd := (prod512 hd₁ hd₂ hd₁ hd₂).1
 have hpn := (prod512 hn₁ hn₂ hd₁ hd₂).1
 refine zD (fun K1 C1 => ?_)
 refine zC ?_
 refine wplI A0 kr (zN (d := 2) (fun b => .pointer (some ⟨b, 0, none⟩)) (.cells #[.slice ad₁ len₁ cap₁, .slice ae₁ le₁ ce₁, .bool s₁] 91 (0, 0)) A0 kr j0 kw ?_)
 intro b2 w2 Y2 j2 q2 hu2 a3 A3
 refine wplI A3 kr (zN (d := 3) (fun b => .pointer (some ⟨b, 0, none⟩)) (.cells #[.slice ad₂ len₂ cap₂, .slice ae₂ le₂ ce₂, .bool s₂] 91 (0, 0)) A3 kr j2 kw ?_)
 intro b4 w4 Y4 j4 q4 hu4 a5 A5
 refine wplI A5 kr (zN (d := 4) (fun b => .pointer (some ⟨b, 0, none⟩)) (.cells #[.slice none 0 0, .slice none 0 0, .bool false] 91 (0, 0)) A5 kr j4 kw ?_)
 intro b6 w6 Y6 j6 q6 hu6 a7 A7
 refine zE ?_
 refine zA (C1 _ _ ?_)
 refine zD (fun K8 C8 => ?_)
 refine qD (N := 16) (Held [(⟨b2, 0, none⟩, [.slice ad₁ len₁ cap₁]), (⟨b4, 1, none⟩, [.slice ae₂ le₂ ce₂]), (⟨b4, 0, none⟩, [.slice ad₂ len₂ cap₂]), (⟨b2, 1, none⟩, [.slice ae₁ le₁ ce₁])]) [] kr kr kr j6 ?_
 intro w9 j9 q9 hu9
 refine zX (Held.cons (j9.cells 2 rfl rfl) (Held.cons (j9.cells 1 rfl rfl) (Held.cons (j9.cells 1 rfl rfl) (Held.cons (j9.cells 2 rfl rfl) (Held.nil _))))) (fun hH9 => ?_)
 refine zH (d := 9) (v := .pointer (some ⟨b2, 0, none⟩)) 0 A7 rfl kr kr kw (fun _ => hH9) ?_
 intro a10 A10
 refine zH (d := 10) (v := .pointer (some ⟨b2, 0, none⟩)) 1 A10 rfl kr kr kw (fun _ => hH9) ?_
 intro a11 A11
 refine zY (d := 11) (v := .slice ad₁ len₁ cap₁) 2 A11 rfl kr kr kr (fun w hw => zF (t := 23) (g := false) (vs := [.slice ad₁ len₁ cap₁]) (ad := ⟨b2, 0, none⟩) rfl kr kr ir (hw.get 0 kr)) hH9 ?_
 intro a12 A12
 refine zH (d := 12) (v := .pointer (some ⟨b4, 0, none⟩)) 3 A12 rfl kr kr kw (fun _ => hH9) ?_
 intro a13 A13
 refine zH (d := 13) (v := .pointer (some ⟨b4, 1, none⟩)) 4 A13 rfl kr kr kw (fun _ => hH9) ?_
 intro a14 A14
 refine zY (d := 14) (v := .slice ae₂ le₂ ce₂) 5 A14 rfl kr kr kr (fun w hw => zF (t := 23) (g := false) (vs := [.slice ae₂ le₂ ce₂]) (ad := ⟨b4, 1, none⟩) rfl kr kr ir (hw.get 1 kr)) hH9 ?_
 intro a15 A15
 refine zH (d := 16) (v := .pointer (some ⟨b4, 0, none⟩)) 7 A15 rfl kr kr kw (fun _ => hH9) ?_
 intro a16 A16
 refine zH (d := 17) (v := .pointer (some ⟨b4, 0, none⟩)) 8 A16 rfl kr kr kw (fun _ => hH9) ?_
 intro a17 A17
 refine zY (d := 18) (v := .slice ad₂ len₂ cap₂) 9 A17 rfl kr kr kr (fun w hw => zF (t := 23) (g := false) (vs := [.slice ad₂ len₂ cap₂]) (ad := ⟨b4, 0, none⟩) rfl kr kr ir (hw.get 2 kr)) hH9 ?_
 intro a18 A18
 refine zH (d := 19) (v := .pointer (some ⟨b2, 0, none⟩)) 10 A18 rfl kr kr kw (fun _ => hH9) ?_
 intro a19 A19
 refine zH (d := 20) (v := .pointer (some ⟨b2, 1, none⟩)) 11 A19 rfl kr kr kw (fun _ => hH9) ?_
 intro a20 A20
 refine zY (d := 21) (v := .slice ae₁ le₁ ce₁) 12 A20 rfl kr kr kr (fun w hw => zF (t := 23) (g := false) (vs := [.slice ae₁ le₁ ce₁]) (ad := ⟨b2, 1, none⟩) rfl kr kr ir (hw.get 3 kr)) hH9 ?_
 intro a21 A21
 refine zM [6] kr rfl ?_
 refine ForkT.cons (i := 6) A21 rfl kr (zK (d := 15) (f := 59) (cap := #[]) (vs := #[.slice ad₁ len₁ cap₁, .slice ae₂ le₂ ce₂]) A21 kr j9 rfl kr kr (fun w => Try.call59 _ w) (times_c _ _ j9.lt _ _ _ n₁ (h₁.mono (Le4 q2 q4 q6 q9)) _ _ _ d₂ (k₂.mono (Le4 q2 q4 q6 q9)) (by first | assumption | omega) (by first | assumption | omega) (by first | assumption | omega)) ?_) ForkT.nil
 rintro v22 w22 j22 q22 hu22 ⟨ad22, len22, cap22, rfl, hN22⟩ a23 A23
 refine zI (hH9.up hu22) (fun hH22 => ?_)
 refine zM [13] kr rfl ?_
 refine ForkT.cons (i := 13) A23 rfl kr (zK (d := 22) (f := 59) (cap := #[]) (vs := #[.slice ad₂ len₂ cap₂, .slice ae₁ le₁ ce₁]) A23 kr j22 rfl kr kr (fun w => Try.call59 _ w) (times_c _ _ j22.lt _ _ _ n₂ (h₂.mono (Le5 q2 q4 q6 q9 q22)) _ _ _ d₁ (k₁.mono (Le5 q2 q4 q6 q9 q22)) (by first | assumption | omega) (by first | assumption | omega) (by first | assumption | omega)) ?_) ForkT.nil
 rintro v24 w24 j24 q24 hu24 ⟨ad24, len24, cap24, rfl, hN24⟩ a25 A25
 refine zI (hH22.up hu24) (fun hH24 => ?_)
 refine zH (d := 5) (v := .slice ad22 len22 cap22) 14 A25 rfl kr kr kw (fun _ => hH24) ?_
 intro a26 A26
 refine zH (d := 6) (v := .slice ad24 len24 cap24) 15 A26 rfl kr kr kw (fun _ => hH24) ?_
 intro a27 A27
 refine qB kr (nrm ?_)
 refine zA (C8 _ _ ?_)
 refine zD (fun K28 C28 => ?_)
 have hJ9001 : ∀ a9001 w9001, (∃ (Y9001 : Hid) (b42 : Nat) (ad38 : Option Addr) (len38 : Nat) (cap38 : Nat), Fr 58 a9001 [(2, .pointer (some ⟨b2, 0, none⟩)), (3, .pointer (some ⟨b4, 0, none⟩)), (4, .pointer (some ⟨b6, 0, none⟩)), (5, .slice ad22 len22 cap22), (6, .slice ad24 len24 cap24), (7, .pointer (some ⟨b42, 0, none⟩))] ∧ St E0 w X w9001 Y9001 [(b42, .cells #[.slice none 0 0, .slice ad38 len38 cap38, .bool s₁] 91 (0, 0)), (b6, .cells #[.slice none 0 0, .slice none 0 0, .bool false] 91 (0, 0)), (b4, .cells #[.slice ad₂ len₂ cap₂, .slice ae₂ le₂ ce₂, .bool s₂] 91 (0, 0)), (b2, .cells #[.slice ad₁ len₁ cap₁, .slice ae₁ le₁ ce₁, .bool s₁] 91 (0, 0))] ∧ Le (rd w24 Y6) (rd w9001 Y9001) ∧ (NatR (rd w9001 Y9001) ad38 len38 cap38 (d₁ * d₂))) → K28 a9001 w9001 := by
  rintro a9001 w9001 ⟨Y9001, b42, ad38, len38, cap38, A9001, j9001, q9001, hN38⟩
  refine C28 _ _ ?_
  refine zD (fun K45 C45 => ?_)
  refine zD (fun K46 C46 => ?_)
  refine zC ?_
  refine zB 1 [(34, .pointer (some ⟨b2, 2, none⟩))] A9001 kr kr (fun a47 A47 => ?_)
  refine wplI A47 kr (zJ (d := 35) (v := .bool s₁) A47 kr (zF (t := 4) (g := false) (vs := [.bool s₁]) (ad := ⟨b2, 2, none⟩) rfl kr kr ir (j9001.cells 3 rfl rfl)) ?_)
  intro a48 A48
  refine zB 1 [(36, .pointer (some ⟨b4, 2, none⟩))] A48 kr kr (fun a49 A49 => ?_)
  refine wplI A49 kr (zJ (d := 37) (v := .bool s₂) A49 kr (zF (t := 4) (g := false) (vs := [.bool s₂]) (ad := ⟨b4, 2, none⟩) rfl kr kr ir (j9001.cells 2 rfl rfl)) ?_)
  intro a50 A50
  refine zB 1 [(38, .bool (s₁ == s₂))] A50 kr kr (fun a51 A51 => ?_)
  refine zE ?_
  refine zA (C46 _ _ ?_)
  refine zS (s₁ == s₂) A51 kr kr (fun hc52 => ?_) (fun hc52 => ?_)
  ·
   have A53 := A51.set 38 (v' := .bool true) kr rfl (zG hc52)
   have ht54 : s₁ = s₂ := by simpa using hc52
   refine zD (fun K55 C55 => ?_)
   refine zC ?_
   refine zB 2 [(40, .slice ad24 len24 cap24), (39, .slice ad22 len22 cap22)] A53 kr kr (fun a56 A56 => ?_)
   refine wplI A56 kr (zK (d := 41) (f := 60) (cap := #[]) (vs := #[.slice ad22 len22 cap22, .slice ad24 len24 cap24]) A56 kr j9001 rfl kr kr (fun w => Try.call60 _ w) (plus_c _ _ j9001.lt _ _ _ (n₁ * d₂) (hN22.mono (Le2 q24 q9001)) _ _ _ (n₂ * d₁) (hN24.mono q9001) (by first | assumption | omega) (by first | assumption | omega) (by first | assumption | omega)) ?_)
   rintro v57 w57 j57 q57 hu57 ⟨ad57, len57, cap57, rfl, hN57⟩ a58 A58
   refine zB 2 [(43, .pointer (some ⟨b42, 0, none⟩)), (42, .pointer (some ⟨b42, 0, none⟩))] A58 kr kr (fun a59 A59 => ?_)
   refine wplI A59 kr (zO (t := 23) (b := b42) (off := 0) (c' := #[.slice ad57 len57 cap57, .slice ad38 len38 cap38, .bool s₁]) (g := false) (m := 1) 0 _ A59 kr j57 rfl kr rfl kr kr kr rfl (by first | decide | (simp; done)) kr rfl ?_)
   intro w60 j60 q60
   refine zE ?_
   refine zA (C55 _ _ ?_)
   refine zD (fun K61 C61 => ?_)
   refine zC ?_
   refine wplI A59 kr (zJ (d := 44) (v := .agg #[.slice ad57 len57 cap57, .slice ad38 len38 cap38, .bool s₁]) A59 kr (zF (t := 91) (g := true) (vs := [.slice ad57 len57 cap57, .slice ad38 len38 cap38, .bool s₁]) (ad := ⟨b42, 0, none⟩) rfl kr kr ir (j60.cells 0 rfl rfl)) ?_)
   intro a62 A62
   refine wplI A62 kr (zO (t := 91) (b := b6) (off := 0) (c' := #[.slice ad57 len57 cap57, .slice ad38 len38 cap38, .bool s₁]) (g := true) (m := 3) 1 _ A62 kr j60 rfl kr rfl kr kr kr rfl (by first | decide | (simp; done)) kr rfl ?_)
   intro w63 j63 q63
   refine zE ?_
   refine zA (C61 _ _ ?_)
   refine zQ ?_
   refine zL ?_
   refine zR (v := .agg #[.slice ad57 len57 cap57, .slice ad38 len38 cap38, .bool s₁]) (rs := [.cell 4 91]) A62 kr (Res.cell (ad := ⟨b6, 0, none⟩) (cs := [.slice ad57 len57 cap57, .slice ad38 len38 cap38, .bool s₁]) (g := true) kr kr kr ir (j63.cells 1 rfl rfl) Res.nil) kr ?_
   have hx9 := (hN57.mono (Le2 q60 q63))
   exact ⟨j63.upd, _, rfl, _, _, ⟨_, _, _, _, _, _, rfl, hx9.mono j63.le, (hN38.mono (Le3 q57 q60 q63)).mono j63.le⟩, hp12, sum_same ht54 _ _ _ _⟩
  have A64 := A51.set 38 (v' := .bool false) kr rfl (zG hc52)
  have ht65 : s₁ ≠ s₂ := by simpa using hc52
  refine i_skip ?_
  refine zA (C45 _ _ ?_)
  refine zD (fun K66 C66 => ?_)
  refine zC ?_
  refine zB 1 [(8, .bool false)] A64 kr kr (fun a67 A67 => ?_)
  refine zE ?_
  refine zA (C66 _ _ ?_)
  refine zD (fun K68 C68 => ?_)
  refine zD (fun K69 C69 => ?_)
  refine zC ?_
  refine zB 2 [(47, .slice ad24 len24 cap24), (46, .slice ad22 len22 cap22)] A67 kr kr (fun a70 A70 => ?_)
  refine wplI A70 kr (zK (d := 48) (f := 61) (cap := #[]) (vs := #[.slice ad22 len22 cap22, .slice ad24 len24 cap24]) A70 kr j9001 rfl kr kr (fun w => Try.call61 _ w) (minus_c _ _ j9001.lt _ _ _ (n₁ * d₂) (hN22.mono (Le2 q24 q9001)) _ _ _ (n₂ * d₁) (hN24.mono q9001) (by first | assumption | omega) (by first | assumption | omega)) ?_)
  rintro v71 w71 j71 q71 hu71 ⟨u71, rfl, ⟨ad71, len71, cap71, rfl, hN71⟩⟩ a72 A72
  refine zB 5 [(52, .pointer (some ⟨b42, 0, none⟩)), (51, .pointer (some ⟨b42, 0, none⟩)), (50, .bool (decide ((n₁ * d₂) < (n₂ * d₁)))), (49, .slice ad71 len71 cap71), (45, .tuple #[.slice ad71 len71 cap71, .bool (decide ((n₁ * d₂) < (n₂ * d₁)))])] A72 kr kr (fun a73 A73 => ?_)
  refine wplI A73 kr (zO (t := 23) (b := b42) (off := 0) (c' := #[.slice ad71 len71 cap71, .slice ad38 len38 cap38, .bool s₁]) (g := false) (m := 1) 0 _ A73 kr j71 rfl kr rfl kr kr kr rfl (by first | decide | (simp; done)) kr rfl ?_)
  intro w74 j74 q74
  refine zB 1 [(8, .bool (decide ((n₁ * d₂) < (n₂ * d₁))))] A73 kr kr (fun a75 A75 => ?_)
  refine zE ?_
  refine zA (C69 _ _ ?_)
  refine zD (fun K76 C76 => ?_)
  refine zC ?_
  refine zB 1 [(53, .bool (decide ((n₁ * d₂) < (n₂ * d₁))))] A75 kr kr (fun a77 A77 => ?_)
  refine zE ?_
  refine zA (C76 _ _ ?_)
  refine zS (decide ((n₁ * d₂) < (n₂ * d₁))) A77 kr kr (fun hc78 => ?_) (fun hc78 => ?_)
  ·
   have A79 := A77.set 53 (v' := .bool true) kr rfl (zG hc78)
   have ht80 : (n₁ * d₂) < (n₂ * d₁) := of_decide_eq_true hc78
   refine zC ?_
   refine zB 1 [(54, .pointer (some ⟨b4, 2, none⟩))] A79 kr kr (fun a81 A81 => ?_)
   refine wplI A81 kr (zJ (d := 55) (v := .bool s₂) A81 kr (zF (t := 4) (g := false) (vs := [.bool s₂]) (ad := ⟨b4, 2, none⟩) rfl kr kr ir (j74.cells 2 rfl rfl)) ?_)
   intro a82 A82
   refine zB 1 [(56, .pointer (some ⟨b42, 2, none⟩))] A82 kr kr (fun a83 A83 => ?_)
   refine wplI A83 kr (zO (t := 4) (b := b42) (off := 2) (c' := #[.slice ad71 len71 cap71, .slice ad38 len38 cap38, .bool s₂]) (g := false) (m := 1) 0 _ A83 kr j74 rfl kr rfl kr kr kr rfl (by first | decide | (simp; done)) kr rfl ?_)
   intro w84 j84 q84
   refine zE ?_
   refine zA (C68 _ _ ?_)
   refine zD (fun K85 C85 => ?_)
   refine zC ?_
   refine wplI A83 kr (zJ (d := 57) (v := .agg #[.slice ad71 len71 cap71, .slice ad38 len38 cap38, .bool s₂]) A83 kr (zF (t := 91) (g := true) (vs := [.slice ad71 len71 cap71, .slice ad38 len38 cap38, .bool s₂]) (ad := ⟨b42, 0, none⟩) rfl kr kr ir (j84.cells 0 rfl rfl)) ?_)
   intro a86 A86
   refine wplI A86 kr (zO (t := 91) (b := b6) (off := 0) (c' := #[.slice ad71 len71 cap71, .slice ad38 len38 cap38, .bool s₂]) (g := true) (m := 3) 1 _ A86 kr j84 rfl kr rfl kr kr kr rfl (by first | decide | (simp; done)) kr rfl ?_)
   intro w87 j87 q87
   refine zE ?_
   refine zA (C85 _ _ ?_)
   refine zQ ?_
   refine zR (v := .agg #[.slice ad71 len71 cap71, .slice ad38 len38 cap38, .bool s₂]) (rs := [.cell 4 91]) A86 kr (Res.cell (ad := ⟨b6, 0, none⟩) (cs := [.slice ad71 len71 cap71, .slice ad38 len38 cap38, .bool s₂]) (g := true) kr kr kr ir (j87.cells 1 rfl rfl) Res.nil) kr ?_
   have hx9 := (hN71.mono (Le3 q74 q84 q87))
   rw [if_pos ht80] at hx9
   exact ⟨j87.upd, _, rfl, _, _, ⟨_, _, _, _, _, _, rfl, hx9.mono j87.le, (hN38.mono (Le4 q71 q74 q84 q87)).mono j87.le⟩, Nat.lt_of_le_of_lt (Nat.sub_le _ _) hp2, sum_lt ht65 ht80⟩
  have A88 := A77.set 53 (v' := .bool false) kr rfl (zG hc78)
  have ht89 : ¬ ((n₁ * d₂) < (n₂ * d₁)) := of_decide_eq_false hc78
  refine i_skip ?_
  refine zA (C68 _ _ ?_)
  refine zD (fun K90 C90 => ?_)
  refine zC ?_
  refine wplI A88 kr (zJ (d := 57) (v := .agg #[.slice ad71 len71 cap71, .slice ad38 len38 cap38, .bool s₁]) A88 kr (zF (t := 91) (g := true) (vs := [.slice ad71 len71 cap71, .slice ad38 len38 cap38, .bool s₁]) (ad := ⟨b42, 0, none⟩) rfl kr kr ir (j74.cells 0 rfl rfl)) ?_)
  intro a91 A91
  refine wplI A91 kr (zO (t := 91) (b := b6) (off := 0) (c' := #[.slice ad71 len71 cap71, .slice ad38 len38 cap38, .bool s₁]) (g := true) (m := 3) 1 _ A91 kr j74 rfl kr rfl kr kr kr rfl (by first | decide | (simp; done)) kr rfl ?_)
  intro w92 j92 q92
  refine zE ?_
  refine zA (C90 _ _ ?_)
  refine zQ ?_
  refine zR (v := .agg #[.slice ad71 len71 cap71, .slice ad38 len38 cap38, .bool s₁]) (rs := [.cell 4 91]) A91 kr (Res.cell (ad := ⟨b6, 0, none⟩) (cs := [.slice ad71 len71 cap71, .slice ad38 len38 cap38, .bool s₁]) (g := true) kr kr kr ir (j92.cells 1 rfl rfl) Res.nil) kr ?_
  have hx9 := (hN71.mono (Le2 q74 q92))
  rw [if_neg ht89] at hx9
  exact ⟨j92.upd, _, rfl, _, _, ⟨_, _, _, _, _, _, rfl, hx9.mono j92.le, (hN38.mono (Le3 q71 q74 q92)).mono j92.le⟩, Nat.lt_of_le_of_lt (Nat.sub_le _ _) hp1, sum_ge ht65 (by omega)⟩
 refine qD (N := 13) (Held [(⟨b2, 1, none⟩, [.slice ae₁ le₁ ce₁]), (⟨b4, 1, none⟩, [.slice ae₂ le₂ ce₂]), (⟨b2, 2, none⟩, [.bool s₁])]) [12] kr kr kr j24 ?_
 intro w29 j29 q29 hu29
 refine zX (Held.cons (j29.cells 2 rfl rfl) (Held.cons (j29.cells 1 rfl rfl) (Held.cons (j29.cells 2 rfl rfl) (Held.nil _)))) (fun hH29 => ?_)
 refine zH (d := 23) (v := .pointer (some ⟨b2, 0, none⟩)) 0 A27 rfl kr kr kw (fun _ => hH29) ?_
 intro a30 A30
 refine zH (d := 24) (v := .pointer (some ⟨b2, 1, none⟩)) 1 A30 rfl kr kr kw (fun _ => hH29) ?_
 intro a31 A31
 refine zY (d := 25) (v := .slice ae₁ le₁ ce₁) 2 A31 rfl kr kr kr (fun w hw => zF (t := 23) (g := false) (vs := [.slice ae₁ le₁ ce₁]) (ad := ⟨b2, 1, none⟩) rfl kr kr ir (hw.get 0 kr)) hH29 ?_
 intro a32 A32
 refine zH (d := 26) (v := .pointer (some ⟨b4, 0, none⟩)) 3 A32 rfl kr kr kw (fun _ => hH29) ?_
 intro a33 A33
 refine zH (d := 27) (v := .pointer (some ⟨b4, 1, none⟩)) 4 A33 rfl kr kr kw (fun _ => hH29) ?_
 intro a34 A34
 refine zY (d := 28) (v := .slice ae₂ le₂ ce₂) 5 A34 rfl kr kr kr (fun w hw => zF (t := 23) (g := false) (vs := [.slice ae₂ le₂ ce₂]) (ad := ⟨b4, 1, none⟩) rfl kr kr ir (hw.get 1 kr)) hH29 ?_
 intro a35 A35
 refine zH (d := 31) (v := .pointer (some ⟨b2, 2, none⟩)) 8 A35 rfl kr kr kw (fun _ => hH29) ?_
 intro a36 A36
 refine zY (d := 32) (v := .bool s₁) 9 A36 rfl kr kr kr (fun w hw => zF (t := 4) (g := false) (vs := [.bool s₁]) (ad := ⟨b2, 2, none⟩) rfl kr kr ir (hw.get 2 kr)) hH29 ?_
 intro a37 A37
 refine zM [6, 11] kr rfl ?_
 refine ForkT.cons (i := 6) A37 rfl kr ?_ ?_
 ·
  refine zK (d := 29) (f := 59) (cap := #[]) (vs := #[.slice ae₁ le₁ ce₁, .slice ae₂ le₂ ce₂]) A37 kr j29 rfl kr kr (fun w => Try.call59 _ w) (times_c _ _ j29.lt _ _ _ d₁ (k₁.mono (Le7 q2 q4 q6 q9 q22 q24 q29)) _ _ _ d₂ (k₂.mono (Le7 q2 q4 q6 q9 q22 q24 q29)) (by first | assumption | omega) (by first | assumption | omega) (by first | assumption | omega)) ?_
  rintro v38 w38 j38 q38 hu38 ⟨ad38, len38, cap38, rfl, hN38⟩ a39 A39
  refine zI (hH29.up hu38) (fun hH38 => ?_)
  refine zH (d := 30) (v := .agg #[.slice none 0 0, .slice ad38 len38 cap38]) 7 A39 rfl kr kr kw (fun _ => hH38) ?_
  intro a40 A40
  refine zH (d := 33) (v := .agg #[.slice none 0 0, .slice ad38 len38 cap38, .bool s₁]) 10 A40 rfl kr kr kw (fun _ => hH38) ?_
  intro a41 A41
  refine zM [11] kr rfl ?_
  refine ForkT.cons (i := 11) A41 rfl kr (zN (d := 7) (fun b => .pointer (some ⟨b, 0, none⟩)) (.cells #[.slice none 0 0, .slice none 0 0, .bool false] 91 (0, 0)) A41 kr j38 kw ?_) ForkT.nil
  intro b42 w42 Y42 j42 q42 hu42 a43 A43
  refine zI (hH38.up hu42) (fun hH42 => ?_)
  refine zM [12] kr rfl ?_
  refine ForkT.cons (i := 12) A43 rfl kr (zO (t := 91) (b := b42) (off := 0) (c' := #[.slice none 0 0, .slice ad38 len38 cap38, .bool s₁]) (g := true) (m := 3) 0 _ A43 kr j42 rfl kr rfl kr kr kr rfl (by first | decide | (simp; done)) kr rfl ?_) ForkT.nil
  intro w44 j44 q44
  refine ⟨begun_tt kr, ?_⟩
  refine qB kr (nrm ?_)
  exact zA (hJ9001 _ _ ⟨_, b42, ad38, len38, cap38, A43.as [2, 3, 4, 5, 6, 7] kr kr, j44, (Le4 q29 q38 q42 q44), (hN38.mono (Le2 q42 q44))⟩)
 refine ForkT.cons (i := 11) A37 rfl kr (zN (d := 7) (fun b => .pointer (some ⟨b, 0, none⟩)) (.cells #[.slice none 0 0, .slice none 0 0, .bool false] 91 (0, 0)) A37 kr j29 kw ?_) ForkT.nil
 intro b45 w45 Y45 j45 q45 hu45 a46 A46
 refine zI (hH29.up hu45) (fun hH45 => ?_)
 refine zM [6] kr rfl ?_
 refine ForkT.cons (i := 6) A46 rfl kr (zK (d := 29) (f := 59) (cap := #[]) (vs := #[.slice ae₁ le₁ ce₁, .slice ae₂ le₂ ce₂]) A46 kr j45 rfl kr kr (fun w => Try.call59 _ w) (times_c _ _ j45.lt _ _ _ d₁ (k₁.mono (Le8 q2 q4 q6 q9 q22 q24 q29 q45)) _ _ _ d₂ (k₂.mono (Le8 q2 q4 q6 q9 q22 q24 q29 q45)) (by first | assumption | omega) (by first | assumption | omega) (by first | assumption | omega)) ?_) ForkT.nil
 rintro v47 w47 j47 q47 hu47 ⟨ad47, len47, cap47, rfl, hN47⟩ a48 A48
 refine zI (hH45.up hu47) (fun hH47 => ?_)
 refine zH (d := 30) (v := .agg #[.slice none 0 0, .slice ad47 len47 cap47]) 7 A48 rfl kr kr kw (fun _ => hH47) ?_
 intro a49 A49
 refine zH (d := 33) (v := .agg #[.slice none 0 0, .slice ad47 len47 cap47, .bool s₁]) 10 A49 rfl kr kr kw (fun _ => hH47) ?_
 intro a50 A50
 refine zM [12] kr rfl ?_
 refine ForkT.cons (i := 12) A50 rfl kr (zO (t := 91) (b := b45) (off := 0) (c' := #[.slice none 0 0, .slice ad47 len47 cap47, .bool s₁]) (g := true) (m := 3) 0 _ A50 kr j47 rfl kr rfl kr kr kr rfl (by first | decide | (simp; done)) kr rfl ?_) ForkT.nil
 intro w51 j51 q51
 refine ⟨begun_tt kr, ?_⟩
 refine qB kr (nrm ?_)
 exact zA (hJ9001 _ _ ⟨_, b45, ad47, len47, cap47, A50.as [2, 3, 4, 5, 6, 7] kr kr, j51, (Le4 q29 q45 q47 q51), (hN47.mono q51)⟩)
theorem product_c (w : World) (X : Hid) (hX : ∀ k o, X k o → k < w.heap.size) (ad₁ : Option Addr) (len₁ cap₁ n₁ : Nat) (h₁ : NatR (rd w X) ad₁ len₁ cap₁ n₁) (ae₁ : Option Addr) (le₁ ce₁ d₁ : Nat) (k₁ : NatR (rd w X) ae₁ le₁ ce₁ d₁) (s₁ : Bool) (hn₁ : n₁ < K128) (hd₁ : d₁ < K128) (ad₂ : Option Addr) (len₂ cap₂ n₂ : Nat) (h₂ : NatR (rd w X) ad₂ len₂ cap₂ n₂) (ae₂ : Option Addr) (le₂ ce₂ d₂ : Nat) (k₂ : NatR (rd w X) ae₂ le₂ ce₂ d₂) (s₂ : Bool) (hn₂ : n₂ < K128) (hd₂ : d₂ < K128) : Calls Try.prog 38 #[.agg #[.slice ad₁ len₁ cap₁, .slice ae₁ le₁ ce₁, .bool s₁], .agg #[.slice ad₂ len₂ cap₂, .slice ae₂ le₂ ce₂, .bool s₂]] w (Ret E0 w fun w' v => ∃ s m, ValX X w' v s m (d₁ * d₂) ∧ m < 4294967296 ^ 512 ∧ sgn s m = sgn s₁ n₁ * sgn s₂ n₂) := by
 refine zZ (n := 26) (vs := [.agg #[.slice ad₁ len₁ cap₁, .slice ae₁ le₁ ce₁, .bool s₁], .agg #[.slice ad₂ len₂ cap₂, .slice ae₂ le₂ ce₂, .bool s₂]]) Try.func38 rfl rfl rfl kr (fun a0 A0 => ?_)
 have A0 : Fr 26 a0 [(0, .agg #[.slice ad₁ len₁ cap₁, .slice ae₁ le₁ ce₁, .bool s₁]), (1, .agg #[.slice ad₂ len₂ cap₂, .slice ae₂ le₂ ce₂, .bool s₂])] := A0
 have j0 : St E0 w X w X [] := St.start hX
 have hb : ∀ {x : Nat}, x < K128 → x < 4294967296 ^ 512 := fun h => Nat.lt_of_lt_of_le h k512
 have hbn1 := hb hn₁
 have hbn2 := hb hn₂
 have hbd1 := hb hd₁
 have hbd2 := hb hd₂
 obtain ⟨hp1, hp12⟩ := prod512 hn₁ hd₂ hn₂ hd₁
 have hp2 := (prod512 hn₂ hd₁ hn₁ hd₂).1
 have hpd := (prod512 hd₁ hd₂ hd₁ hd₂).1
 have hpn := (prod512 hn₁ hn₂ hd₁ hd₂).1
 refine zD (fun K1 C1 => ?_)
 refine zC ?_
 refine wplI A0 kr (zN (d := 2) (fun b => .pointer (some ⟨b, 0, none⟩)) (.cells #[.slice ad₁ len₁ cap₁, .slice ae₁ le₁ ce₁, .bool s₁] 91 (0, 0)) A0 kr j0 kw ?_)
 intro b2 w2 Y2 j2 q2 hu2 a3 A3
 refine wplI A3 kr (zN (d := 3) (fun b => .pointer (some ⟨b, 0, none⟩)) (.cells #[.slice ad₂ len₂ cap₂, .slice ae₂ le₂ ce₂, .bool s₂] 91 (0, 0)) A3 kr j2 kw ?_)
 intro b4 w4 Y4 j4 q4 hu4 a5 A5
 refine wplI A5 kr (zN (d := 4) (fun b => .pointer (some ⟨b, 0, none⟩)) (.cells #[.slice none 0 0, .slice none 0 0, .bool false] 91 (0, 0)) A5 kr j4 kw ?_)
 intro b6 w6 Y6 j6 q6 hu6 a7 A7
 refine zE ?_
 refine zA (C1 _ _ ?_)
 refine zD (fun K8 C8 => ?_)
 refine qD (N := 22) (Held [(⟨b2, 0, none⟩, [.slice ad₁ len₁ cap₁]), (⟨b4, 0, none⟩, [.slice ad₂ len₂ cap₂]), (⟨b2, 1, none⟩, [.slice ae₁ le₁ ce₁]), (⟨b4, 1, none⟩, [.slice ae₂ le₂ ce₂]), (⟨b2, 2, none⟩, [.bool s₁]), (⟨b4, 2, none⟩, [.bool s₂])]) [21] kr kr kr j6 ?_
 intro w9 j9 q9 hu9
 refine zX (Held.cons (j9.cells 2 rfl rfl) (Held.cons (j9.cells 1 rfl rfl) (Held.cons (j9.cells 2 rfl rfl) (Held.cons (j9.cells 1 rfl rfl) (Held.cons (j9.cells 2 rfl rfl) (Held.cons (j9.cells 1 rfl rfl) (Held.nil _))))))) (fun hH9 => ?_)
 refine zH (d := 5) (v := .pointer (some ⟨b2, 0, none⟩)) 0 A7 rfl kr kr kw (fun _ => hH9) ?_
 intro a10 A10
 refine zH (d := 6) (v := .pointer (some ⟨b2, 0, none⟩)) 1 A10 rfl kr kr kw (fun _ => hH9) ?_
 intro a11 A11
 refine zY (d := 7) (v := .slice ad₁ len₁ cap₁) 2 A11 rfl kr kr kr (fun w hw => zF (t := 23) (g := false) (vs := [.slice ad₁ len₁ cap₁]) (ad := ⟨b2, 0, none⟩) rfl kr kr ir (hw.get 0 kr)) hH9 ?_
 intro a12 A12
 refine zH (d := 8) (v := .pointer (some ⟨b4, 0, none⟩)) 3 A12 rfl kr kr kw (fun _ => hH9) ?_
 intro a13 A13
 refine zH (d := 9) (v := .pointer (some ⟨b4, 0, none⟩)) 4 A13 rfl kr kr kw (fun _ => hH9) ?_
 intro a14 A14
 refine zY (d := 10) (v := .slice ad₂ len₂ cap₂) 5 A14 rfl kr kr kr (fun w hw => zF (t := 23) (g := false) (vs := [.slice ad₂ len₂ cap₂]) (ad := ⟨b4, 0, none⟩) rfl kr kr ir (hw.get 1 kr)) hH9 ?_
 intro a15 A15
 refine zH (d := 12) (v := .pointer (some ⟨b2, 0, none⟩)) 7 A15 rfl kr kr kw (fun _ => hH9) ?_
 intro a16 A16
 refine zH (d := 13) (v := .pointer (some ⟨b2, 1, none⟩)) 8 A16 rfl kr kr kw (fun _ => hH9) ?_
 intro a17 A17
 refine zY (d := 14) (v := .slice ae₁ le₁ ce₁) 9 A17 rfl kr kr kr (fun w hw => zF (t := 23) (g := false) (vs := [.slice ae₁ le₁ ce₁]) (ad := ⟨b2, 1, none⟩) rfl kr kr ir (hw.get 2 kr)) hH9 ?_
 intro a18 A18
 refine zH (d := 15) (v := .pointer (some ⟨b4, 0, none⟩)) 10 A18 rfl kr kr kw (fun _ => hH9) ?_
 intro a19 A19
 refine zH (d := 16) (v := .pointer (some ⟨b4, 1, none⟩)) 11 A19 rfl kr kr kw (fun _ => hH9) ?_
 intro a20 A20
 refine zY (d := 17) (v := .slice ae₂ le₂ ce₂) 12 A20 rfl kr kr kr (fun w hw => zF (t := 23) (g := false) (vs := [.slice ae₂ le₂ ce₂]) (ad := ⟨b4, 1, none⟩) rfl kr kr ir (hw.get 3 kr)) hH9 ?_
 intro a21 A21
 refine zH (d := 20) (v := .pointer (some ⟨b2, 2, none⟩)) 15 A21 rfl kr kr kw (fun _ => hH9) ?_
 intro a22 A22
 refine zY (d := 21) (v := .bool s₁) 16 A22 rfl kr kr kr (fun w hw => zF (t := 4) (g := false) (vs := [.bool s₁]) (ad := ⟨b2, 2, none⟩) rfl kr kr ir (hw.get 4 kr)) hH9 ?_
 intro a23 A23
 refine zH (d := 22) (v := .pointer (some ⟨b4, 2, none⟩)) 17 A23 rfl kr kr kw (fun _ => hH9) ?_
 intro a24 A24
 refine zY (d := 23) (v := .bool s₂) 18 A24 rfl kr kr kr (fun w hw => zF (t := 4) (g := false) (vs := [.bool s₂]) (ad := ⟨b4, 2, none⟩) rfl kr kr ir (hw.get 5 kr)) hH9 ?_
 intro a25 A25
 refine zH (d := 24) (v := .bool (!(s₁ == s₂))) 19 A25 rfl kr kr kw (fun _ => hH9) ?_
 intro a26 A26
 refine zM [6] kr rfl ?_
 refine ForkT.cons (i := 6) A26 rfl kr (zK (d := 11) (f := 59) (cap := #[]) (vs := #[.slice ad₁ len₁ cap₁, .slice ad₂ len₂ cap₂]) A26 kr j9 rfl kr kr (fun w => Try.call59 _ w) (times_c _ _ j9.lt _ _ _ n₁ (h₁.mono (Le4 q2 q4 q6 q9)) _ _ _ n₂ (h₂.mono (Le4 q2 q4 q6 q9)) (by first | assumption | omega) (by first | assumption | omega) (by first | assumption | omega)) ?_) ForkT.nil
 rintro v27 w27 j27 q27 hu27 ⟨ad27, len27, cap27, rfl, hN27⟩ a28 A28
 refine zI (hH9.up hu27) (fun hH27 => ?_)
 refine zM [13] kr rfl ?_
 refine ForkT.cons (i := 13) A28 rfl kr (zK (d := 18) (f := 59) (cap := #[]) (vs := #[.slice ae₁ le₁ ce₁, .slice ae₂ le₂ ce₂]) A28 kr j27 rfl kr kr (fun w => Try.call59 _ w) (times_c _ _ j27.lt _ _ _ d₁ (k₁.mono (Le5 q2 q4 q6 q9 q27)) _ _ _ d₂ (k₂.mono (Le5 q2 q4 q6 q9 q27)) (by first | assumption | omega) (by first | assumption | omega) (by first | assumption | omega)) ?_) ForkT.nil
 rintro v29 w29 j29 q29 hu29 ⟨ad29, len29, cap29, rfl, hN29⟩ a30 A30
 refine zI (hH27.up hu29) (fun hH29 => ?_)
 refine zH (d := 19) (v := .agg #[.slice ad27 len27 cap27, .slice ad29 len29 cap29]) 14 A30 rfl kr kr kw (fun _ => hH29) ?_
 intro a31 A31
 refine zH (d := 25) (v := .agg #[.slice ad27 len27 cap27, .slice ad29 len29 cap29, .bool (!(s₁ == s₂))]) 20 A31 rfl kr kr kw (fun _ => hH29) ?_
 intro a32 A32
 refine zM [21] kr rfl ?_
 refine ForkT.cons (i := 21) A32 rfl kr (zO (t := 91) (b := b6) (off := 0) (c' := #[.slice ad27 len27 cap27, .slice ad29 len29 cap29, .bool (!(s₁ == s₂))]) (g := true) (m := 3) 0 _ A32 kr j29 rfl kr rfl kr kr kr rfl (by first | decide | (simp; done)) kr rfl ?_) ForkT.nil
 intro w33 j33 q33
 refine ⟨begun_tt kr, ?_⟩
 refine qB kr (nrm ?_)
 refine zA (C8 _ _ ?_)
 refine zQ ?_
 refine zR (v := .agg #[.slice ad27 len27 cap27, .slice ad29 len29 cap29, .bool (!(s₁ == s₂))]) (rs := [.cell 4 91]) A32 kr (Res.cell (ad := ⟨b6, 0, none⟩) (cs := [.slice ad27 len27 cap27, .slice ad29 len29 cap29, .bool (!(s₁ == s₂))]) (g := true) kr kr kr ir (j33.cells 0 rfl rfl) Res.nil) kr ?_
 exact ⟨j33.upd, _, rfl, _, _, ⟨_, _, _, _, _, _, rfl, (hN27.mono (Le2 q29 q33)).mono j33.le, (hN29.mono q33).mono j33.le⟩, hpn, sgn_mul _ _ _ _⟩
end Go.Proofs.Ytoocgllbbihoaaa
namespace Go.Proofs.Ytoocgllbbihoaaa
open Go Go.Gv Go.RowKit
set_option maxRecDepth 100000
set_option maxHeartbeats 1000000
theorem chk_4 {a : Raw} (h : 128 < a.ln.length ∨ 128 < a.ld.length) : a.chk = 4 := if_pos h
theorem chk_2 {a : Raw} (h : ¬ (128 < a.ln.length ∨ 128 < a.ld.length)) (h2 : chkN a.ln ≠ 0 ∨ chkN a.ld ≠ 0 ∨ val a.ld = 1 ∨ (val a.ln = 0 ∧ (a.neg = true ∨ 0 < val a.ld))) : a.chk = 2 := (if_neg h).trans (if_pos h2)
theorem chk_g {a : Raw} (h : ¬ (128 < a.ln.length ∨ 128 < a.ld.length)) (h2 : ¬ (chkN a.ln ≠ 0 ∨ chkN a.ld ≠ 0 ∨ val a.ld = 1 ∨ (val a.ln = 0 ∧ (a.neg = true ∨ 0 < val a.ld)))) (h3 : 0 < val a.ld ∧ Nat.gcd (val a.ln) (val a.ld) ≠ 1) : a.chk = 2 := (if_neg h).trans ((if_neg h2).trans (if_pos h3))
theorem chk_0 {a : Raw} (h : ¬ (128 < a.ln.length ∨ 128 < a.ld.length)) (h2 : ¬ (chkN a.ln ≠ 0 ∨ chkN a.ld ≠ 0 ∨ val a.ld = 1 ∨ (val a.ln = 0 ∧ (a.neg = true ∨ 0 < val a.ld)))) (h3 : ¬ (0 < val a.ld ∧ Nat.gcd (val a.ln) (val a.ld) ≠ 1)) : a.chk = 0 := (if_neg h).trans ((if_neg h2).trans (if_neg h3))
theorem canon_len0 {l : List Nat} (hc : Canon l) : l.length = 0 ↔ val l = 0 := by
  constructor
  · intro h; rw [List.eq_nil_of_length_eq_zero h]; rfl
  · intro h; rw [canon_zero hc h]; rfl
theorem rcheck_c (w : World) (X : Hid) (hX : ∀ k o, X k o → k < w.heap.size) (a : Raw) (ad : Option Addr) (len cap : Nat) (h : Limbs (rd w X) ad len cap a.ln) (ad2 : Option Addr) (len2 cap2 : Nat) (h2 : Limbs (rd w X) ad2 len2 cap2 a.ld) : Calls Try.prog 15 #[.agg #[.bool a.neg, .slice ad len cap, .slice ad2 len2 cap2]] w (Ret E0 w fun _ v => v = .int .i64 a.chk) := by
 obtain rfl := h.hlen
 obtain rfl := h2.hlen
 have hcap := h.hcap
 have hbig := h.hbig
 have hcap2 := h2.hcap
 have hbig2 := h2.hbig
 refine zZ (n := 59) (vs := [.agg #[.bool a.neg, .slice ad a.ln.length cap, .slice ad2 a.ld.length cap2]]) Try.func15 rfl rfl rfl kr (fun a0 A0 => ?_)
 have A0 : Fr 59 a0 [(0, .agg #[.bool a.neg, .slice ad a.ln.length cap, .slice ad2 a.ld.length cap2])] := A0
 have j0 : St E0 w X w X [] := St.start hX
 refine zD (fun K1 C1 => ?_)
 refine zC ?_
 refine wplI A0 kr (zN (d := 1) (fun b => .pointer (some ⟨b, 0, none⟩)) (.cells #[.bool a.neg, .slice ad a.ln.length cap, .slice ad2 a.ld.length cap2] 25 (0, 0)) A0 kr j0 kw ?_)
 intro b2 w2 Y2 j2 q2 hu2 a3 A3
 refine zB 1 [(2, .int .i64 0)] A3 kr kr (fun a4 A4 => ?_)
 refine zE ?_
 refine zA (C1 _ _ ?_)
 refine zD (fun K5 C5 => ?_)
 refine zV ?_
 refine zD (fun K6 C6 => ?_)
 refine zC ?_
 refine zB 1 [(6, .pointer (some ⟨b2, 1, none⟩))] A4 kr kr (fun a7 A7 => ?_)
 refine wplI A7 kr (zJ (d := 7) (v := .slice ad a.ln.length cap) A7 kr (zF (t := 23) (g := false) (vs := [.slice ad a.ln.length cap]) (ad := ⟨b2, 1, none⟩) rfl kr kr ir (j2.cells 0 rfl rfl)) ?_)
 intro a8 A8
 refine zB 3 [(10, .bool (decide ((a.ln.length : Int) > 128))), (9, .bool (decide ((a.ln.length : Int) > 128))), (8, .int .i64 (a.ln.length : Int))] A8 kr kr (fun a9 A9 => ?_)
 rcases Bool.eq_false_or_eq_true (decide ((a.ln.length : Int) > 128)) with hc10 | hc10
 ·
  have A11 := A9.set 10 (v' := .bool true) kr rfl (zG hc10)
  have ht12 : (a.ln.length : Int) > 128 := of_decide_eq_true hc10
  refine zB 6 [(5, .bool true), (15, .bool true), (14, undef), (13, undef), (12, undef), (11, undef)] A11 kr kr (fun a13 A13 => ?_)
  refine zE ?_
  refine zA (C6 _ _ ?_)
  refine qG A13 kr kr ?_
  refine zD (fun K14 C14 => ?_)
  refine zC ?_
  refine zB 1 [(2, .int .i64 4)] A13 kr kr (fun a15 A15 => ?_)
  refine zE ?_
  refine zA (C14 _ _ ?_)
  refine zQ ?_
  refine zU ?_
  refine zL ?_
  refine zR (v := .int .i64 4) (rs := [.tmp 2]) A15 kr (Res.tmp kr Res.nil) kr ?_
  exact ⟨j2.upd, _, rfl, vint (chk_4 (by omega)).symm⟩
 have A16 := A9.set 10 (v' := .bool false) kr rfl (zG hc10)
 have ht17 : ¬ ((a.ln.length : Int) > 128) := of_decide_eq_false hc10
 refine zB 1 [(11, .pointer (some ⟨b2, 2, none⟩))] A16 kr kr (fun a18 A18 => ?_)
 refine wplI A18 kr (zJ (d := 12) (v := .slice ad2 a.ld.length cap2) A18 kr (zF (t := 23) (g := false) (vs := [.slice ad2 a.ld.length cap2]) (ad := ⟨b2, 2, none⟩) rfl kr kr ir (j2.cells 0 rfl rfl)) ?_)
 intro a19 A19
 refine zB 4 [(5, .bool (decide ((a.ld.length : Int) > 128))), (15, .bool (decide ((a.ld.length : Int) > 128))), (14, .bool (decide ((a.ld.length : Int) > 128))), (13, .int .i64 (a.ld.length : Int))] A19 kr kr (fun a20 A20 => ?_)
 refine zE ?_
 refine zA (C6 _ _ ?_)
 refine zS (decide ((a.ld.length : Int) > 128)) A20 kr kr (fun hc21 => ?_) (fun hc21 => ?_)
 ·
  have A22 := A20.set 5 (v' := .bool true) kr rfl (zG hc21)
  have ht23 : (a.ld.length : Int) > 128 := of_decide_eq_true hc21
  refine zD (fun K24 C24 => ?_)
  refine zC ?_
  refine zB 1 [(2, .int .i64 4)] A22 kr kr (fun a25 A25 => ?_)
  refine zE ?_
  refine zA (C24 _ _ ?_)
  refine zQ ?_
  refine zU ?_
  refine zL ?_
  refine zR (v := .int .i64 4) (rs := [.tmp 2]) A25 kr (Res.tmp kr Res.nil) kr ?_
  exact ⟨j2.upd, _, rfl, vint (chk_4 (by omega)).symm⟩
 have A26 := A20.set 5 (v' := .bool false) kr rfl (zG hc21)
 have ht27 : ¬ ((a.ld.length : Int) > 128) := of_decide_eq_false hc21
 have hlong : ¬ (128 < a.ln.length ∨ 128 < a.ld.length) := by omega
 refine zD (fun K28 C28 => ?_)
 refine zD (fun K29 C29 => ?_)
 refine zC ?_
 refine zB 1 [(17, .pointer (some ⟨b2, 1, none⟩))] A26 kr kr (fun a30 A30 => ?_)
 refine wplI A30 kr (zJ (d := 18) (v := .slice ad a.ln.length cap) A30 kr (zF (t := 23) (g := false) (vs := [.slice ad a.ln.length cap]) (ad := ⟨b2, 1, none⟩) rfl kr kr ir (j2.cells 0 rfl rfl)) ?_)
 intro a31 A31
 refine wplI A31 kr (zK (d := 19) (f := 33) (cap := #[]) (vs := #[.slice ad a.ln.length cap]) A31 kr j2 rfl kr kr (fun w => Try.call33 _ w) (bcheck _ X0 (X0_lt _) _ _ _ a.ln ((h.mono q2).mono Le.x0)) ?_)
 rintro v32 w32 j32 q32 hu32 rfl a33 A33
 refine zB 2 [(21, .bool ((chkN a.ln) != 0)), (20, .bool ((chkN a.ln) != 0))] A33 kr kr (fun a34 A34 => ?_)
 rcases Bool.eq_false_or_eq_true ((chkN a.ln) != 0) with hc35 | hc35
 ·
  have A36 := A34.set 21 (v' := .bool true) kr rfl (zG hc35)
  have ht37 : (chkN a.ln) ≠ 0 := by simpa using hc35
  refine zB 6 [(16, .bool true), (26, .bool true), (25, undef), (24, undef), (23, undef), (22, undef)] A36 kr kr (fun a38 A38 => ?_)
  refine zE ?_
  refine zA (C29 _ _ ?_)
  refine qG A38 kr kr ?_
  refine i_skip ?_
  refine zA (C28 _ _ ?_)
  refine qG A38 kr kr ?_
  refine zD (fun K39 C39 => ?_)
  refine zC ?_
  refine zB 1 [(2, .int .i64 2)] A38 kr kr (fun a40 A40 => ?_)
  refine zE ?_
  refine zA (C39 _ _ ?_)
  refine zQ ?_
  refine zU ?_
  refine zL ?_
  refine zR (v := .int .i64 2) (rs := [.tmp 2]) A40 kr (Res.tmp kr Res.nil) kr ?_
  exact ⟨j32.upd, _, rfl, vint (chk_2 hlong (.inl ht37)).symm⟩
 have A41 := A34.set 21 (v' := .bool false) kr rfl (zG hc35)
 have ht42 : (chkN a.ln) = 0 := by simpa using hc35
 refine zB 1 [(22, .pointer (some ⟨b2, 2, none⟩))] A41 kr kr (fun a43 A43 => ?_)
 refine wplI A43 kr (zJ (d := 23) (v := .slice ad2 a.ld.length cap2) A43 kr (zF (t := 23) (g := false) (vs := [.slice ad2 a.ld.length cap2]) (ad := ⟨b2, 2, none⟩) rfl kr kr ir (j32.cells 0 rfl rfl)) ?_)
 intro a44 A44
 refine wplI A44 kr (zK (d := 24) (f := 33) (cap := #[]) (vs := #[.slice ad2 a.ld.length cap2]) A44 kr j32 rfl kr kr (fun w => Try.call33 _ w) (bcheck _ X0 (X0_lt _) _ _ _ a.ld ((h2.mono (Le2 q2 q32)).mono Le.x0)) ?_)
 rintro v45 w45 j45 q45 hu45 rfl a46 A46
 refine zB 3 [(16, .bool ((chkN a.ld) != 0)), (26, .bool ((chkN a.ld) != 0)), (25, .bool ((chkN a.ld) != 0))] A46 kr kr (fun a47 A47 => ?_)
 refine zE ?_
 refine zA (C29 _ _ ?_)
 refine zS ((chkN a.ld) != 0) A47 kr kr (fun hc48 => ?_) (fun hc48 => ?_)
 ·
  have A49 := A47.set 16 (v' := .bool true) kr rfl (zG hc48)
  have ht50 : (chkN a.ld) ≠ 0 := by simpa using hc48
  refine i_skip ?_
  refine zA (C28 _ _ ?_)
  refine qG A49 kr kr ?_
  refine zD (fun K51 C51 => ?_)
  refine zC ?_
  refine zB 1 [(2, .int .i64 2)] A49 kr kr (fun a52 A52 => ?_)
  refine zE ?_
  refine zA (C51 _ _ ?_)
  refine zQ ?_
  refine zU ?_
  refine zL ?_
  refine zR (v := .int .i64 2) (rs := [.tmp 2]) A52 kr (Res.tmp kr Res.nil) kr ?_
  exact ⟨j45.upd, _, rfl, vint (chk_2 hlong (.inr (.inl ht50))).symm⟩
 have A53 := A47.set 16 (v' := .bool false) kr rfl (zG hc48)
 have ht54 : (chkN a.ld) = 0 := by simpa using hc48
 have hcn := (chkN_ok (by simpa using ht42 : chkN a.ln = 0)).2
 have hcd := (chkN_ok (by simpa using ht54 : chkN a.ld = 0)).2
 have hzn := canon_len0 hcn
 have hzd := canon_len0 hcd
 have hB : (4294967296 : Nat) ^ 128 ≤ 4294967296 ^ 512 := k512
 have hbn : val a.ln < 4294967296 ^ 512 := Nat.lt_of_lt_of_le ((canon_le_iff h.hlt hcn 128).1 (by omega)) hB
 have hbd : val a.ld < 4294967296 ^ 512 := Nat.lt_of_lt_of_le ((canon_le_iff h2.hlt hcd 128).1 (by omega)) hB
 have hNn := h.natR hcn
 have hNd := h2.natR hcd
 refine zD (fun K55 C55 => ?_)
 refine zC ?_
 refine zB 1 [(27, .pointer (some ⟨b2, 2, none⟩))] A53 kr kr (fun a56 A56 => ?_)
 refine wplI A56 kr (zJ (d := 28) (v := .slice ad2 a.ld.length cap2) A56 kr (zF (t := 23) (g := false) (vs := [.slice ad2 a.ld.length cap2]) (ad := ⟨b2, 2, none⟩) rfl kr kr ir (j45.cells 0 rfl rfl)) ?_)
 intro a57 A57
 refine wplI A57 kr (zK (d := 29) (f := 34) (cap := #[]) (vs := #[.slice ad2 a.ld.length cap2]) A57 kr j45 rfl kr kr (fun w => Try.call34 _ w) (unit_c _ _ j45.lt _ _ _ (val a.ld) (hNd.mono (Le3 q2 q32 q45))) ?_)
 rintro v58 w58 j58 q58 hu58 rfl a59 A59
 refine zB 1 [(16, .bool (decide ((val a.ld) = 1)))] A59 kr kr (fun a60 A60 => ?_)
 refine zE ?_
 refine zA (C55 _ _ ?_)
 refine zS (decide ((val a.ld) = 1)) A60 kr kr (fun hc61 => ?_) (fun hc61 => ?_)
 ·
  have A62 := A60.set 16 (v' := .bool true) kr rfl (zG hc61)
  have ht63 : (val a.ld) = 1 := of_decide_eq_true hc61
  refine i_skip ?_
  refine zA (C28 _ _ ?_)
  refine qG A62 kr kr ?_
  refine zD (fun K64 C64 => ?_)
  refine zC ?_
  refine zB 1 [(2, .int .i64 2)] A62 kr kr (fun a65 A65 => ?_)
  refine zE ?_
  refine zA (C64 _ _ ?_)
  refine zQ ?_
  refine zU ?_
  refine zL ?_
  refine zR (v := .int .i64 2) (rs := [.tmp 2]) A65 kr (Res.tmp kr Res.nil) kr ?_
  exact ⟨j58.upd, _, rfl, vint (chk_2 hlong (.inr (.inr (.inl (by simpa using ht63))))).symm⟩
 have A66 := A60.set 16 (v' := .bool false) kr rfl (zG hc61)
 have ht67 : ¬ ((val a.ld) = 1) := of_decide_eq_false hc61
 refine zC ?_
 refine zB 1 [(30, .pointer (some ⟨b2, 1, none⟩))] A66 kr kr (fun a68 A68 => ?_)
 refine wplI A68 kr (zJ (d := 31) (v := .slice ad a.ln.length cap) A68 kr (zF (t := 23) (g := false) (vs := [.slice ad a.ln.length cap]) (ad := ⟨b2, 1, none⟩) rfl kr kr ir (j58.cells 0 rfl rfl)) ?_)
 intro a69 A69
 refine zB 3 [(34, .bool ((a.ln.length : Int) == 0)), (33, .bool ((a.ln.length : Int) == 0)), (32, .int .i64 (a.ln.length : Int))] A69 kr kr (fun a70 A70 => ?_)
 rcases Bool.eq_false_or_eq_true ((a.ln.length : Int) == 0) with hc71 | hc71
 ·
  have A72 := A70.set 34 (v' := .bool true) kr rfl (zG hc71)
  have ht73 : (a.ln.length : Int) = 0 := by simpa using hc71
  refine zB 1 [(35, .pointer (some ⟨b2, 0, none⟩))] A72 kr kr (fun a74 A74 => ?_)
  refine wplI A74 kr (zJ (d := 36) (v := .bool a.neg) A74 kr (zF (t := 4) (g := false) (vs := [.bool a.neg]) (ad := ⟨b2, 0, none⟩) rfl kr kr ir (j58.cells 0 rfl rfl)) ?_)
  intro a75 A75
  refine zB 1 [(37, .bool a.neg)] A75 kr kr (fun a76 A76 => ?_)
  rcases Bool.eq_false_or_eq_true a.neg with hc77 | hc77
  ·
   have A78 := A76.set 37 (v' := .bool true) kr rfl (zG hc77)
   have ht79 : a.neg = true := by simpa using hc77
   refine zB 7 [(16, .bool true), (43, .bool true), (42, .bool true), (41, undef), (40, undef), (39, undef), (38, undef)] A78 kr kr (fun a80 A80 => ?_)
   refine zE ?_
   refine zA (C28 _ _ ?_)
   refine qG A80 kr kr ?_
   refine zD (fun K81 C81 => ?_)
   refine zC ?_
   refine zB 1 [(2, .int .i64 2)] A80 kr kr (fun a82 A82 => ?_)
   refine zE ?_
   refine zA (C81 _ _ ?_)
   refine zQ ?_
   refine zU ?_
   refine zL ?_
   refine zR (v := .int .i64 2) (rs := [.tmp 2]) A82 kr (Res.tmp kr Res.nil) kr ?_
   exact ⟨j58.upd, _, rfl, vint (chk_2 hlong (.inr (.inr (.inr ⟨by omega, .inl ht79⟩)))).symm⟩
  have A83 := A76.set 37 (v' := .bool false) kr rfl (zG hc77)
  have ht84 : a.neg = false := by simpa using hc77
  refine zB 1 [(38, .pointer (some ⟨b2, 2, none⟩))] A83 kr kr (fun a85 A85 => ?_)
  refine wplI A85 kr (zJ (d := 39) (v := .slice ad2 a.ld.length cap2) A85 kr (zF (t := 23) (g := false) (vs := [.slice ad2 a.ld.length cap2]) (ad := ⟨b2, 2, none⟩) rfl kr kr ir (j58.cells 0 rfl rfl)) ?_)
  intro a86 A86
  refine zB 5 [(16, .bool (decide ((a.ld.length : Int) > 0))), (43, .bool (decide ((a.ld.length : Int) > 0))), (42, .bool (decide ((a.ld.length : Int) > 0))), (41, .bool (decide ((a.ld.length : Int) > 0))), (40, .int .i64 (a.ld.length : Int))] A86 kr kr (fun a87 A87 => ?_)
  refine zE ?_
  refine zA (C28 _ _ ?_)
  refine zS (decide ((a.ld.length : Int) > 0)) A87 kr kr (fun hc88 => ?_) (fun hc88 => ?_)
  ·
   have A89 := A87.set 16 (v' := .bool true) kr rfl (zG hc88)
   have ht90 : (a.ld.length : Int) > 0 := of_decide_eq_true hc88
   refine zD (fun K91 C91 => ?_)
   refine zC ?_
   refine zB 1 [(2, .int .i64 2)] A89 kr kr (fun a92 A92 => ?_)
   refine zE ?_
   refine zA (C91 _ _ ?_)
   refine zQ ?_
   refine zU ?_
   refine zL ?_
   refine zR (v := .int .i64 2) (rs := [.tmp 2]) A92 kr (Res.tmp kr Res.nil) kr ?_
   exact ⟨j58.upd, _, rfl, vint (chk_2 hlong (.inr (.inr (.inr ⟨by omega, .inr (by omega)⟩)))).symm⟩
  have A93 := A87.set 16 (v' := .bool false) kr rfl (zG hc88)
  have ht94 : ¬ ((a.ld.length : Int) > 0) := of_decide_eq_false hc88
  have hok : ¬ (chkN a.ln ≠ 0 ∨ chkN a.ld ≠ 0 ∨ val a.ld = 1 ∨ (val a.ln = 0 ∧ (a.neg = true ∨ 0 < val a.ld))) := by intro hh; rcases hh with e | e | e | ⟨e, e2⟩; exact (fun x => absurd (by simpa using ht42 : chkN a.ln = 0) x) e; exact (fun x => absurd (by simpa using ht54 : chkN a.ld = 0) x) e; exact (fun x => absurd x (by simpa using ht67)) e; rcases e2 with e2 | e2; rw [ht84] at e2; cases e2; omega
  have hz : ¬ 0 < val a.ld := by omega
  refine i_skip ?_
  refine zW ?_
  refine zA (C5 _ _ ?_)
  refine zD (fun K95 C95 => ?_)
  refine zD (fun K96 C96 => ?_)
  refine zC ?_
  refine zB 1 [(44, .pointer (some ⟨b2, 2, none⟩))] A93 kr kr (fun a97 A97 => ?_)
  refine wplI A97 kr (zJ (d := 45) (v := .slice ad2 a.ld.length cap2) A97 kr (zF (t := 23) (g := false) (vs := [.slice ad2 a.ld.length cap2]) (ad := ⟨b2, 2, none⟩) rfl kr kr ir (j58.cells 0 rfl rfl)) ?_)
  intro a98 A98
  refine zB 2 [(47, .bool (decide ((a.ld.length : Int) > 0))), (46, .int .i64 (a.ld.length : Int))] A98 kr kr (fun a99 A99 => ?_)
  refine zE ?_
  refine zA (C96 _ _ ?_)
  refine zS (decide ((a.ld.length : Int) > 0)) A99 kr kr (fun hc100 => ?_) (fun hc100 => ?_)
  ·
   have A101 := A99.set 47 (v' := .bool true) kr rfl (zG hc100)
   have ht102 : (a.ld.length : Int) > 0 := of_decide_eq_true hc100
   refine zD (fun K103 C103 => ?_)
   refine zC ?_
   refine zB 1 [(49, .pointer (some ⟨b2, 1, none⟩))] A101 kr kr (fun a104 A104 => ?_)
   refine wplI A104 kr (zJ (d := 50) (v := .slice ad a.ln.length cap) A104 kr (zF (t := 23) (g := false) (vs := [.slice ad a.ln.length cap]) (ad := ⟨b2, 1, none⟩) rfl kr kr ir (j58.cells 0 rfl rfl)) ?_)
   intro a105 A105
   refine zB 1 [(51, .pointer (some ⟨b2, 2, none⟩))] A105 kr kr (fun a106 A106 => ?_)
   refine wplI A106 kr (zJ (d := 52) (v := .slice ad2 a.ld.length cap2) A106 kr (zF (t := 23) (g := false) (vs := [.slice ad2 a.ld.length cap2]) (ad := ⟨b2, 2, none⟩) rfl kr kr ir (j58.cells 0 rfl rfl)) ?_)
   intro a107 A107
   refine wplI A107 kr (zK (d := 53) (f := 35) (cap := #[]) (vs := #[.slice ad a.ln.length cap, .slice ad2 a.ld.length cap2]) A107 kr j58 rfl kr kr (fun w => Try.call35 _ w) (GCD_n _ _ _ _ (val a.ln) ((hNn.mono (Le4 q2 q32 q45 q58)).mono Le.x0) _ _ _ (val a.ld) ((hNd.mono (Le4 q2 q32 q45 q58)).mono Le.x0) (by first | assumption | omega) (by first | assumption | omega)) ?_)
   rintro v108 w108 j108 q108 hu108 ⟨u108, rfl, ⟨ad108, len108, cap108, rfl, hn108⟩⟩ a109 A109
   have hN108 := hn108 _ j58.lt
   refine zB 5 [(4, .int .i64 0), (3, .slice ad108 len108 cap108), (55, .int .i64 0), (54, .slice ad108 len108 cap108), (48, .tuple #[.slice ad108 len108 cap108, .int .i64 0])] A109 kr kr (fun a110 A110 => ?_)
   have A111 := A110.as [3] (L' := [(3, .slice ad108 len108 cap108)]) kr kr
   refine zE ?_
   refine zA (C103 _ _ ?_)
   refine zD (fun K112 C112 => ?_)
   refine zC ?_
   refine zB 1 [(56, .slice ad108 len108 cap108)] A111 kr kr (fun a113 A113 => ?_)
   refine wplI A113 kr (zK (d := 57) (f := 34) (cap := #[]) (vs := #[.slice ad108 len108 cap108]) A113 kr j108 rfl kr kr (fun w => Try.call34 _ w) (unit_c _ _ j108.lt _ _ _ (Nat.gcd (val a.ln) (val a.ld)) hN108) ?_)
   rintro v114 w114 j114 q114 hu114 rfl a115 A115
   refine zB 1 [(58, .bool (!(decide (Nat.gcd (val a.ln) (val a.ld) = 1))))] A115 kr kr (fun a116 A116 => ?_)
   refine zE ?_
   refine zA (C112 _ _ ?_)
   refine zS (!(decide (Nat.gcd (val a.ln) (val a.ld) = 1))) A116 kr kr (fun hc117 => ?_) (fun hc117 => ?_)
   ·
    have A118 := A116.set 58 (v' := .bool true) kr rfl (zG hc117)
    have ht119 : ¬ (Nat.gcd (val a.ln) (val a.ld) = 1) := by simpa using hc117
    refine zD (fun K120 C120 => ?_)
    refine zC ?_
    refine zB 1 [(2, .int .i64 2)] A118 kr kr (fun a121 A121 => ?_)
    refine zE ?_
    refine zA (C120 _ _ ?_)
    refine zQ ?_
    refine zL ?_
    refine zR (v := .int .i64 2) (rs := [.tmp 2]) A121 kr (Res.tmp kr Res.nil) kr ?_
    exact ⟨j114.upd, _, rfl, vint (chk_g hlong hok ⟨by omega, by simpa using ht119⟩).symm⟩
   have A122 := A116.set 58 (v' := .bool false) kr rfl (zG hc117)
   have ht123 : Nat.gcd (val a.ln) (val a.ld) = 1 := by simpa using hc117
   refine i_skip ?_
   refine zA (C95 _ _ ?_)
   refine zD (fun K124 C124 => ?_)
   refine zC ?_
   refine zB 1 [(2, .int .i64 0)] A122 kr kr (fun a125 A125 => ?_)
   refine zE ?_
   refine zA (C124 _ _ ?_)
   refine zQ ?_
   refine zR (v := .int .i64 0) (rs := [.tmp 2]) A125 kr (Res.tmp kr Res.nil) kr ?_
   exact ⟨j114.upd, _, rfl, vint (chk_0 hlong hok (fun hh => hh.2 (by simpa using ht123))).symm⟩
  have A126 := A99.set 47 (v' := .bool false) kr rfl (zG hc100)
  have ht127 : ¬ ((a.ld.length : Int) > 0) := of_decide_eq_false hc100
  refine i_skip ?_
  refine zA (C95 _ _ ?_)
  refine zD (fun K128 C128 => ?_)
  refine zC ?_
  refine zB 1 [(2, .int .i64 0)] A126 kr kr (fun a129 A129 => ?_)
  refine zE ?_
  refine zA (C128 _ _ ?_)
  refine zQ ?_
  refine zR (v := .int .i64 0) (rs := [.tmp 2]) A129 kr (Res.tmp kr Res.nil) kr ?_
  exact ⟨j58.upd, _, rfl, vint (chk_0 hlong hok (fun hh => by omega)).symm⟩
 have A130 := A70.set 34 (v' := .bool false) kr rfl (zG hc71)
 have ht131 : (a.ln.length : Int) ≠ 0 := by simpa using hc71
 refine zB 10 [(16, .bool false), (43, .bool false), (42, undef), (41, undef), (40, undef), (39, undef), (38, undef), (37, undef), (36, undef), (35, undef)] A130 kr kr (fun a132 A132 => ?_)
 refine zE ?_
 refine zA (C28 _ _ ?_)
 refine qH A132 kr kr ?_
 refine i_skip ?_
 refine zW ?_
 refine zA (C5 _ _ ?_)
 refine zD (fun K133 C133 => ?_)
 refine zD (fun K134 C134 => ?_)
 refine zC ?_
 refine zB 1 [(44, .pointer (some ⟨b2, 2, none⟩))] A132 kr kr (fun a135 A135 => ?_)
 refine wplI A135 kr (zJ (d := 45) (v := .slice ad2 a.ld.length cap2) A135 kr (zF (t := 23) (g := false) (vs := [.slice ad2 a.ld.length cap2]) (ad := ⟨b2, 2, none⟩) rfl kr kr ir (j58.cells 0 rfl rfl)) ?_)
 intro a136 A136
 refine zB 2 [(47, .bool (decide ((a.ld.length : Int) > 0))), (46, .int .i64 (a.ld.length : Int))] A136 kr kr (fun a137 A137 => ?_)
 refine zE ?_
 refine zA (C134 _ _ ?_)
 refine zS (decide ((a.ld.length : Int) > 0)) A137 kr kr (fun hc138 => ?_) (fun hc138 => ?_)
 ·
  have A139 := A137.set 47 (v' := .bool true) kr rfl (zG hc138)
  have ht140 : (a.ld.length : Int) > 0 := of_decide_eq_true hc138
  have hok : ¬ (chkN a.ln ≠ 0 ∨ chkN a.ld ≠ 0 ∨ val a.ld = 1 ∨ (val a.ln = 0 ∧ (a.neg = true ∨ 0 < val a.ld))) := by intro hh; rcases hh with e | e | e | ⟨e, e2⟩; exact (fun x => absurd (by simpa using ht42 : chkN a.ln = 0) x) e; exact (fun x => absurd (by simpa using ht54 : chkN a.ld = 0) x) e; exact (fun x => absurd x (by simpa using ht67)) e; omega
  refine zD (fun K141 C141 => ?_)
  refine zC ?_
  refine zB 1 [(49, .pointer (some ⟨b2, 1, none⟩))] A139 kr kr (fun a142 A142 => ?_)
  refine wplI A142 kr (zJ (d := 50) (v := .slice ad a.ln.length cap) A142 kr (zF (t := 23) (g := false) (vs := [.slice ad a.ln.length cap]) (ad := ⟨b2, 1, none⟩) rfl kr kr ir (j58.cells 0 rfl rfl)) ?_)
  intro a143 A143
  refine zB 1 [(51, .pointer (some ⟨b2, 2, none⟩))] A143 kr kr (fun a144 A144 => ?_)
  refine wplI A144 kr (zJ (d := 52) (v := .slice ad2 a.ld.length cap2) A144 kr (zF (t := 23) (g := false) (vs := [.slice ad2 a.ld.length cap2]) (ad := ⟨b2, 2, none⟩) rfl kr kr ir (j58.cells 0 rfl rfl)) ?_)
  intro a145 A145
  refine wplI A145 kr (zK (d := 53) (f := 35) (cap := #[]) (vs := #[.slice ad a.ln.length cap, .slice ad2 a.ld.length cap2]) A145 kr j58 rfl kr kr (fun w => Try.call35 _ w) (GCD_n _ _ _ _ (val a.ln) ((hNn.mono (Le4 q2 q32 q45 q58)).mono Le.x0) _ _ _ (val a.ld) ((hNd.mono (Le4 q2 q32 q45 q58)).mono Le.x0) (by first | assumption | omega) (by first | assumption | omega)) ?_)
  rintro v146 w146 j146 q146 hu146 ⟨u146, rfl, ⟨ad146, len146, cap146, rfl, hn146⟩⟩ a147 A147
  have hN146 := hn146 _ j58.lt
  refine zB 5 [(4, .int .i64 0), (3, .slice ad146 len146 cap146), (55, .int .i64 0), (54, .slice ad146 len146 cap146), (48, .tuple #[.slice ad146 len146 cap146, .int .i64 0])] A147 kr kr (fun a148 A148 => ?_)
  have A149 := A148.as [3] (L' := [(3, .slice ad146 len146 cap146)]) kr kr
  refine zE ?_
  refine zA (C141 _ _ ?_)
  refine zD (fun K150 C150 => ?_)
  refine zC ?_
  refine zB 1 [(56, .slice ad146 len146 cap146)] A149 kr kr (fun a151 A151 => ?_)
  refine wplI A151 kr (zK (d := 57) (f := 34) (cap := #[]) (vs := #[.slice ad146 len146 cap146]) A151 kr j146 rfl kr kr (fun w => Try.call34 _ w) (unit_c _ _ j146.lt _ _ _ (Nat.gcd (val a.ln) (val a.ld)) hN146) ?_)
  rintro v152 w152 j152 q152 hu152 rfl a153 A153
  refine zB 1 [(58, .bool (!(decide (Nat.gcd (val a.ln) (val a.ld) = 1))))] A153 kr kr (fun a154 A154 => ?_)
  refine zE ?_
  refine zA (C150 _ _ ?_)
  refine zS (!(decide (Nat.gcd (val a.ln) (val a.ld) = 1))) A154 kr kr (fun hc155 => ?_) (fun hc155 => ?_)
  ·
   have A156 := A154.set 58 (v' := .bool true) kr rfl (zG hc155)
   have ht157 : ¬ (Nat.gcd (val a.ln) (val a.ld) = 1) := by simpa using hc155
   refine zD (fun K158 C158 => ?_)
   refine zC ?_
   refine zB 1 [(2, .int .i64 2)] A156 kr kr (fun a159 A159 => ?_)
   refine zE ?_
   refine zA (C158 _ _ ?_)
   refine zQ ?_
   refine zL ?_
   refine zR (v := .int .i64 2) (rs := [.tmp 2]) A159 kr (Res.tmp kr Res.nil) kr ?_
   exact ⟨j152.upd, _, rfl, vint (chk_g hlong hok ⟨by omega, by simpa using ht157⟩).symm⟩
  have A160 := A154.set 58 (v' := .bool false) kr rfl (zG hc155)
  have ht161 : Nat.gcd (val a.ln) (val a.ld) = 1 := by simpa using hc155
  refine i_skip ?_
  refine zA (C133 _ _ ?_)
  refine zD (fun K162 C162 => ?_)
  refine zC ?_
  refine zB 1 [(2, .int .i64 0)] A160 kr kr (fun a163 A163 => ?_)
  refine zE ?_
  refine zA (C162 _ _ ?_)
  refine zQ ?_
  refine zR (v := .int .i64 0) (rs := [.tmp 2]) A163 kr (Res.tmp kr Res.nil) kr ?_
  exact ⟨j152.upd, _, rfl, vint (chk_0 hlong hok (fun hh => hh.2 (by simpa using ht161))).symm⟩
 have A164 := A137.set 47 (v' := .bool false) kr rfl (zG hc138)
 have ht165 : ¬ ((a.ld.length : Int) > 0) := of_decide_eq_false hc138
 have hok : ¬ (chkN a.ln ≠ 0 ∨ chkN a.ld ≠ 0 ∨ val a.ld = 1 ∨ (val a.ln = 0 ∧ (a.neg = true ∨ 0 < val a.ld))) := by intro hh; rcases hh with e | e | e | ⟨e, e2⟩; exact (fun x => absurd (by simpa using ht42 : chkN a.ln = 0) x) e; exact (fun x => absurd (by simpa using ht54 : chkN a.ld = 0) x) e; exact (fun x => absurd x (by simpa using ht67)) e; omega
 refine i_skip ?_
 refine zA (C133 _ _ ?_)
 refine zD (fun K166 C166 => ?_)
 refine zC ?_
 refine zB 1 [(2, .int .i64 0)] A164 kr kr (fun a167 A167 => ?_)
 refine zE ?_
 refine zA (C166 _ _ ?_)
 refine zQ ?_
 refine zR (v := .int .i64 0) (rs := [.tmp 2]) A167 kr (Res.tmp kr Res.nil) kr ?_
 exact ⟨j58.upd, _, rfl, vint (chk_0 hlong hok (fun hh => by omega)).symm⟩
end Go.Proofs.Ytoocgllbbihoaaa
namespace Go.Proofs.Ytoocgllbbihoaaa
open Go Go.Gv Go.RowKit
set_option maxRecDepth 100000
set_option maxHeartbeats 1000000
theorem sub1_c (w : World) (X : Hid) (hX : ∀ k o, X k o → k < w.heap.size) (ad₁ : Option Addr) (len₁ cap₁ n₁ : Nat) (h₁ : NatR (rd w X) ad₁ len₁ cap₁ n₁) (ae₁ : Option Addr) (le₁ ce₁ d₁ : Nat) (k₁ : NatR (rd w X) ae₁ le₁ ce₁ d₁) (s₁ : Bool) (hn₁ : n₁ < K128) (hd₁ : d₁ < K128) (ad₂ : Option Addr) (len₂ cap₂ n₂ : Nat) (h₂ : NatR (rd w X) ad₂ len₂ cap₂ n₂) (ae₂ : Option Addr) (le₂ ce₂ d₂ : Nat) (k₂ : NatR (rd w X) ae₂ le₂ ce₂ d₂) (s₂ : Bool) (hn₂ : n₂ < K128) (hd₂ : d₂ < K128) : Calls Try.prog 67 #[.agg #[.slice ad₁ len₁ cap₁, .slice ae₁ le₁ ce₁, .bool s₁], .agg #[.slice ad₂ len₂ cap₂, .slice ae₂ le₂ ce₂, .bool s₂]] w (Ret E0 w fun w' v => ∃ s m, ValX X w' v s m (d₁ * d₂) ∧ m < 4294967296 ^ 512 ∧ sgn s m = sgn s₁ n₁ * d₂ + sgn (!s₂) n₂ * d₁) := by
 refine zZ (n := 12) (vs := [.agg #[.slice ad₁ len₁ cap₁, .slice ae₁ le₁ ce₁, .bool s₁], .agg #[.slice ad₂ len₂ cap₂, .slice ae₂ le₂ ce₂, .bool s₂]]) Try.func67 rfl rfl rfl kr (fun a0 A0 => ?_)
 have A0 : Fr 12 a0 [(0, .agg #[.slice ad₁ len₁ cap₁, .slice ae₁ le₁ ce₁, .bool s₁]), (1, .agg #[.slice ad₂ len₂ cap₂, .slice ae₂ le₂ ce₂, .bool s₂])] := A0
 have j0 : St E0 w X w X [] := St.start hX
 have hb : ∀ {x : Nat}, x < K128 → x < 4294967296 ^ 512 := fun h => Nat.lt_of_lt_of_le h k512
 have hbn1 := hb hn₁
 have hbn2 := hb hn₂
 have hbd1 := hb hd₁
 have hbd2 := hb hd₂
 obtain ⟨hp1, hp12⟩ := prod512 hn₁ hd₂ hn₂ hd₁
 have hp2 := (prod512 hn₂ hd₁ hn₁ hd₂).1
 have hpd := (prod512 hd₁ hd₂ hd₁ hd₂).1
 have hpn := (prod512 hn₁ hn₂ hd₁ hd₂).1
 refine zD (fun K1 C1 => ?_)
 refine zC ?_
 refine wplI A0 kr (zN (d := 2) (fun b => .pointer (some ⟨b, 0, none⟩)) (.cells #[.slice ad₁ len₁ cap₁, .slice ae₁ le₁ ce₁, .bool s₁] 91 (0, 0)) A0 kr j0 kw ?_)
 intro b2 w2 Y2 j2 q2 hu2 a3 A3
 refine wplI A3 kr (zN (d := 3) (fun b => .pointer (some ⟨b, 0, none⟩)) (.cells #[.slice ad₂ len₂ cap₂, .slice ae₂ le₂ ce₂, .bool s₂] 91 (0, 0)) A3 kr j2 kw ?_)
 intro b4 w4 Y4 j4 q4 hu4 a5 A5
 refine wplI A5 kr (zN (d := 4) (fun b => .pointer (some ⟨b, 0, none⟩)) (.cells #[.slice none 0 0, .slice none 0 0, .bool false] 91 (0, 0)) A5 kr j4 kw ?_)
 intro b6 w6 Y6 j6 q6 hu6 a7 A7
 refine zE ?_
 refine zA (C1 _ _ ?_)
 refine zD (fun K8 C8 => ?_)
 refine zC ?_
 refine zB 1 [(5, .pointer (some ⟨b4, 2, none⟩))] A7 kr kr (fun a9 A9 => ?_)
 refine wplI A9 kr (zJ (d := 6) (v := .bool s₂) A9 kr (zF (t := 4) (g := false) (vs := [.bool s₂]) (ad := ⟨b4, 2, none⟩) rfl kr kr ir (j6.cells 1 rfl rfl)) ?_)
 intro a10 A10
 refine zB 2 [(8, .pointer (some ⟨b4, 2, none⟩)), (7, .bool (!s₂))] A10 kr kr (fun a11 A11 => ?_)
 refine wplI A11 kr (zO (t := 4) (b := b4) (off := 2) (c' := #[.slice ad₂ len₂ cap₂, .slice ae₂ le₂ ce₂, .bool (!s₂)]) (g := false) (m := 1) 1 _ A11 kr j6 rfl kr rfl kr kr kr rfl (by first | decide | (simp; done)) kr rfl ?_)
 intro w12 j12 q12
 refine zE ?_
 refine zA (C8 _ _ ?_)
 refine zD (fun K13 C13 => ?_)
 refine zC ?_
 refine wplI A11 kr (zJ (d := 9) (v := .agg #[.slice ad₁ len₁ cap₁, .slice ae₁ le₁ ce₁, .bool s₁]) A11 kr (zF (t := 91) (g := true) (vs := [.slice ad₁ len₁ cap₁, .slice ae₁ le₁ ce₁, .bool s₁]) (ad := ⟨b2, 0, none⟩) rfl kr kr ir (j12.cells 2 rfl rfl)) ?_)
 intro a14 A14
 refine wplI A14 kr (zJ (d := 10) (v := .agg #[.slice ad₂ len₂ cap₂, .slice ae₂ le₂ ce₂, .bool (!s₂)]) A14 kr (zF (t := 91) (g := true) (vs := [.slice ad₂ len₂ cap₂, .slice ae₂ le₂ ce₂, .bool (!s₂)]) (ad := ⟨b4, 0, none⟩) rfl kr kr ir (j12.cells 1 rfl rfl)) ?_)
 intro a15 A15
 refine wplI A15 kr (zK (d := 11) (f := 37) (cap := #[]) (vs := #[.agg #[.slice ad₁ len₁ cap₁, .slice ae₁ le₁ ce₁, .bool s₁], .agg #[.slice ad₂ len₂ cap₂, .slice ae₂ le₂ ce₂, .bool (!s₂)]]) A15 kr j12 rfl kr kr (fun w => Try.call37 _ w) (sum_c _ _ j12.lt _ _ _ n₁ (h₁.mono (Le4 q2 q4 q6 q12)) _ _ _ d₁ (k₁.mono (Le4 q2 q4 q6 q12)) s₁ (by assumption) (by assumption) _ _ _ n₂ (h₂.mono (Le4 q2 q4 q6 q12)) _ _ _ d₂ (k₂.mono (Le4 q2 q4 q6 q12)) (!s₂) (by assumption) (by assumption)) ?_)
 rintro v16 w16 j16 q16 hu16 ⟨sg16, m16, ⟨ad16, len16, cap16, ae16, le16, ce16, rfl, hN16, hD16⟩, hm16, he16⟩ a17 A17
 refine wplI A17 kr (zO (t := 91) (b := b6) (off := 0) (c' := #[.slice ad16 len16 cap16, .slice ae16 le16 ce16, .bool sg16]) (g := true) (m := 3) 0 _ A17 kr j16 rfl kr rfl kr kr kr rfl (by first | decide | (simp; done)) kr rfl ?_)
 intro w18 j18 q18
 refine zE ?_
 refine zA (C13 _ _ ?_)
 refine zQ ?_
 refine zR (v := .agg #[.slice ad16 len16 cap16, .slice ae16 le16 ce16, .bool sg16]) (rs := [.cell 4 91]) A17 kr (Res.cell (ad := ⟨b6, 0, none⟩) (cs := [.slice ad16 len16 cap16, .slice ae16 le16 ce16, .bool sg16]) (g := true) kr kr kr ir (j18.cells 0 rfl rfl) Res.nil) kr ?_
 exact ⟨j18.upd, _, rfl, _, _, ⟨_, _, _, _, _, _, rfl, (hN16.mono q18).mono j18.le, (hD16.mono q18).mono j18.le⟩, hm16, he16⟩
def OpC (f : Nat) (op : Rat → Rat → Rat) : Prop := ∀ (w : World) (X : Hid) (hX : ∀ k o, X k o → k < w.heap.size) (ad₁ : Option Addr) (len₁ cap₁ n₁ : Nat) (h₁ : NatR (rd w X) ad₁ len₁ cap₁ n₁) (ae₁ : Option Addr) (le₁ ce₁ d₁ : Nat) (k₁ : NatR (rd w X) ae₁ le₁ ce₁ d₁) (s₁ : Bool) (hn₁ : n₁ < K128) (hd₁ : d₁ < K128) (ad₂ : Option Addr) (len₂ cap₂ n₂ : Nat) (h₂ : NatR (rd w X) ad₂ len₂ cap₂ n₂) (ae₂ : Option Addr) (le₂ ce₂ d₂ : Nat) (k₂ : NatR (rd w X) ae₂ le₂ ce₂ d₂) (s₂ : Bool) (hn₂ : n₂ < K128) (hd₂ : d₂ < K128) (hp₁ : 0 < d₁) (hp₂ : 0 < d₂), Calls Try.prog f #[.agg #[.slice ad₁ len₁ cap₁, .slice ae₁ le₁ ce₁, .bool s₁], .agg #[.slice ad₂ len₂ cap₂, .slice ae₂ le₂ ce₂, .bool s₂]] w (Ret E0 w fun w' v => ∃ s m d, ValX X w' v s m d ∧ m < 4294967296 ^ 512 ∧ d < 4294967296 ^ 512 ∧ 0 < d ∧ mkRat (sgn s m) d = op (mkRat (sgn s₁ n₁) d₁) (mkRat (sgn s₂ n₂) d₂))
theorem dd_fits {a b : Nat} (h : a < K128) (h2 : b < K128) : a * b < 4294967296 ^ 512 := dd_fit h h2
theorem sum_op : OpC 37 (· + ·) := fun w X hX ad₁ len₁ cap₁ n₁ h₁ ae₁ le₁ ce₁ d₁ k₁ s₁ hn₁ hd₁ ad₂ len₂ cap₂ n₂ h₂ ae₂ le₂ ce₂ d₂ k₂ s₂ hn₂ hd₂ hp₁ hp₂ =>
  (sum_c w X hX ad₁ len₁ cap₁ n₁ h₁ ae₁ le₁ ce₁ d₁ k₁ s₁ hn₁ hd₁ ad₂ len₂ cap₂ n₂ h₂ ae₂ le₂ ce₂ d₂ k₂ s₂ hn₂ hd₂).mono (by
    rintro e w' ⟨hu, v, rfl, s, m, hv, hm, he⟩
    refine ⟨hu, _, rfl, s, m, _, hv, hm, dd_fits hd₁ hd₂, Nat.mul_pos hp₁ hp₂, ?_⟩
    show _ = mkRat (sgn s₁ n₁) d₁ + mkRat (sgn s₂ n₂) d₂
    rw [Rat.mkRat_add_mkRat _ _ (by omega) (by omega), he])
theorem product_op : OpC 38 (· * ·) := fun w X hX ad₁ len₁ cap₁ n₁ h₁ ae₁ le₁ ce₁ d₁ k₁ s₁ hn₁ hd₁ ad₂ len₂ cap₂ n₂ h₂ ae₂ le₂ ce₂ d₂ k₂ s₂ hn₂ hd₂ hp₁ hp₂ =>
  (product_c w X hX ad₁ len₁ cap₁ n₁ h₁ ae₁ le₁ ce₁ d₁ k₁ s₁ hn₁ hd₁ ad₂ len₂ cap₂ n₂ h₂ ae₂ le₂ ce₂ d₂ k₂ s₂ hn₂ hd₂).mono (by
    rintro e w' ⟨hu, v, rfl, s, m, hv, hm, he⟩
    refine ⟨hu, _, rfl, s, m, _, hv, hm, dd_fits hd₁ hd₂, Nat.mul_pos hp₁ hp₂, ?_⟩
    show _ = mkRat (sgn s₁ n₁) d₁ * mkRat (sgn s₂ n₂) d₂
    rw [Rat.mkRat_mul_mkRat, he])
theorem sub_op : OpC 67 (· - ·) := fun w X hX ad₁ len₁ cap₁ n₁ h₁ ae₁ le₁ ce₁ d₁ k₁ s₁ hn₁ hd₁ ad₂ len₂ cap₂ n₂ h₂ ae₂ le₂ ce₂ d₂ k₂ s₂ hn₂ hd₂ hp₁ hp₂ =>
  (sub1_c w X hX ad₁ len₁ cap₁ n₁ h₁ ae₁ le₁ ce₁ d₁ k₁ s₁ hn₁ hd₁ ad₂ len₂ cap₂ n₂ h₂ ae₂ le₂ ce₂ d₂ k₂ s₂ hn₂ hd₂).mono (by
    rintro e w' ⟨hu, v, rfl, s, m, hv, hm, he⟩
    refine ⟨hu, _, rfl, s, m, _, hv, hm, dd_fits hd₁ hd₂, Nat.mul_pos hp₁ hp₂, ?_⟩
    show _ = mkRat (sgn s₁ n₁) d₁ - mkRat (sgn s₂ n₂) d₂
    rw [Rat.sub_eq_add_neg, Rat.neg_mkRat, Rat.mkRat_add_mkRat _ _ (by omega) (by omega), he, sgn_not])
theorem lowest_r (w : World) (X : Hid) (hX : ∀ k o, X k o → k < w.heap.size) (ad : Option Addr) (len cap x : Nat) (h : NatR (rd w X) ad len cap x) (ad2 : Option Addr) (len2 cap2 y : Nat) (h2 : NatR (rd w X) ad2 len2 cap2 y) (sg : Bool) (hx : x < 4294967296 ^ 512) (hy : y < 4294967296 ^ 512) (hd : 0 < y) (z : Rat) (hz : mkRat (sgn sg x) y = z) : Calls Try.prog 58 #[.agg #[.slice ad len cap, .slice ad2 len2 cap2, .bool sg]] w (Ret E0 w fun w' v => RatX X w' v z) := by
  subst hz; exact lowest_c w X hX ad len cap x h ad2 len2 cap2 y h2 sg hx hy hd
theorem operate_c (f : Nat) (op : Rat → Rat → Rat) (hcf : ∀ args w, (callFunc f args).run Try.prog w = .ok (.enter f args) w) (hop : OpC f op) (w : World) (X : Hid) (hX : ∀ k o, X k o → k < w.heap.size) (a : Raw) (ad₁ : Option Addr) (len₁ cap₁ : Nat) (h₁ : Limbs (rd w X) ad₁ len₁ cap₁ a.ln) (ae₁ : Option Addr) (le₁ ce₁ : Nat) (k₁ : Limbs (rd w X) ae₁ le₁ ce₁ a.ld) (b : Raw) (ad₂ : Option Addr) (len₂ cap₂ : Nat) (h₂ : Limbs (rd w X) ad₂ len₂ cap₂ b.ln) (ae₂ : Option Addr) (le₂ ce₂ : Nat) (k₂ : Limbs (rd w X) ae₂ le₂ ce₂ b.ld) (z : Rat) (hz : op a.rat b.rat = z) : Calls Try.prog 36 #[.agg #[.bool a.neg, .slice ad₁ len₁ cap₁, .slice ae₁ le₁ ce₁], .agg #[.bool b.neg, .slice ad₂ len₂ cap₂, .slice ae₂ le₂ ce₂], .func (.func f) #[] #[]] w (Ret E0 w fun w' v => ∃ u, v = .tuple #[u, .int .i64 (opE a b z)] ∧ RawX X w' u (opR a b z)) := by
 refine zZ (n := 39) (vs := [.agg #[.bool a.neg, .slice ad₁ len₁ cap₁, .slice ae₁ le₁ ce₁], .agg #[.bool b.neg, .slice ad₂ len₂ cap₂, .slice ae₂ le₂ ce₂], .func (.func f) #[] #[]]) Try.func36 rfl rfl rfl kr (fun a0 A0 => ?_)
 have A0 : Fr 39 a0 [(0, .agg #[.bool a.neg, .slice ad₁ len₁ cap₁, .slice ae₁ le₁ ce₁]), (1, .agg #[.bool b.neg, .slice ad₂ len₂ cap₂, .slice ae₂ le₂ ce₂]), (2, .func (.func f) #[] #[])] := A0
 have j0 : St E0 w X w X [] := St.start hX
 refine zD (fun K1 C1 => ?_)
 refine zC ?_
 refine wplI A0 kr (zN (d := 3) (fun b => .pointer (some ⟨b, 0, none⟩)) (.cells #[.bool a.neg, .slice ad₁ len₁ cap₁, .slice ae₁ le₁ ce₁] 25 (0, 0)) A0 kr j0 kw ?_)
 intro b2 w2 Y2 j2 q2 hu2 a3 A3
 refine wplI A3 kr (zN (d := 4) (fun b => .pointer (some ⟨b, 0, none⟩)) (.cells #[.bool b.neg, .slice ad₂ len₂ cap₂, .slice ae₂ le₂ ce₂] 25 (0, 0)) A3 kr j2 kw ?_)
 intro b4 w4 Y4 j4 q4 hu4 a5 A5
 refine wplI A5 kr (zN (d := 6) (fun b => .pointer (some ⟨b, 0, none⟩)) (.cells #[.bool false, .slice none 0 0, .slice none 0 0] 25 (0, 0)) A5 kr j4 kw ?_)
 intro b6 w6 Y6 j6 q6 hu6 a7 A7
 refine zB 1 [(7, .int .i64 0)] A7 kr kr (fun a8 A8 => ?_)
 refine zE ?_
 refine zA (C1 _ _ ?_)
 refine zD (fun K9 C9 => ?_)
 refine zD (fun K10 C10 => ?_)
 refine qD (N := 7) (Held [(⟨b2, 0, none⟩, [.bool a.neg, .slice ad₁ len₁ cap₁, .slice ae₁ le₁ ce₁]), (⟨b4, 0, none⟩, [.bool b.neg, .slice ad₂ len₂ cap₂, .slice ae₂ le₂ ce₂])]) [] kr kr kr j6 ?_
 intro w11 j11 q11 hu11
 refine zX (Held.cons (j11.cells 2 rfl rfl) (Held.cons (j11.cells 1 rfl rfl) (Held.nil _))) (fun hH11 => ?_)
 refine zY (d := 10) (v := .agg #[.bool a.neg, .slice ad₁ len₁ cap₁, .slice ae₁ le₁ ce₁]) 0 A8 rfl kr kr kr (fun w hw => zF (t := 25) (g := true) (vs := [.bool a.neg, .slice ad₁ len₁ cap₁, .slice ae₁ le₁ ce₁]) (ad := ⟨b2, 0, none⟩) rfl kr kr ir (hw.get 0 kr)) hH11 ?_
 intro a12 A12
 refine zY (d := 12) (v := .agg #[.bool b.neg, .slice ad₂ len₂ cap₂, .slice ae₂ le₂ ce₂]) 2 A12 rfl kr kr kr (fun w hw => zF (t := 25) (g := true) (vs := [.bool b.neg, .slice ad₂ len₂ cap₂, .slice ae₂ le₂ ce₂]) (ad := ⟨b4, 0, none⟩) rfl kr kr ir (hw.get 1 kr)) hH11 ?_
 intro a13 A13
 refine zM [1] kr rfl ?_
 refine ForkT.cons (i := 1) A13 rfl kr (zK (d := 11) (f := 15) (cap := #[]) (vs := #[.agg #[.bool a.neg, .slice ad₁ len₁ cap₁, .slice ae₁ le₁ ce₁]]) A13 kr j11 rfl kr kr (fun w => Try.call15 _ w) (rcheck_c _ _ j11.lt a _ _ _ (h₁.mono (Le4 q2 q4 q6 q11)) _ _ _ (k₁.mono (Le4 q2 q4 q6 q11))) ?_) ForkT.nil
 rintro v14 w14 j14 q14 hu14 rfl a15 A15
 refine zI (hH11.up hu14) (fun hH14 => ?_)
 refine zM [3] kr rfl ?_
 refine ForkT.cons (i := 3) A15 rfl kr (zK (d := 13) (f := 15) (cap := #[]) (vs := #[.agg #[.bool b.neg, .slice ad₂ len₂ cap₂, .slice ae₂ le₂ ce₂]]) A15 kr j14 rfl kr kr (fun w => Try.call15 _ w) (rcheck_c _ _ j14.lt b _ _ _ (h₂.mono (Le5 q2 q4 q6 q11 q14)) _ _ _ (k₂.mono (Le5 q2 q4 q6 q11 q14))) ?_) ForkT.nil
 rintro v16 w16 j16 q16 hu16 rfl a17 A17
 refine zI (hH14.up hu16) (fun hH16 => ?_)
 refine zM [4] kr rfl ?_
 refine ForkT.cons (i := 4) A17 rfl kr (zN (d := 14) (fun b => .slice (some ⟨b, 0, none⟩) 2 2) (.cells #[.int .i64 a.chk, .int .i64 b.chk] 34 (0, 0)) A17 kr j16 kw ?_) ForkT.nil
 intro b18 w18 Y18 j18 q18 hu18 a19 A19
 refine zI (hH16.up hu18) (fun hH18 => ?_)
 refine zM [5] kr rfl ?_
 refine ForkT.cons (i := 5) A19 rfl kr (zK (d := 15) (f := 50) (cap := #[]) (vs := #[.slice (some ⟨b18, 0, none⟩) 2 2]) A19 kr j18 rfl kr kr (fun w => Try.call50 _ w) (or_c _ X0 (X0_lt _) _ _ _ _ [a.chk, b.chk] rfl (by simp) (j18.at0 0 rfl rfl)) ?_) ForkT.nil
 rintro v20 w20 j20 q20 hu20 rfl a21 A21
 refine zI (hH18.up hu20) (fun hH20 => ?_)
 refine zH (d := 8) (v := .int .i64 (orL [a.chk, b.chk])) 6 A21 rfl kr kr kw (fun _ => hH20) ?_
 intro a22 A22
 refine qB kr (nrm ?_)
 refine zA (C10 _ _ ?_)
 refine zD (fun K23 C23 => ?_)
 refine zC ?_
 refine zB 2 [(17, .bool ((orL [a.chk, b.chk]) != 0)), (16, .int .i64 (orL [a.chk, b.chk]))] A22 kr kr (fun a24 A24 => ?_)
 refine zE ?_
 refine zA (C23 _ _ ?_)
 refine zS ((orL [a.chk, b.chk]) != 0) A24 kr kr (fun hc25 => ?_) (fun hc25 => ?_)
 ·
  have A26 := A24.set 17 (v' := .bool true) kr rfl (zG hc25)
  have ht27 : (orL [a.chk, b.chk]) ≠ 0 := by simpa using hc25
  refine zD (fun K28 C28 => ?_)
  refine zC ?_
  refine zB 2 [(19, .int .i64 (orL [a.chk, b.chk])), (18, .agg #[.bool false, .slice none 0 0, .slice none 0 0])] A26 kr kr (fun a29 A29 => ?_)
  refine wplI A29 kr (zO (t := 25) (b := b6) (off := 0) (c' := #[.bool false, .slice none 0 0, .slice none 0 0]) (g := true) (m := 3) 1 _ A29 kr j20 rfl kr rfl kr kr kr rfl (by first | decide | (simp; done)) kr rfl ?_)
  intro w30 j30 q30
  refine zB 1 [(7, .int .i64 (orL [a.chk, b.chk]))] A29 kr kr (fun a31 A31 => ?_)
  refine zE ?_
  refine zA (C28 _ _ ?_)
  refine zQ ?_
  refine zL ?_
  refine zR (v := .tuple #[.agg #[.bool false, .slice none 0 0, .slice none 0 0], .int .i64 (orL [a.chk, b.chk])]) (rs := [.cell 6 25, .tmp 7]) A31 kr (Res.cell (ad := ⟨b6, 0, none⟩) (cs := [.bool false, .slice none 0 0, .slice none 0 0]) (g := true) kr kr kr ir (j30.cells 1 rfl rfl) (Res.tmp kr Res.nil)) kr ?_
  obtain ⟨he1, he2⟩ := op_err (z := z) ht27
  exact ⟨j30.upd, _, rfl, _, by rw [he1], by rw [he2]; exact raw_zero⟩
 have A32 := A24.set 17 (v' := .bool false) kr rfl (zG hc25)
 have ht33 : (orL [a.chk, b.chk]) = 0 := by simpa using hc25
 obtain ⟨hca, hcb⟩ := or2_zero ((orL2 _ _).symm.trans (by simpa using ht33))
 obtain ⟨hla, hma, cna, cda, _, _, _⟩ := Raw.chk_ok hca
 have bna : val a.ln < K128 := (canon_le_iff h₁.hlt cna 128).1 hla
 have bda : a.d < K128 := by unfold Raw.d; split; exact Nat.one_lt_pow (by omega) (by omega); exact (canon_le_iff k₁.hlt cda 128).1 hma
 have pda := Raw.d_pos a
 have hNna := h₁.natR cna
 have hNda := k₁.natR cda
 obtain ⟨hlb, hmb, cnb, cdb, _, _, _⟩ := Raw.chk_ok hcb
 have bnb : val b.ln < K128 := (canon_le_iff h₂.hlt cnb 128).1 hlb
 have bdb : b.d < K128 := by unfold Raw.d; split; exact Nat.one_lt_pow (by omega) (by omega); exact (canon_le_iff k₂.hlt cdb 128).1 hmb
 have pdb := Raw.d_pos b
 have hNnb := h₂.natR cnb
 have hNdb := k₂.natR cdb
 refine i_skip ?_
 refine zA (C9 _ _ ?_)
 refine zD (fun K34 C34 => ?_)
 have hJ9001 : ∀ a9001 w9001, (∃ (Y9001 : Hid) (b47 : Nat) (ad45 : Option Addr) (len45 : Nat) (cap45 : Nat) (ae45 : Option Addr) (le45 : Nat) (ce45 : Nat) (ad39 : Option Addr) (len39 : Nat) (cap39 : Nat) (ae39 : Option Addr) (le39 : Nat) (ce39 : Nat) (ad41 : Option Addr) (len41 : Nat) (cap41 : Nat) (ae41 : Option Addr) (le41 : Nat) (ce41 : Nat) (ad43 : Option Addr) (len43 : Nat) (cap43 : Nat) (m43 : Nat) (ae43 : Option Addr) (le43 : Nat) (ce43 : Nat) (d43 : Nat), Fr 39 a9001 [(6, .pointer (some ⟨b6, 0, none⟩)), (9, .pointer (some ⟨b47, 0, none⟩))] ∧ St E0 w X w9001 Y9001 [(b47, .cells #[.bool (decide (z.num < 0)), .slice ad45 len45 cap45, .slice ae45 le45 ce45] 25 (0, 0)), (b18, .cells #[.int .i64 a.chk, .int .i64 b.chk] 34 (0, 0)), (b6, .cells #[.bool false, .slice none 0 0, .slice none 0 0] 25 (0, 0)), (b4, .cells #[.bool b.neg, .slice ad₂ len₂ cap₂, .slice ae₂ le₂ ce₂] 25 (0, 0)), (b2, .cells #[.bool a.neg, .slice ad₁ len₁ cap₁, .slice ae₁ le₁ ce₁] 25 (0, 0))] ∧ Le (rd w20 Y18) (rd w9001 Y9001) ∧ (NatR (rd w9001 Y9001) ad39 len39 cap39 (val a.ln)) ∧ (NatR (rd w9001 Y9001) ae39 le39 ce39 a.d) ∧ (NatR (rd w9001 Y9001) ad41 len41 cap41 (val b.ln)) ∧ (NatR (rd w9001 Y9001) ae41 le41 ce41 b.d) ∧ (NatR (rd w9001 Y9001) ad43 len43 cap43 m43) ∧ (NatR (rd w9001 Y9001) ae43 le43 ce43 d43) ∧ (NatR (rd w9001 Y9001) ad45 len45 cap45 z.num.natAbs) ∧ (NatR (rd w9001 Y9001) ae45 le45 ce45 (den1 z.den))) → K34 a9001 w9001 := by
  rintro a9001 w9001 ⟨Y9001, b47, ad45, len45, cap45, ae45, le45, ce45, ad39, len39, cap39, ae39, le39, ce39, ad41, len41, cap41, ae41, le41, ce41, ad43, len43, cap43, m43, ae43, le43, ce43, d43, A9001, j9001, q9001, hN39, hD39, hN41, hD41, hN43, hD43, hN45, hD45⟩
  refine C34 _ _ ?_
  refine zD (fun K50 C50 => ?_)
  refine zD (fun K51 C51 => ?_)
  refine zC ?_
  refine zB 1 [(27, .pointer (some ⟨b47, 1, none⟩))] A9001 kr kr (fun a52 A52 => ?_)
  refine wplI A52 kr (zJ (d := 28) (v := .slice ad45 len45 cap45) A52 kr (zF (t := 23) (g := false) (vs := [.slice ad45 len45 cap45]) (ad := ⟨b47, 1, none⟩) rfl kr kr ir (j9001.cells 0 rfl rfl)) ?_)
  intro a53 A53
  refine zB 3 [(31, .bool (decide ((len45 : Int) > 128))), (30, .bool (decide ((len45 : Int) > 128))), (29, .int .i64 (len45 : Int))] A53 kr kr (fun a54 A54 => ?_)
  rcases Bool.eq_false_or_eq_true (decide ((len45 : Int) > 128)) with hc55 | hc55
  ·
   have A56 := A54.set 31 (v' := .bool true) kr rfl (zG hc55)
   have ht57 : (len45 : Int) > 128 := of_decide_eq_true hc55
   refine zB 5 [(36, .bool true), (35, undef), (34, undef), (33, undef), (32, undef)] A56 kr kr (fun a58 A58 => ?_)
   refine zE ?_
   refine zA (C51 _ _ ?_)
   refine qG A58 kr kr ?_
   refine zD (fun K59 C59 => ?_)
   refine zC ?_
   refine zB 1 [(37, .agg #[.bool false, .slice none 0 0, .slice none 0 0])] A58 kr kr (fun a60 A60 => ?_)
   refine wplI A60 kr (zO (t := 25) (b := b6) (off := 0) (c' := #[.bool false, .slice none 0 0, .slice none 0 0]) (g := true) (m := 3) 2 _ A60 kr j9001 rfl kr rfl kr kr kr rfl (by first | decide | (simp; done)) kr rfl ?_)
   intro w61 j61 q61
   refine zB 1 [(7, .int .i64 4)] A60 kr kr (fun a62 A62 => ?_)
   refine zE ?_
   refine zA (C59 _ _ ?_)
   refine zQ ?_
   refine zL ?_
   refine zR (v := .tuple #[.agg #[.bool false, .slice none 0 0, .slice none 0 0], .int .i64 4]) (rs := [.cell 6 25, .tmp 7]) A62 kr (Res.cell (ad := ⟨b6, 0, none⟩) (cs := [.bool false, .slice none 0 0, .slice none 0 0]) (g := true) kr kr kr ir (j61.cells 2 rfl rfl) (Res.tmp kr Res.nil)) kr ?_
   obtain ⟨he1, he2⟩ := op_long (z := z) ht33 (fun hh => absurd ((hN45.len_le 128).2 hh.1) (by omega))
   exact ⟨j61.upd, _, rfl, _, by rw [he1], by rw [he2]; exact raw_zero⟩
  have A63 := A54.set 31 (v' := .bool false) kr rfl (zG hc55)
  have ht64 : ¬ ((len45 : Int) > 128) := of_decide_eq_false hc55
  refine zB 1 [(32, .pointer (some ⟨b47, 2, none⟩))] A63 kr kr (fun a65 A65 => ?_)
  refine wplI A65 kr (zJ (d := 33) (v := .slice ae45 le45 ce45) A65 kr (zF (t := 23) (g := false) (vs := [.slice ae45 le45 ce45]) (ad := ⟨b47, 2, none⟩) rfl kr kr ir (j9001.cells 0 rfl rfl)) ?_)
  intro a66 A66
  refine zB 3 [(36, .bool (decide ((le45 : Int) > 128))), (35, .bool (decide ((le45 : Int) > 128))), (34, .int .i64 (le45 : Int))] A66 kr kr (fun a67 A67 => ?_)
  refine zE ?_
  refine zA (C51 _ _ ?_)
  refine zS (decide ((le45 : Int) > 128)) A67 kr kr (fun hc68 => ?_) (fun hc68 => ?_)
  ·
   have A69 := A67.set 36 (v' := .bool true) kr rfl (zG hc68)
   have ht70 : (le45 : Int) > 128 := of_decide_eq_true hc68
   refine zD (fun K71 C71 => ?_)
   refine zC ?_
   refine zB 1 [(37, .agg #[.bool false, .slice none 0 0, .slice none 0 0])] A69 kr kr (fun a72 A72 => ?_)
   refine wplI A72 kr (zO (t := 25) (b := b6) (off := 0) (c' := #[.bool false, .slice none 0 0, .slice none 0 0]) (g := true) (m := 3) 2 _ A72 kr j9001 rfl kr rfl kr kr kr rfl (by first | decide | (simp; done)) kr rfl ?_)
   intro w73 j73 q73
   refine zB 1 [(7, .int .i64 4)] A72 kr kr (fun a74 A74 => ?_)
   refine zE ?_
   refine zA (C71 _ _ ?_)
   refine zQ ?_
   refine zL ?_
   refine zR (v := .tuple #[.agg #[.bool false, .slice none 0 0, .slice none 0 0], .int .i64 4]) (rs := [.cell 6 25, .tmp 7]) A74 kr (Res.cell (ad := ⟨b6, 0, none⟩) (cs := [.bool false, .slice none 0 0, .slice none 0 0]) (g := true) kr kr kr ir (j73.cells 2 rfl rfl) (Res.tmp kr Res.nil)) kr ?_
   obtain ⟨he1, he2⟩ := op_long (z := z) ht33 (fun hh => absurd ((hD45.len_le 128).2 hh.2) (by omega))
   exact ⟨j73.upd, _, rfl, _, by rw [he1], by rw [he2]; exact raw_zero⟩
  have A75 := A67.set 36 (v' := .bool false) kr rfl (zG hc68)
  have ht76 : ¬ ((le45 : Int) > 128) := of_decide_eq_false hc68
  refine i_skip ?_
  refine zA (C50 _ _ ?_)
  refine zD (fun K77 C77 => ?_)
  refine zC ?_
  refine wplI A75 kr (zJ (d := 38) (v := .agg #[.bool (decide (z.num < 0)), .slice ad45 len45 cap45, .slice ae45 le45 ce45]) A75 kr (zF (t := 25) (g := true) (vs := [.bool (decide (z.num < 0)), .slice ad45 len45 cap45, .slice ae45 le45 ce45]) (ad := ⟨b47, 0, none⟩) rfl kr kr ir (j9001.cells 0 rfl rfl)) ?_)
  intro a78 A78
  refine wplI A78 kr (zO (t := 25) (b := b6) (off := 0) (c' := #[.bool (decide (z.num < 0)), .slice ad45 len45 cap45, .slice ae45 le45 ce45]) (g := true) (m := 3) 2 _ A78 kr j9001 rfl kr rfl kr kr kr rfl (by first | decide | (simp; done)) kr rfl ?_)
  intro w79 j79 q79
  refine zB 1 [(7, .int .i64 0)] A78 kr kr (fun a80 A80 => ?_)
  refine zE ?_
  refine zA (C77 _ _ ?_)
  refine zQ ?_
  refine zR (v := .tuple #[.agg #[.bool (decide (z.num < 0)), .slice ad45 len45 cap45, .slice ae45 le45 ce45], .int .i64 0]) (rs := [.cell 6 25, .tmp 7]) A80 kr (Res.cell (ad := ⟨b6, 0, none⟩) (cs := [.bool (decide (z.num < 0)), .slice ad45 len45 cap45, .slice ae45 le45 ce45]) (g := true) kr kr kr ir (j79.cells 2 rfl rfl) (Res.tmp kr Res.nil)) kr ?_
  obtain ⟨he1, he2⟩ := op_good (z := z) ht33 ⟨(hN45.len_le 128).1 (by omega), (hD45.len_le 128).1 (by omega)⟩
  exact ⟨j79.upd, _, rfl, _, by rw [he1], by rw [he2]; exact RatX.raw ⟨_, _, _, _, _, _, rfl, (hN45.mono q79).mono j79.le, (hD45.mono q79).mono j79.le⟩⟩
 refine qD (N := 9) (Held [(⟨b2, 0, none⟩, [.bool a.neg, .slice ad₁ len₁ cap₁, .slice ae₁ le₁ ce₁]), (⟨b4, 0, none⟩, [.bool b.neg, .slice ad₂ len₂ cap₂, .slice ae₂ le₂ ce₂])]) [8] kr kr kr j20 ?_
 intro w35 j35 q35 hu35
 refine zX (Held.cons (j35.cells 3 rfl rfl) (Held.cons (j35.cells 2 rfl rfl) (Held.nil _))) (fun hH35 => ?_)
 refine zH (d := 20) (v := .func (.func f) #[] #[]) 0 A32 rfl kr kr kw (fun _ => hH35) ?_
 intro a36 A36
 refine zY (d := 21) (v := .agg #[.bool a.neg, .slice ad₁ len₁ cap₁, .slice ae₁ le₁ ce₁]) 1 A36 rfl kr kr kr (fun w hw => zF (t := 25) (g := true) (vs := [.bool a.neg, .slice ad₁ len₁ cap₁, .slice ae₁ le₁ ce₁]) (ad := ⟨b2, 0, none⟩) rfl kr kr ir (hw.get 0 kr)) hH35 ?_
 intro a37 A37
 refine zY (d := 23) (v := .agg #[.bool b.neg, .slice ad₂ len₂ cap₂, .slice ae₂ le₂ ce₂]) 3 A37 rfl kr kr kr (fun w hw => zF (t := 25) (g := true) (vs := [.bool b.neg, .slice ad₂ len₂ cap₂, .slice ae₂ le₂ ce₂]) (ad := ⟨b4, 0, none⟩) rfl kr kr ir (hw.get 1 kr)) hH35 ?_
 intro a38 A38
 refine zM [2, 7] kr rfl ?_
 refine ForkT.cons (i := 2) A38 rfl kr ?_ ?_
 ·
  refine zK (d := 22) (f := 51) (cap := #[]) (vs := #[.agg #[.bool a.neg, .slice ad₁ len₁ cap₁, .slice ae₁ le₁ ce₁]]) A38 kr j35 rfl kr kr (fun w => Try.call51 _ w) (of_c _ _ j35.lt a.neg _ _ _ (val a.ln) (hNna.mono (Le9 q2 q4 q6 q11 q14 q16 q18 q20 q35)) _ _ _ (val a.ld) (hNda.mono (Le9 q2 q4 q6 q11 q14 q16 q18 q20 q35))) ?_
  rintro v39 w39 j39 q39 hu39 ⟨ad39, len39, cap39, ae39, le39, ce39, rfl, hN39, hD39⟩ a40 A40
  refine zI (hH35.up hu39) (fun hH39 => ?_)
  refine zM [4, 7] kr rfl ?_
  refine ForkT.cons (i := 4) A40 rfl kr ?_ ?_
  ·
   refine zK (d := 24) (f := 51) (cap := #[]) (vs := #[.agg #[.bool b.neg, .slice ad₂ len₂ cap₂, .slice ae₂ le₂ ce₂]]) A40 kr j39 rfl kr kr (fun w => Try.call51 _ w) (of_c _ _ j39.lt b.neg _ _ _ (val b.ln) (hNnb.mono (Le10 q2 q4 q6 q11 q14 q16 q18 q20 q35 q39)) _ _ _ (val b.ld) (hNdb.mono (Le10 q2 q4 q6 q11 q14 q16 q18 q20 q35 q39))) ?_
   rintro v41 w41 j41 q41 hu41 ⟨ad41, len41, cap41, ae41, le41, ce41, rfl, hN41, hD41⟩ a42 A42
   refine zI (hH39.up hu41) (fun hH41 => ?_)
   refine zM [5, 7] kr rfl ?_
   refine ForkT.cons (i := 5) A42 rfl kr ?_ ?_
   ·
    refine zK (d := 25) (f := f) (cap := #[]) (vs := #[.agg #[.slice ad39 len39 cap39, .slice ae39 le39 ce39, .bool a.neg], .agg #[.slice ad41 len41 cap41, .slice ae41 le41 ce41, .bool b.neg]]) A42 kr j41 rfl kr kr (fun w => hcf _ w) (hop _ _ j41.lt _ _ _ (val a.ln) (hN39.mono q41) _ _ _ a.d (hD39.mono q41) a.neg (by assumption) (by assumption) _ _ _ (val b.ln) hN41 _ _ _ b.d hD41 b.neg (by assumption) (by assumption) (by assumption) (by assumption)) ?_
    rintro v43 w43 j43 q43 hu43 ⟨sg43, m43, d43, ⟨ad43, len43, cap43, ae43, le43, ce43, rfl, hN43, hD43⟩, hm43, hd43, hp43, he43⟩ a44 A44
    refine zI (Held.cons (j43.cells 3 rfl rfl) (Held.cons (j43.cells 2 rfl rfl) (Held.nil _))) (fun hH43 => ?_)
    refine zM [6, 7] kr rfl ?_
    refine ForkT.cons (i := 6) A44 rfl kr ?_ ?_
    ·
     refine zK (d := 26) (f := 58) (cap := #[]) (vs := #[.agg #[.slice ad43 len43 cap43, .slice ae43 le43 ce43, .bool sg43]]) A44 kr j43 rfl kr kr (fun w => Try.call58 _ w) (lowest_r _ _ j43.lt _ _ _ m43 hN43 _ _ _ d43 hD43 sg43 hm43 hd43 hp43 z (he43.trans hz)) ?_
     rintro v45 w45 j45 q45 hu45 ⟨ad45, len45, cap45, ae45, le45, ce45, rfl, hN45, hD45⟩ a46 A46
     refine zI (hH43.up hu45) (fun hH45 => ?_)
     refine zM [7] kr rfl ?_
     refine ForkT.cons (i := 7) A46 rfl kr (zN (d := 9) (fun b => .pointer (some ⟨b, 0, none⟩)) (.cells #[.bool false, .slice none 0 0, .slice none 0 0] 25 (0, 0)) A46 kr j45 kw ?_) ForkT.nil
     intro b47 w47 Y47 j47 q47 hu47 a48 A48
     refine zI (hH45.up hu47) (fun hH47 => ?_)
     refine zM [8] kr rfl ?_
     refine ForkT.cons (i := 8) A48 rfl kr (zO (t := 25) (b := b47) (off := 0) (c' := #[.bool (decide (z.num < 0)), .slice ad45 len45 cap45, .slice ae45 le45 ce45]) (g := true) (m := 3) 0 _ A48 kr j47 rfl kr rfl kr kr kr rfl (by first | decide | (simp; done)) kr rfl ?_) ForkT.nil
     intro w49 j49 q49
     refine ⟨begun_tt kr, ?_⟩
     refine qB kr (nrm ?_)
     exact zA (hJ9001 _ _ ⟨_, b47, ad45, len45, cap45, ae45, le45, ce45, ad39, len39, cap39, ae39, le39, ce39, ad41, len41, cap41, ae41, le41, ce41, ad43, len43, cap43, m43, ae43, le43, ce43, d43, A48.as [6, 9] kr kr, j49, (Le7 q35 q39 q41 q43 q45 q47 q49), (hN39.mono (Le5 q41 q43 q45 q47 q49)), (hD39.mono (Le5 q41 q43 q45 q47 q49)), (hN41.mono (Le4 q43 q45 q47 q49)), (hD41.mono (Le4 q43 q45 q47 q49)), (hN43.mono (Le3 q45 q47 q49)), (hD43.mono (Le3 q45 q47 q49)), (hN45.mono (Le2 q47 q49)), (hD45.mono (Le2 q47 q49))⟩)
    refine ForkT.cons (i := 7) A44 rfl kr (zN (d := 9) (fun b => .pointer (some ⟨b, 0, none⟩)) (.cells #[.bool false, .slice none 0 0, .slice none 0 0] 25 (0, 0)) A44 kr j43 kw ?_) ForkT.nil
    intro b50 w50 Y50 j50 q50 hu50 a51 A51
    refine zI (hH43.up hu50) (fun hH50 => ?_)
    refine zM [6] kr rfl ?_
    refine ForkT.cons (i := 6) A51 rfl kr (zK (d := 26) (f := 58) (cap := #[]) (vs := #[.agg #[.slice ad43 len43 cap43, .slice ae43 le43 ce43, .bool sg43]]) A51 kr j50 rfl kr kr (fun w => Try.call58 _ w) (lowest_r _ _ j50.lt _ _ _ m43 (hN43.mono q50) _ _ _ d43 (hD43.mono q50) sg43 hm43 hd43 hp43 z (he43.trans hz)) ?_) ForkT.nil
    rintro v52 w52 j52 q52 hu52 ⟨ad52, len52, cap52, ae52, le52, ce52, rfl, hN52, hD52⟩ a53 A53
    refine zI (hH50.up hu52) (fun hH52 => ?_)
    refine zM [8] kr rfl ?_
    refine ForkT.cons (i := 8) A53 rfl kr (zO (t := 25) (b := b50) (off := 0) (c' := #[.bool (decide (z.num < 0)), .slice ad52 len52 cap52, .slice ae52 le52 ce52]) (g := true) (m := 3) 0 _ A53 kr j52 rfl kr rfl kr kr kr rfl (by first | decide | (simp; done)) kr rfl ?_) ForkT.nil
    intro w54 j54 q54
    refine ⟨begun_tt kr, ?_⟩
    refine qB kr (nrm ?_)
    exact zA (hJ9001 _ _ ⟨_, b50, ad52, len52, cap52, ae52, le52, ce52, ad39, len39, cap39, ae39, le39, ce39, ad41, len41, cap41, ae41, le41, ce41, ad43, len43, cap43, m43, ae43, le43, ce43, d43, A53.as [6, 9] kr kr, j54, (Le7 q35 q39 q41 q43 q50 q52 q54), (hN39.mono (Le5 q41 q43 q50 q52 q54)), (hD39.mono (Le5 q41 q43 q50 q52 q54)), (hN41.mono (Le4 q43 q50 q52 q54)), (hD41.mono (Le4 q43 q50 q52 q54)), (hN43.mono (Le3 q50 q52 q54)), (hD43.mono (Le3 q50 q52 q54)), (hN52.mono q54), (hD52.mono q54)⟩)
   refine ForkT.cons (i := 7) A42 rfl kr (zN (d := 9) (fun b => .pointer (some ⟨b, 0, none⟩)) (.cells #[.bool false, .slice none 0 0, .slice none 0 0] 25 (0, 0)) A42 kr j41 kw ?_) ForkT.nil
   intro b55 w55 Y55 j55 q55 hu55 a56 A56
   refine zI (hH41.up hu55) (fun hH55 => ?_)
   refine zM [5] kr rfl ?_
   refine ForkT.cons (i := 5) A56 rfl kr (zK (d := 25) (f := f) (cap := #[]) (vs := #[.agg #[.slice ad39 len39 cap39, .slice ae39 le39 ce39, .bool a.neg], .agg #[.slice ad41 len41 cap41, .slice ae41 le41 ce41, .bool b.neg]]) A56 kr j55 rfl kr kr (fun w => hcf _ w) (hop _ _ j55.lt _ _ _ (val a.ln) (hN39.mono (Le2 q41 q55)) _ _ _ a.d (hD39.mono (Le2 q41 q55)) a.neg (by assumption) (by assumption) _ _ _ (val b.ln) (hN41.mono q55) _ _ _ b.d (hD41.mono q55) b.neg (by assumption) (by assumption) (by assumption) (by assumption)) ?_) ForkT.nil
   rintro v57 w57 j57 q57 hu57 ⟨sg57, m57, d57, ⟨ad57, len57, cap57, ae57, le57, ce57, rfl, hN57, hD57⟩, hm57, hd57, hp57, he57⟩ a58 A58
   refine zI (Held.cons (j57.cells 4 rfl rfl) (Held.cons (j57.cells 3 rfl rfl) (Held.nil _))) (fun hH57 => ?_)
   refine zM [6] kr rfl ?_
   refine ForkT.cons (i := 6) A58 rfl kr (zK (d := 26) (f := 58) (cap := #[]) (vs := #[.agg #[.slice ad57 len57 cap57, .slice ae57 le57 ce57, .bool sg57]]) A58 kr j57 rfl kr kr (fun w => Try.call58 _ w) (lowest_r _ _ j57.lt _ _ _ m57 hN57 _ _ _ d57 hD57 sg57 hm57 hd57 hp57 z (he57.trans hz)) ?_) ForkT.nil
   rintro v59 w59 j59 q59 hu59 ⟨ad59, len59, cap59, ae59, le59, ce59, rfl, hN59, hD59⟩ a60 A60
   refine zI (hH57.up hu59) (fun hH59 => ?_)
   refine zM [8] kr rfl ?_
   refine ForkT.cons (i := 8) A60 rfl kr (zO (t := 25) (b := b55) (off := 0) (c' := #[.bool (decide (z.num < 0)), .slice ad59 len59 cap59, .slice ae59 le59 ce59]) (g := true) (m := 3) 0 _ A60 kr j59 rfl kr rfl kr kr kr rfl (by first | decide | (simp; done)) kr rfl ?_) ForkT.nil
   intro w61 j61 q61
   refine ⟨begun_tt kr, ?_⟩
   refine qB kr (nrm ?_)
   exact zA (hJ9001 _ _ ⟨_, b55, ad59, len59, cap59, ae59, le59, ce59, ad39, len39, cap39, ae39, le39, ce39, ad41, len41, cap41, ae41, le41, ce41, ad57, len57, cap57, m57, ae57, le57, ce57, d57, A60.as [6, 9] kr kr, j61, (Le7 q35 q39 q41 q55 q57 q59 q61), (hN39.mono (Le5 q41 q55 q57 q59 q61)), (hD39.mono (Le5 q41 q55 q57 q59 q61)), (hN41.mono (Le4 q55 q57 q59 q61)), (hD41.mono (Le4 q55 q57 q59 q61)), (hN57.mono (Le2 q59 q61)), (hD57.mono (Le2 q59 q61)), (hN59.mono q61), (hD59.mono q61)⟩)
  refine ForkT.cons (i := 7) A40 rfl kr (zN (d := 9) (fun b => .pointer (some ⟨b, 0, none⟩)) (.cells #[.bool false, .slice none 0 0, .slice none 0 0] 25 (0, 0)) A40 kr j39 kw ?_) ForkT.nil
  intro b62 w62 Y62 j62 q62 hu62 a63 A63
  refine zI (hH39.up hu62) (fun hH62 => ?_)
  refine zM [4] kr rfl ?_
  refine ForkT.cons (i := 4) A63 rfl kr (zK (d := 24) (f := 51) (cap := #[]) (vs := #[.agg #[.bool b.neg, .slice ad₂ len₂ cap₂, .slice ae₂ le₂ ce₂]]) A63 kr j62 rfl kr kr (fun w => Try.call51 _ w) (of_c _ _ j62.lt b.neg _ _ _ (val b.ln) (hNnb.mono (Le11 q2 q4 q6 q11 q14 q16 q18 q20 q35 q39 q62)) _ _ _ (val b.ld) (hNdb.mono (Le11 q2 q4 q6 q11 q14 q16 q18 q20 q35 q39 q62))) ?_) ForkT.nil
  rintro v64 w64 j64 q64 hu64 ⟨ad64, len64, cap64, ae64, le64, ce64, rfl, hN64, hD64⟩ a65 A65
  refine zI (hH62.up hu64) (fun hH64 => ?_)
  refine zM [5] kr rfl ?_
  refine ForkT.cons (i := 5) A65 rfl kr (zK (d := 25) (f := f) (cap := #[]) (vs := #[.agg #[.slice ad39 len39 cap39, .slice ae39 le39 ce39, .bool a.neg], .agg #[.slice ad64 len64 cap64, .slice ae64 le64 ce64, .bool b.neg]]) A65 kr j64 rfl kr kr (fun w => hcf _ w) (hop _ _ j64.lt _ _ _ (val a.ln) (hN39.mono (Le2 q62 q64)) _ _ _ a.d (hD39.mono (Le2 q62 q64)) a.neg (by assumption) (by assumption) _ _ _ (val b.ln) hN64 _ _ _ b.d hD64 b.neg (by assumption) (by assumption) (by assumption) (by assumption)) ?_) ForkT.nil
  rintro v66 w66 j66 q66 hu66 ⟨sg66, m66, d66, ⟨ad66, len66, cap66, ae66, le66, ce66, rfl, hN66, hD66⟩, hm66, hd66, hp66, he66⟩ a67 A67
  refine zI (Held.cons (j66.cells 4 rfl rfl) (Held.cons (j66.cells 3 rfl rfl) (Held.nil _))) (fun hH66 => ?_)
  refine zM [6] kr rfl ?_
  refine ForkT.cons (i := 6) A67 rfl kr (zK (d := 26) (f := 58) (cap := #[]) (vs := #[.agg #[.slice ad66 len66 cap66, .slice ae66 le66 ce66, .bool sg66]]) A67 kr j66 rfl kr kr (fun w => Try.call58 _ w) (lowest_r _ _ j66.lt _ _ _ m66 hN66 _ _ _ d66 hD66 sg66 hm66 hd66 hp66 z (he66.trans hz)) ?_) ForkT.nil
  rintro v68 w68 j68 q68 hu68 ⟨ad68, len68, cap68, ae68, le68, ce68, rfl, hN68, hD68⟩ a69 A69
  refine zI (hH66.up hu68) (fun hH68 => ?_)
  refine zM [8] kr rfl ?_
  refine ForkT.cons (i := 8) A69 rfl kr (zO (t := 25) (b := b62) (off := 0) (c' := #[.bool (decide (z.num < 0)), .slice ad68 len68 cap68, .slice ae68 le68 ce68]) (g := true) (m := 3) 0 _ A69 kr j68 rfl kr rfl kr kr kr rfl (by first | decide | (simp; done)) kr rfl ?_) ForkT.nil
  intro w70 j70 q70
  refine ⟨begun_tt kr, ?_⟩
  refine qB kr (nrm ?_)
  exact zA (hJ9001 _ _ ⟨_, b62, ad68, len68, cap68, ae68, le68, ce68, ad39, len39, cap39, ae39, le39, ce39, ad64, len64, cap64, ae64, le64, ce64, ad66, len66, cap66, m66, ae66, le66, ce66, d66, A69.as [6, 9] kr kr, j70, (Le7 q35 q39 q62 q64 q66 q68 q70), (hN39.mono (Le5 q62 q64 q66 q68 q70)), (hD39.mono (Le5 q62 q64 q66 q68 q70)), (hN64.mono (Le3 q66 q68 q70)), (hD64.mono (Le3 q66 q68 q70)), (hN66.mono (Le2 q68 q70)), (hD66.mono (Le2 q68 q70)), (hN68.mono q70), (hD68.mono q70)⟩)
 refine ForkT.cons (i := 7) A38 rfl kr (zN (d := 9) (fun b => .pointer (some ⟨b, 0, none⟩)) (.cells #[.bool false, .slice none 0 0, .slice none 0 0] 25 (0, 0)) A38 kr j35 kw ?_) ForkT.nil
 intro b71 w71 Y71 j71 q71 hu71 a72 A72
 refine zI (hH35.up hu71) (fun hH71 => ?_)
 refine zM [2] kr rfl ?_
 refine ForkT.cons (i := 2) A72 rfl kr (zK (d := 22) (f := 51) (cap := #[]) (vs := #[.agg #[.bool a.neg, .slice ad₁ len₁ cap₁, .slice ae₁ le₁ ce₁]]) A72 kr j71 rfl kr kr (fun w => Try.call51 _ w) (of_c _ _ j71.lt a.neg _ _ _ (val a.ln) (hNna.mono (Le10 q2 q4 q6 q11 q14 q16 q18 q20 q35 q71)) _ _ _ (val a.ld) (hNda.mono (Le10 q2 q4 q6 q11 q14 q16 q18 q20 q35 q71))) ?_) ForkT.nil
 rintro v73 w73 j73 q73 hu73 ⟨ad73, len73, cap73, ae73, le73, ce73, rfl, hN73, hD73⟩ a74 A74
 refine zI (hH71.up hu73) (fun hH73 => ?_)
 refine zM [4] kr rfl ?_
 refine ForkT.cons (i := 4) A74 rfl kr (zK (d := 24) (f := 51) (cap := #[]) (vs := #[.agg #[.bool b.neg, .slice ad₂ len₂ cap₂, .slice ae₂ le₂ ce₂]]) A74 kr j73 rfl kr kr (fun w => Try.call51 _ w) (of_c _ _ j73.lt b.neg _ _ _ (val b.ln) (hNnb.mono (Le11 q2 q4 q6 q11 q14 q16 q18 q20 q35 q71 q73)) _ _ _ (val b.ld) (hNdb.mono (Le11 q2 q4 q6 q11 q14 q16 q18 q20 q35 q71 q73))) ?_) ForkT.nil
 rintro v75 w75 j75 q75 hu75 ⟨ad75, len75, cap75, ae75, le75, ce75, rfl, hN75, hD75⟩ a76 A76
 refine zI (hH73.up hu75) (fun hH75 => ?_)
 refine zM [5] kr rfl ?_
 refine ForkT.cons (i := 5) A76 rfl kr (zK (d := 25) (f := f) (cap := #[]) (vs := #[.agg #[.slice ad73 len73 cap73, .slice ae73 le73 ce73, .bool a.neg], .agg #[.slice ad75 len75 cap75, .slice ae75 le75 ce75, .bool b.neg]]) A76 kr j75 rfl kr kr (fun w => hcf _ w) (hop _ _ j75.lt _ _ _ (val a.ln) (hN73.mono q75) _ _ _ a.d (hD73.mono q75) a.neg (by assumption) (by assumption) _ _ _ (val b.ln) hN75 _ _ _ b.d hD75 b.neg (by assumption) (by assumption) (by assumption) (by assumption)) ?_) ForkT.nil
 rintro v77 w77 j77 q77 hu77 ⟨sg77, m77, d77, ⟨ad77, len77, cap77, ae77, le77, ce77, rfl, hN77, hD77⟩, hm77, hd77, hp77, he77⟩ a78 A78
 refine zI (Held.cons (j77.cells 4 rfl rfl) (Held.cons (j77.cells 3 rfl rfl) (Held.nil _))) (fun hH77 => ?_)
 refine zM [6] kr rfl ?_
 refine ForkT.cons (i := 6) A78 rfl kr (zK (d := 26) (f := 58) (cap := #[]) (vs := #[.agg #[.slice ad77 len77 cap77, .slice ae77 le77 ce77, .bool sg77]]) A78 kr j77 rfl kr kr (fun w => Try.call58 _ w) (lowest_r _ _ j77.lt _ _ _ m77 hN77 _ _ _ d77 hD77 sg77 hm77 hd77 hp77 z (he77.trans hz)) ?_) ForkT.nil
 rintro v79 w79 j79 q79 hu79 ⟨ad79, len79, cap79, ae79, le79, ce79, rfl, hN79, hD79⟩ a80 A80
 refine zI (hH77.up hu79) (fun hH79 => ?_)
 refine zM [8] kr rfl ?_
 refine ForkT.cons (i := 8) A80 rfl kr (zO (t := 25) (b := b71) (off := 0) (c' := #[.bool (decide (z.num < 0)), .slice ad79 len79 cap79, .slice ae79 le79 ce79]) (g := true) (m := 3) 0 _ A80 kr j79 rfl kr rfl kr kr kr rfl (by first | decide | (simp; done)) kr rfl ?_) ForkT.nil
 intro w81 j81 q81
 refine ⟨begun_tt kr, ?_⟩
 refine qB kr (nrm ?_)
 exact zA (hJ9001 _ _ ⟨_, b71, ad79, len79, cap79, ae79, le79, ce79, ad73, len73, cap73, ae73, le73, ce73, ad75, len75, cap75, ae75, le75, ce75, ad77, len77, cap77, m77, ae77, le77, ce77, d77, A80.as [6, 9] kr kr, j81, (Le7 q35 q71 q73 q75 q77 q79 q81), (hN73.mono (Le4 q75 q77 q79 q81)), (hD73.mono (Le4 q75 q77 q79 q81)), (hN75.mono (Le3 q77 q79 q81)), (hD75.mono (Le3 q77 q79 q81)), (hN77.mono (Le2 q79 q81)), (hD77.mono (Le2 q79 q81)), (hN79.mono q81), (hD79.mono q81)⟩)
end Go.Proofs.Ytoocgllbbihoaaa
namespace Go.Proofs.Ytoocgllbbihoaaa
open Go Go.Gv Go.RowKit
set_option maxRecDepth 100000
set_option maxHeartbeats 1000000
theorem rAdd_c (w : World) (X : Hid) (hX : ∀ k o, X k o → k < w.heap.size) (a : Raw) (ad₁ : Option Addr) (len₁ cap₁ : Nat) (h₁ : Limbs (rd w X) ad₁ len₁ cap₁ a.ln) (ae₁ : Option Addr) (le₁ ce₁ : Nat) (k₁ : Limbs (rd w X) ae₁ le₁ ce₁ a.ld) (b : Raw) (ad₂ : Option Addr) (len₂ cap₂ : Nat) (h₂ : Limbs (rd w X) ad₂ len₂ cap₂ b.ln) (ae₂ : Option Addr) (le₂ ce₂ : Nat) (k₂ : Limbs (rd w X) ae₂ le₂ ce₂ b.ld) : Calls Try.prog 16 #[.agg #[.bool a.neg, .slice ad₁ len₁ cap₁, .slice ae₁ le₁ ce₁], .agg #[.bool b.neg, .slice ad₂ len₂ cap₂, .slice ae₂ le₂ ce₂]] w (Ret E0 w fun w' v => ∃ u, v = .tuple #[u, .int .i64 (opE a b (a.rat + b.rat))] ∧ RawX X w' u (opR a b (a.rat + b.rat))) := by
 refine zZ (n := 11) (vs := [.agg #[.bool a.neg, .slice ad₁ len₁ cap₁, .slice ae₁ le₁ ce₁], .agg #[.bool b.neg, .slice ad₂ len₂ cap₂, .slice ae₂ le₂ ce₂]]) Try.func16 rfl rfl rfl kr (fun a0 A0 => ?_)
 have A0 : Fr 11 a0 [(0, .agg #[.bool a.neg, .slice ad₁ len₁ cap₁, .slice ae₁ le₁ ce₁]), (1, .agg #[.bool b.neg, .slice ad₂ len₂ cap₂, .slice ae₂ le₂ ce₂])] := A0
 have j0 : St E0 w X w X [] := St.start hX
 refine zD (fun K1 C1 => ?_)
 refine zC ?_
 refine wplI A0 kr (zN (d := 2) (fun b => .pointer (some ⟨b, 0, none⟩)) (.cells #[.bool a.neg, .slice ad₁ len₁ cap₁, .slice ae₁ le₁ ce₁] 25 (0, 0)) A0 kr j0 kw ?_)
 intro b2 w2 Y2 j2 q2 hu2 a3 A3
 refine wplI A3 kr (zN (d := 3) (fun b => .pointer (some ⟨b, 0, none⟩)) (.cells #[.bool b.neg, .slice ad₂ len₂ cap₂, .slice ae₂ le₂ ce₂] 25 (0, 0)) A3 kr j2 kw ?_)
 intro b4 w4 Y4 j4 q4 hu4 a5 A5
 refine wplI A5 kr (zN (d := 4) (fun b => .pointer (some ⟨b, 0, none⟩)) (.cells #[.bool false, .slice none 0 0, .slice none 0 0] 25 (0, 0)) A5 kr j4 kw ?_)
 intro b6 w6 Y6 j6 q6 hu6 a7 A7
 refine zB 1 [(5, .int .i64 0)] A7 kr kr (fun a8 A8 => ?_)
 refine zE ?_
 refine zA (C1 _ _ ?_)
 refine zD (fun K9 C9 => ?_)
 refine zC ?_
 refine wplI A8 kr (zJ (d := 6) (v := .agg #[.bool a.neg, .slice ad₁ len₁ cap₁, .slice ae₁ le₁ ce₁]) A8 kr (zF (t := 25) (g := true) (vs := [.bool a.neg, .slice ad₁ len₁ cap₁, .slice ae₁ le₁ ce₁]) (ad := ⟨b2, 0, none⟩) rfl kr kr ir (j6.cells 2 rfl rfl)) ?_)
 intro a10 A10
 refine wplI A10 kr (zJ (d := 7) (v := .agg #[.bool b.neg, .slice ad₂ len₂ cap₂, .slice ae₂ le₂ ce₂]) A10 kr (zF (t := 25) (g := true) (vs := [.bool b.neg, .slice ad₂ len₂ cap₂, .slice ae₂ le₂ ce₂]) (ad := ⟨b4, 0, none⟩) rfl kr kr ir (j6.cells 1 rfl rfl)) ?_)
 intro a11 A11
 refine wplI A11 kr (zK (d := 8) (f := 36) (cap := #[]) (vs := #[.agg #[.bool a.neg, .slice ad₁ len₁ cap₁, .slice ae₁ le₁ ce₁], .agg #[.bool b.neg, .slice ad₂ len₂ cap₂, .slice ae₂ le₂ ce₂], .func (.func 37) #[] #[]]) A11 kr j6 rfl kr kr (fun w => Try.call36 _ w) (operate_c 37 (· + ·) (fun args w => Try.call37 args w) sum_op _ _ j6.lt a _ _ _ (h₁.mono (Le3 q2 q4 q6)) _ _ _ (k₁.mono (Le3 q2 q4 q6)) b _ _ _ (h₂.mono (Le3 q2 q4 q6)) _ _ _ (k₂.mono (Le3 q2 q4 q6)) (a.rat + b.rat) rfl) ?_)
 rintro v12 w12 j12 q12 hu12 ⟨u12, rfl, ⟨ad12, len12, cap12, ae12, le12, ce12, rfl, hN12, hD12⟩⟩ a13 A13
 refine zB 2 [(10, .int .i64 (opE a b (a.rat + b.rat))), (9, .agg #[.bool ((opR a b (a.rat + b.rat)).neg), .slice ad12 len12 cap12, .slice ae12 le12 ce12])] A13 kr kr (fun a14 A14 => ?_)
 refine wplI A14 kr (zO (t := 25) (b := b6) (off := 0) (c' := #[.bool ((opR a b (a.rat + b.rat)).neg), .slice ad12 len12 cap12, .slice ae12 le12 ce12]) (g := true) (m := 3) 0 _ A14 kr j12 rfl kr rfl kr kr kr rfl (by first | decide | (simp; done)) kr rfl ?_)
 intro w15 j15 q15
 refine zB 1 [(5, .int .i64 (opE a b (a.rat + b.rat)))] A14 kr kr (fun a16 A16 => ?_)
 refine zE ?_
 refine zA (C9 _ _ ?_)
 refine zQ ?_
 refine zR (v := .tuple #[.agg #[.bool ((opR a b (a.rat + b.rat)).neg), .slice ad12 len12 cap12, .slice ae12 le12 ce12], .int .i64 (opE a b (a.rat + b.rat))]) (rs := [.cell 4 25, .tmp 5]) A16 kr (Res.cell (ad := ⟨b6, 0, none⟩) (cs := [.bool ((opR a b (a.rat + b.rat)).neg), .slice ad12 len12 cap12, .slice ae12 le12 ce12]) (g := true) kr kr kr ir (j15.cells 0 rfl rfl) (Res.tmp kr Res.nil)) kr ?_
 exact ⟨j15.upd, _, rfl, _, rfl, ⟨_, _, _, _, _, _, rfl, (hN12.mono q15).mono j15.le, (hD12.mono q15).mono j15.le⟩⟩
theorem rMul_c (w : World) (X : Hid) (hX : ∀ k o, X k o → k < w.heap.size) (a : Raw) (ad₁ : Option Addr) (len₁ cap₁ : Nat) (h₁ : Limbs (rd w X) ad₁ len₁ cap₁ a.ln) (ae₁ : Option Addr) (le₁ ce₁ : Nat) (k₁ : Limbs (rd w X) ae₁ le₁ ce₁ a.ld) (b : Raw) (ad₂ : Option Addr) (len₂ cap₂ : Nat) (h₂ : Limbs (rd w X) ad₂ len₂ cap₂ b.ln) (ae₂ : Option Addr) (le₂ ce₂ : Nat) (k₂ : Limbs (rd w X) ae₂ le₂ ce₂ b.ld) : Calls Try.prog 17 #[.agg #[.bool a.neg, .slice ad₁ len₁ cap₁, .slice ae₁ le₁ ce₁], .agg #[.bool b.neg, .slice ad₂ len₂ cap₂, .slice ae₂ le₂ ce₂]] w (Ret E0 w fun w' v => ∃ u, v = .tuple #[u, .int .i64 (opE a b (a.rat * b.rat))] ∧ RawX X w' u (opR a b (a.rat * b.rat))) := by
 refine zZ (n := 11) (vs := [.agg #[.bool a.neg, .slice ad₁ len₁ cap₁, .slice ae₁ le₁ ce₁], .agg #[.bool b.neg, .slice ad₂ len₂ cap₂, .slice ae₂ le₂ ce₂]]) Try.func17 rfl rfl rfl kr (fun a0 A0 => ?_)
 have A0 : Fr 11 a0 [(0, .agg #[.bool a.neg, .slice ad₁ len₁ cap₁, .slice ae₁ le₁ ce₁]), (1, .agg #[.bool b.neg, .slice ad₂ len₂ cap₂, .slice ae₂ le₂ ce₂])] := A0
 have j0 : St E0 w X w X [] := St.start hX
 refine zD (fun K1 C1 => ?_)
 refine zC ?_
 refine wplI A0 kr (zN (d := 2) (fun b => .pointer (some ⟨b, 0, none⟩)) (.cells #[.bool a.neg, .slice ad₁ len₁ cap₁, .slice ae₁ le₁ ce₁] 25 (0, 0)) A0 kr j0 kw ?_)
 intro b2 w2 Y2 j2 q2 hu2 a3 A3
 refine wplI A3 kr (zN (d := 3) (fun b => .pointer (some ⟨b, 0, none⟩)) (.cells #[.bool b.neg, .slice ad₂ len₂ cap₂, .slice ae₂ le₂ ce₂] 25 (0, 0)) A3 kr j2 kw ?_)
 intro b4 w4 Y4 j4 q4 hu4 a5 A5
 refine wplI A5 kr (zN (d := 4) (fun b => .pointer (some ⟨b, 0, none⟩)) (.cells #[.bool false, .slice none 0 0, .slice none 0 0] 25 (0, 0)) A5 kr j4 kw ?_)
 intro b6 w6 Y6 j6 q6 hu6 a7 A7
 refine zB 1 [(5, .int .i64 0)] A7 kr kr (fun a8 A8 => ?_)
 refine zE ?_
 refine zA (C1 _ _ ?_)
 refine zD (fun K9 C9 => ?_)
 refine zC ?_
 refine wplI A8 kr (zJ (d := 6) (v := .agg #[.bool a.neg, .slice ad₁ len₁ cap₁, .slice ae₁ le₁ ce₁]) A8 kr (zF (t := 25) (g := true) (vs := [.bool a.neg, .slice ad₁ len₁ cap₁, .slice ae₁ le₁ ce₁]) (ad := ⟨b2, 0, none⟩) rfl kr kr ir (j6.cells 2 rfl rfl)) ?_)
 intro a10 A10
 refine wplI A10 kr (zJ (d := 7) (v := .agg #[.bool b.neg, .slice ad₂ len₂ cap₂, .slice ae₂ le₂ ce₂]) A10 kr (zF (t := 25) (g := true) (vs := [.bool b.neg, .slice ad₂ len₂ cap₂, .slice ae₂ le₂ ce₂]) (ad := ⟨b4, 0, none⟩) rfl kr kr ir (j6.cells 1 rfl rfl)) ?_)
 intro a11 A11
 refine wplI A11 kr (zK (d := 8) (f := 36) (cap := #[]) (vs := #[.agg #[.bool a.neg, .slice ad₁ len₁ cap₁, .slice ae₁ le₁ ce₁], .agg #[.bool b.neg, .slice ad₂ len₂ cap₂, .slice ae₂ le₂ ce₂], .func (.func 38) #[] #[]]) A11 kr j6 rfl kr kr (fun w => Try.call36 _ w) (operate_c 38 (· * ·) (fun args w => Try.call38 args w) product_op _ _ j6.lt a _ _ _ (h₁.mono (Le3 q2 q4 q6)) _ _ _ (k₁.mono (Le3 q2 q4 q6)) b _ _ _ (h₂.mono (Le3 q2 q4 q6)) _ _ _ (k₂.mono (Le3 q2 q4 q6)) (a.rat * b.rat) rfl) ?_)
 rintro v12 w12 j12 q12 hu12 ⟨u12, rfl, ⟨ad12, len12, cap12, ae12, le12, ce12, rfl, hN12, hD12⟩⟩ a13 A13
 refine zB 2 [(10, .int .i64 (opE a b (a.rat * b.rat))), (9, .agg #[.bool ((opR a b (a.rat * b.rat)).neg), .slice ad12 len12 cap12, .slice ae12 le12 ce12])] A13 kr kr (fun a14 A14 => ?_)
 refine wplI A14 kr (zO (t := 25) (b := b6) (off := 0) (c' := #[.bool ((opR a b (a.rat * b.rat)).neg), .slice ad12 len12 cap12, .slice ae12 le12 ce12]) (g := true) (m := 3) 0 _ A14 kr j12 rfl kr rfl kr kr kr rfl (by first | decide | (simp; done)) kr rfl ?_)
 intro w15 j15 q15
 refine zB 1 [(5, .int .i64 (opE a b (a.rat * b.rat)))] A14 kr kr (fun a16 A16 => ?_)
 refine zE ?_
 refine zA (C9 _ _ ?_)
 refine zQ ?_
 refine zR (v := .tuple #[.agg #[.bool ((opR a b (a.rat * b.rat)).neg), .slice ad12 len12 cap12, .slice ae12 le12 ce12], .int .i64 (opE a b (a.rat * b.rat))]) (rs := [.cell 4 25, .tmp 5]) A16 kr (Res.cell (ad := ⟨b6, 0, none⟩) (cs := [.bool ((opR a b (a.rat * b.rat)).neg), .slice ad12 len12 cap12, .slice ae12 le12 ce12]) (g := true) kr kr kr ir (j15.cells 0 rfl rfl) (Res.tmp kr Res.nil)) kr ?_
 exact ⟨j15.upd, _, rfl, _, rfl, ⟨_, _, _, _, _, _, rfl, (hN12.mono q15).mono j15.le, (hD12.mono q15).mono j15.le⟩⟩
theorem rSub_c (w : World) (X : Hid) (hX : ∀ k o, X k o → k < w.heap.size) (a : Raw) (ad₁ : Option Addr) (len₁ cap₁ : Nat) (h₁ : Limbs (rd w X) ad₁ len₁ cap₁ a.ln) (ae₁ : Option Addr) (le₁ ce₁ : Nat) (k₁ : Limbs (rd w X) ae₁ le₁ ce₁ a.ld) (b : Raw) (ad₂ : Option Addr) (len₂ cap₂ : Nat) (h₂ : Limbs (rd w X) ad₂ len₂ cap₂ b.ln) (ae₂ : Option Addr) (le₂ ce₂ : Nat) (k₂ : Limbs (rd w X) ae₂ le₂ ce₂ b.ld) : Calls Try.prog 44 #[.agg #[.bool a.neg, .slice ad₁ len₁ cap₁, .slice ae₁ le₁ ce₁], .agg #[.bool b.neg, .slice ad₂ len₂ cap₂, .slice ae₂ le₂ ce₂]] w (Ret E0 w fun w' v => ∃ u, v = .tuple #[u, .int .i64 (opE a b (a.rat - b.rat))] ∧ RawX X w' u (opR a b (a.rat - b.rat))) := by
 refine zZ (n := 11) (vs := [.agg #[.bool a.neg, .slice ad₁ len₁ cap₁, .slice ae₁ le₁ ce₁], .agg #[.bool b.neg, .slice ad₂ len₂ cap₂, .slice ae₂ le₂ ce₂]]) Try.func44 rfl rfl rfl kr (fun a0 A0 => ?_)
 have A0 : Fr 11 a0 [(0, .agg #[.bool a.neg, .slice ad₁ len₁ cap₁, .slice ae₁ le₁ ce₁]), (1, .agg #[.bool b.neg, .slice ad₂ len₂ cap₂, .slice ae₂ le₂ ce₂])] := A0
 have j0 : St E0 w X w X [] := St.start hX
 refine zD (fun K1 C1 => ?_)
 refine zC ?_
 refine wplI A0 kr (zN (d := 2) (fun b => .pointer (some ⟨b, 0, none⟩)) (.cells #[.bool a.neg, .slice ad₁ len₁ cap₁, .slice ae₁ le₁ ce₁] 25 (0, 0)) A0 kr j0 kw ?_)
 intro b2 w2 Y2 j2 q2 hu2 a3 A3
 refine wplI A3 kr (zN (d := 3) (fun b => .pointer (some ⟨b, 0, none⟩)) (.cells #[.bool b.neg, .slice ad₂ len₂ cap₂, .slice ae₂ le₂ ce₂] 25 (0, 0)) A3 kr j2 kw ?_)
 intro b4 w4 Y4 j4 q4 hu4 a5 A5
 refine wplI A5 kr (zN (d := 4) (fun b => .pointer (some ⟨b, 0, none⟩)) (.cells #[.bool false, .slice none 0 0, .slice none 0 0] 25 (0, 0)) A5 kr j4 kw ?_)
 intro b6 w6 Y6 j6 q6 hu6 a7 A7
 refine zB 1 [(5, .int .i64 0)] A7 kr kr (fun a8 A8 => ?_)
 refine zE ?_
 refine zA (C1 _ _ ?_)
 refine zD (fun K9 C9 => ?_)
 refine zC ?_
 refine wplI A8 kr (zJ (d := 6) (v := .agg #[.bool a.neg, .slice ad₁ len₁ cap₁, .slice ae₁ le₁ ce₁]) A8 kr (zF (t := 25) (g := true) (vs := [.bool a.neg, .slice ad₁ len₁ cap₁, .slice ae₁ le₁ ce₁]) (ad := ⟨b2, 0, none⟩) rfl kr kr ir (j6.cells 2 rfl rfl)) ?_)
 intro a10 A10
 refine wplI A10 kr (zJ (d := 7) (v := .agg #[.bool b.neg, .slice ad₂ len₂ cap₂, .slice ae₂ le₂ ce₂]) A10 kr (zF (t := 25) (g := true) (vs := [.bool b.neg, .slice ad₂ len₂ cap₂, .slice ae₂ le₂ ce₂]) (ad := ⟨b4, 0, none⟩) rfl kr kr ir (j6.cells 1 rfl rfl)) ?_)
 intro a11 A11
 refine wplI A11 kr (zK (d := 8) (f := 36) (cap := #[]) (vs := #[.agg #[.bool a.neg, .slice ad₁ len₁ cap₁, .slice ae₁ le₁ ce₁], .agg #[.bool b.neg, .slice ad₂ len₂ cap₂, .slice ae₂ le₂ ce₂], .func (.func 67) #[] #[]]) A11 kr j6 rfl kr kr (fun w => Try.call36 _ w) (operate_c 67 (· - ·) (fun args w => Try.call67 args w) sub_op _ _ j6.lt a _ _ _ (h₁.mono (Le3 q2 q4 q6)) _ _ _ (k₁.mono (Le3 q2 q4 q6)) b _ _ _ (h₂.mono (Le3 q2 q4 q6)) _ _ _ (k₂.mono (Le3 q2 q4 q6)) (a.rat - b.rat) rfl) ?_)
 rintro v12 w12 j12 q12 hu12 ⟨u12, rfl, ⟨ad12, len12, cap12, ae12, le12, ce12, rfl, hN12, hD12⟩⟩ a13 A13
 refine zB 2 [(10, .int .i64 (opE a b (a.rat - b.rat))), (9, .agg #[.bool ((opR a b (a.rat - b.rat)).neg), .slice ad12 len12 cap12, .slice ae12 le12 ce12])] A13 kr kr (fun a14 A14 => ?_)
 refine wplI A14 kr (zO (t := 25) (b := b6) (off := 0) (c' := #[.bool ((opR a b (a.rat - b.rat)).neg), .slice ad12 len12 cap12, .slice ae12 le12 ce12]) (g := true) (m := 3) 0 _ A14 kr j12 rfl kr rfl kr kr kr rfl (by first | decide | (simp; done)) kr rfl ?_)
 intro w15 j15 q15
 refine zB 1 [(5, .int .i64 (opE a b (a.rat - b.rat)))] A14 kr kr (fun a16 A16 => ?_)
 refine zE ?_
 refine zA (C9 _ _ ?_)
 refine zQ ?_
 refine zR (v := .tuple #[.agg #[.bool ((opR a b (a.rat - b.rat)).neg), .slice ad12 len12 cap12, .slice ae12 le12 ce12], .int .i64 (opE a b (a.rat - b.rat))]) (rs := [.cell 4 25, .tmp 5]) A16 kr (Res.cell (ad := ⟨b6, 0, none⟩) (cs := [.bool ((opR a b (a.rat - b.rat)).neg), .slice ad12 len12 cap12, .slice ae12 le12 ce12]) (g := true) kr kr kr ir (j15.cells 0 rfl rfl) (Res.tmp kr Res.nil)) kr ?_
 exact ⟨j15.upd, _, rfl, _, rfl, ⟨_, _, _, _, _, _, rfl, (hN12.mono q15).mono j15.le, (hD12.mono q15).mono j15.le⟩⟩
theorem rFrom_c (w : World) (X : Hid) (hX : ∀ k o, X k o → k < w.heap.size) (n : Int) (h1 : -9223372036854775808 ≤ n) (h2 : n ≤ 9223372036854775807) : Calls Try.prog 47 #[.int .i64 n] w (Ret E0 w fun w' v => RawX X w' v (.of (n : Rat))) := by
 refine zZ (n := 8) (vs := [.int .i64 n]) Try.func47 rfl rfl rfl kr (fun a0 A0 => ?_)
 have A0 : Fr 8 a0 [(0, .int .i64 n)] := A0
 have j0 : St E0 w X w X [] := St.start hX
 refine zD (fun K1 C1 => ?_)
 refine zC ?_
 refine wplI A0 kr (zN (d := 2) (fun b => .pointer (some ⟨b, 0, none⟩)) (.cells #[.bool false, .slice none 0 0, .slice none 0 0] 25 (0, 0)) A0 kr j0 kw ?_)
 intro b2 w2 Y2 j2 q2 hu2 a3 A3
 refine zE ?_
 refine zA (C1 _ _ ?_)
 refine zD (fun K4 C4 => ?_)
 refine zC ?_
 refine zB 3 [(5, .int .i64 n), (4, .bool (decide ((n) < 0))), (3, .int .i64 n)] A3 kr kr (fun a5 A5 => ?_)
 refine wplI A5 kr (zK (d := 6) (f := 68) (cap := #[]) (vs := #[.int .i64 n]) A5 kr j2 rfl kr kr (fun w => Try.call68 _ w) (natural_c _ _ j2.lt n (by omega) (by omega)) ?_)
 rintro v6 w6 j6 q6 hu6 ⟨ad6, len6, cap6, rfl, hN6⟩ a7 A7
 refine zB 1 [(7, .agg #[.bool (decide ((n) < 0)), .slice ad6 len6 cap6, .slice none 0 0])] A7 kr kr (fun a8 A8 => ?_)
 refine wplI A8 kr (zO (t := 25) (b := b2) (off := 0) (c' := #[.bool (decide ((n) < 0)), .slice ad6 len6 cap6, .slice none 0 0]) (g := true) (m := 3) 0 _ A8 kr j6 rfl kr rfl kr kr kr rfl (by first | decide | (simp; done)) kr rfl ?_)
 intro w9 j9 q9
 refine zE ?_
 refine zA (C4 _ _ ?_)
 refine zQ ?_
 refine zR (v := .agg #[.bool (decide ((n) < 0)), .slice ad6 len6 cap6, .slice none 0 0]) (rs := [.cell 2 25]) A8 kr (Res.cell (ad := ⟨b2, 0, none⟩) (cs := [.bool (decide ((n) < 0)), .slice ad6 len6 cap6, .slice none 0 0]) (g := true) kr kr kr ir (j9.cells 0 rfl rfl) Res.nil) kr ?_
 exact ⟨j9.upd, _, rfl, (int_rat ((hN6.mono q9).mono j9.le)).raw⟩
theorem rCmp_c (w : World) (X : Hid) (hX : ∀ k o, X k o → k < w.heap.size) (a : Raw) (ad₁ : Option Addr) (len₁ cap₁ : Nat) (h₁ : Limbs (rd w X) ad₁ len₁ cap₁ a.ln) (ae₁ : Option Addr) (le₁ ce₁ : Nat) (k₁ : Limbs (rd w X) ae₁ le₁ ce₁ a.ld) (b : Raw) (ad₂ : Option Addr) (len₂ cap₂ : Nat) (h₂ : Limbs (rd w X) ad₂ len₂ cap₂ b.ln) (ae₂ : Option Addr) (le₂ ce₂ : Nat) (k₂ : Limbs (rd w X) ae₂ le₂ ce₂ b.ld) : Calls Try.prog 32 #[.agg #[.bool a.neg, .slice ad₁ len₁ cap₁, .slice ae₁ le₁ ce₁], .agg #[.bool b.neg, .slice ad₂ len₂ cap₂, .slice ae₂ le₂ ce₂]] w (Ret E0 w fun w' v => v = .tuple #[.int .i64 (cmpR a b), .int .i64 (cmpE a b)]) := by
 refine zZ (n := 39) (vs := [.agg #[.bool a.neg, .slice ad₁ len₁ cap₁, .slice ae₁ le₁ ce₁], .agg #[.bool b.neg, .slice ad₂ len₂ cap₂, .slice ae₂ le₂ ce₂]]) Try.func32 rfl rfl rfl kr (fun a0 A0 => ?_)
 have A0 : Fr 39 a0 [(0, .agg #[.bool a.neg, .slice ad₁ len₁ cap₁, .slice ae₁ le₁ ce₁]), (1, .agg #[.bool b.neg, .slice ad₂ len₂ cap₂, .slice ae₂ le₂ ce₂])] := A0
 have j0 : St E0 w X w X [] := St.start hX
 refine zD (fun K1 C1 => ?_)
 refine zC ?_
 refine wplI A0 kr (zN (d := 2) (fun b => .pointer (some ⟨b, 0, none⟩)) (.cells #[.bool a.neg, .slice ad₁ len₁ cap₁, .slice ae₁ le₁ ce₁] 25 (0, 0)) A0 kr j0 kw ?_)
 intro b2 w2 Y2 j2 q2 hu2 a3 A3
 refine wplI A3 kr (zN (d := 3) (fun b => .pointer (some ⟨b, 0, none⟩)) (.cells #[.bool b.neg, .slice ad₂ len₂ cap₂, .slice ae₂ le₂ ce₂] 25 (0, 0)) A3 kr j2 kw ?_)
 intro b4 w4 Y4 j4 q4 hu4 a5 A5
 refine zB 2 [(5, .int .i64 0), (4, .int .i64 0)] A5 kr kr (fun a6 A6 => ?_)
 refine zE ?_
 refine zA (C1 _ _ ?_)
 refine zD (fun K7 C7 => ?_)
 refine zD (fun K8 C8 => ?_)
 refine qD (N := 7) (Held [(⟨b2, 0, none⟩, [.bool a.neg, .slice ad₁ len₁ cap₁, .slice ae₁ le₁ ce₁]), (⟨b4, 0, none⟩, [.bool b.neg, .slice ad₂ len₂ cap₂, .slice ae₂ le₂ ce₂])]) [] kr kr kr j4 ?_
 intro w9 j9 q9 hu9
 refine zX (Held.cons (j9.cells 1 rfl rfl) (Held.cons (j9.cells 0 rfl rfl) (Held.nil _))) (fun hH9 => ?_)
 refine zY (d := 10) (v := .agg #[.bool a.neg, .slice ad₁ len₁ cap₁, .slice ae₁ le₁ ce₁]) 0 A6 rfl kr kr kr (fun w hw => zF (t := 25) (g := true) (vs := [.bool a.neg, .slice ad₁ len₁ cap₁, .slice ae₁ le₁ ce₁]) (ad := ⟨b2, 0, none⟩) rfl kr kr ir (hw.get 0 kr)) hH9 ?_
 intro a10 A10
 refine zY (d := 12) (v := .agg #[.bool b.neg, .slice ad₂ len₂ cap₂, .slice ae₂ le₂ ce₂]) 2 A10 rfl kr kr kr (fun w hw => zF (t := 25) (g := true) (vs := [.bool b.neg, .slice ad₂ len₂ cap₂, .slice ae₂ le₂ ce₂]) (ad := ⟨b4, 0, none⟩) rfl kr kr ir (hw.get 1 kr)) hH9 ?_
 intro a11 A11
 refine zM [1] kr rfl ?_
 refine ForkT.cons (i := 1) A11 rfl kr (zK (d := 11) (f := 15) (cap := #[]) (vs := #[.agg #[.bool a.neg, .slice ad₁ len₁ cap₁, .slice ae₁ le₁ ce₁]]) A11 kr j9 rfl kr kr (fun w => Try.call15 _ w) (rcheck_c _ _ j9.lt a _ _ _ (h₁.mono (Le3 q2 q4 q9)) _ _ _ (k₁.mono (Le3 q2 q4 q9))) ?_) ForkT.nil
 rintro v12 w12 j12 q12 hu12 rfl a13 A13
 refine zI (hH9.up hu12) (fun hH12 => ?_)
 refine zM [3] kr rfl ?_
 refine ForkT.cons (i := 3) A13 rfl kr (zK (d := 13) (f := 15) (cap := #[]) (vs := #[.agg #[.bool b.neg, .slice ad₂ len₂ cap₂, .slice ae₂ le₂ ce₂]]) A13 kr j12 rfl kr kr (fun w => Try.call15 _ w) (rcheck_c _ _ j12.lt b _ _ _ (h₂.mono (Le4 q2 q4 q9 q12)) _ _ _ (k₂.mono (Le4 q2 q4 q9 q12))) ?_) ForkT.nil
 rintro v14 w14 j14 q14 hu14 rfl a15 A15
 refine zI (hH12.up hu14) (fun hH14 => ?_)
 refine zM [4] kr rfl ?_
 refine ForkT.cons (i := 4) A15 rfl kr (zN (d := 14) (fun b => .slice (some ⟨b, 0, none⟩) 2 2) (.cells #[.int .i64 a.chk, .int .i64 b.chk] 34 (0, 0)) A15 kr j14 kw ?_) ForkT.nil
 intro b16 w16 Y16 j16 q16 hu16 a17 A17
 refine zI (hH14.up hu16) (fun hH16 => ?_)
 refine zM [5] kr rfl ?_
 refine ForkT.cons (i := 5) A17 rfl kr (zK (d := 15) (f := 50) (cap := #[]) (vs := #[.slice (some ⟨b16, 0, none⟩) 2 2]) A17 kr j16 rfl kr kr (fun w => Try.call50 _ w) (or_c _ X0 (X0_lt _) _ _ _ _ [a.chk, b.chk] rfl (by simp) (j16.at0 0 rfl rfl)) ?_) ForkT.nil
 rintro v18 w18 j18 q18 hu18 rfl a19 A19
 refine zI (hH16.up hu18) (fun hH18 => ?_)
 refine zH (d := 6) (v := .int .i64 (orL [a.chk, b.chk])) 6 A19 rfl kr kr kw (fun _ => hH18) ?_
 intro a20 A20
 refine qB kr (nrm ?_)
 refine zA (C8 _ _ ?_)
 refine zD (fun K21 C21 => ?_)
 refine zC ?_
 refine zB 2 [(17, .bool ((orL [a.chk, b.chk]) != 0)), (16, .int .i64 (orL [a.chk, b.chk]))] A20 kr kr (fun a22 A22 => ?_)
 refine zE ?_
 refine zA (C21 _ _ ?_)
 refine zS ((orL [a.chk, b.chk]) != 0) A22 kr kr (fun hc23 => ?_) (fun hc23 => ?_)
 ·
  have A24 := A22.set 17 (v' := .bool true) kr rfl (zG hc23)
  have ht25 : (orL [a.chk, b.chk]) ≠ 0 := by simpa using hc23
  refine zD (fun K26 C26 => ?_)
  refine zC ?_
  refine zB 3 [(5, .int .i64 (orL [a.chk, b.chk])), (4, .int .i64 0), (18, .int .i64 (orL [a.chk, b.chk]))] A24 kr kr (fun a27 A27 => ?_)
  refine zE ?_
  refine zA (C26 _ _ ?_)
  refine zQ ?_
  refine zL ?_
  refine zR (v := .tuple #[.int .i64 0, .int .i64 (orL [a.chk, b.chk])]) (rs := [.tmp 4, .tmp 5]) A27 kr (Res.tmp kr (Res.tmp kr Res.nil)) kr ?_
  exact ⟨j18.upd, _, rfl, by rw [cmpR, cmpE, ← orL2, if_neg ht25]⟩
 have A28 := A22.set 17 (v' := .bool false) kr rfl (zG hc23)
 have ht29 : (orL [a.chk, b.chk]) = 0 := by simpa using hc23
 obtain ⟨hca, hcb⟩ := or2_zero ((orL2 _ _).symm.trans (by simpa using ht29))
 obtain ⟨hla, hma, cna, cda, _, _, _⟩ := Raw.chk_ok hca
 have bna : val a.ln < K128 := (canon_le_iff h₁.hlt cna 128).1 hla
 have bda : a.d < K128 := by unfold Raw.d; split; exact Nat.one_lt_pow (by omega) (by omega); exact (canon_le_iff k₁.hlt cda 128).1 hma
 have pda := Raw.d_pos a
 have hNna := h₁.natR cna
 have hNda := k₁.natR cda
 obtain ⟨hlb, hmb, cnb, cdb, _, _, _⟩ := Raw.chk_ok hcb
 have bnb : val b.ln < K128 := (canon_le_iff h₂.hlt cnb 128).1 hlb
 have bdb : b.d < K128 := by unfold Raw.d; split; exact Nat.one_lt_pow (by omega) (by omega); exact (canon_le_iff k₂.hlt cdb 128).1 hmb
 have pdb := Raw.d_pos b
 have hNnb := h₂.natR cnb
 have hNdb := k₂.natR cdb
 refine i_skip ?_
 refine zA (C7 _ _ ?_)
 refine zD (fun K30 C30 => ?_)
 have hJ9002 : ∀ a9002 w9002, (∃ (Y9002 : Hid) (b54 : Nat) (b68 : Nat) (ad40 : Option Addr) (len40 : Nat) (cap40 : Nat) (ae40 : Option Addr) (le40 : Nat) (ce40 : Nat) (ad34 : Option Addr) (len34 : Nat) (cap34 : Nat) (ae34 : Option Addr) (le34 : Nat) (ce34 : Nat), Fr 39 a9002 [(7, .pointer (some ⟨b54, 0, none⟩)), (8, .pointer (some ⟨b68, 0, none⟩))] ∧ St E0 w X w9002 Y9002 [(b68, .cells #[.slice ad40 len40 cap40, .slice ae40 le40 ce40, .bool b.neg] 91 (0, 0)), (b54, .cells #[.slice ad34 len34 cap34, .slice ae34 le34 ce34, .bool a.neg] 91 (0, 0)), (b16, .cells #[.int .i64 a.chk, .int .i64 b.chk] 34 (0, 0)), (b4, .cells #[.bool b.neg, .slice ad₂ len₂ cap₂, .slice ae₂ le₂ ce₂] 25 (0, 0)), (b2, .cells #[.bool a.neg, .slice ad₁ len₁ cap₁, .slice ae₁ le₁ ce₁] 25 (0, 0))] ∧ Le (rd w18 Y16) (rd w9002 Y9002) ∧ (NatR (rd w9002 Y9002) ad34 len34 cap34 (val a.ln)) ∧ (NatR (rd w9002 Y9002) ae34 le34 ce34 a.d) ∧ (NatR (rd w9002 Y9002) ad40 len40 cap40 (val b.ln)) ∧ (NatR (rd w9002 Y9002) ae40 le40 ce40 b.d)) → K30 a9002 w9002 := by
  rintro a9002 w9002 ⟨Y9002, b54, b68, ad40, len40, cap40, ae40, le40, ce40, ad34, len34, cap34, ae34, le34, ce34, A9002, j9002, q9002, hN34, hD34, hN40, hD40⟩
  refine C30 _ _ ?_
  refine zD (fun K9002 C9002 => ?_)
  refine zC ?_
  refine zB 1 [(23, .pointer (some ⟨b68, 2, none⟩))] A9002 kr kr (fun a9003 A9003 => ?_)
  refine wplI A9003 kr (zJ (d := 24) (v := .bool b.neg) A9003 kr (zF (t := 4) (g := false) (vs := [.bool b.neg]) (ad := ⟨b68, 2, none⟩) rfl kr kr ir (j9002.cells 0 rfl rfl)) ?_)
  intro a9004 A9004
  refine zB 2 [(26, .pointer (some ⟨b68, 2, none⟩)), (25, .bool (!b.neg))] A9004 kr kr (fun a9005 A9005 => ?_)
  refine wplI A9005 kr (zO (t := 4) (b := b68) (off := 2) (c' := #[.slice ad40 len40 cap40, .slice ae40 le40 ce40, .bool (!b.neg)]) (g := false) (m := 1) 0 _ A9005 kr j9002 rfl kr rfl kr kr kr rfl (by first | decide | (simp; done)) kr rfl ?_)
  intro w9006 j9006 q9006
  refine zE ?_
  refine zA (C9002 _ _ ?_)
  refine zD (fun K9007 C9007 => ?_)
  refine zD (fun K9008 C9008 => ?_)
  refine zC ?_
  refine wplI A9005 kr (zJ (d := 27) (v := .agg #[.slice ad34 len34 cap34, .slice ae34 le34 ce34, .bool a.neg]) A9005 kr (zF (t := 91) (g := true) (vs := [.slice ad34 len34 cap34, .slice ae34 le34 ce34, .bool a.neg]) (ad := ⟨b54, 0, none⟩) rfl kr kr ir (j9006.cells 1 rfl rfl)) ?_)
  intro a9009 A9009
  refine wplI A9009 kr (zJ (d := 28) (v := .agg #[.slice ad40 len40 cap40, .slice ae40 le40 ce40, .bool (!b.neg)]) A9009 kr (zF (t := 91) (g := true) (vs := [.slice ad40 len40 cap40, .slice ae40 le40 ce40, .bool (!b.neg)]) (ad := ⟨b68, 0, none⟩) rfl kr kr ir (j9006.cells 0 rfl rfl)) ?_)
  intro a9010 A9010
  refine wplI A9010 kr (zK (d := 29) (f := 37) (cap := #[]) (vs := #[.agg #[.slice ad34 len34 cap34, .slice ae34 le34 ce34, .bool a.neg], .agg #[.slice ad40 len40 cap40, .slice ae40 le40 ce40, .bool (!b.neg)]]) A9010 kr j9006 rfl kr kr (fun w => Try.call37 _ w) (sum_c _ _ j9006.lt _ _ _ (val a.ln) (hN34.mono q9006) _ _ _ a.d (hD34.mono q9006) a.neg (by assumption) (by assumption) _ _ _ (val b.ln) (hN40.mono q9006) _ _ _ b.d (hD40.mono q9006) (!b.neg) (by assumption) (by assumption)) ?_)
  rintro v9011 w9011 j9011 q9011 hu9011 ⟨sg9011, m9011, ⟨ad9011, len9011, cap9011, ae9011, le9011, ce9011, rfl, hN9011, hD9011⟩, hm9011, he9011⟩ a9012 A9012
  refine wplI A9012 kr (zN (d := 9) (fun b => .pointer (some ⟨b, 0, none⟩)) (.cells #[.slice none 0 0, .slice none 0 0, .bool false] 91 (0, 0)) A9012 kr j9011 kw ?_)
  intro b9013 w9013 Y9013 j9013 q9013 hu9013 a9014 A9014
  refine wplI A9014 kr (zO (t := 91) (b := b9013) (off := 0) (c' := #[.slice ad9011 len9011 cap9011, .slice ae9011 le9011 ce9011, .bool sg9011]) (g := true) (m := 3) 0 _ A9014 kr j9013 rfl kr rfl kr kr kr rfl (by first | decide | (simp; done)) kr rfl ?_)
  intro w9015 j9015 q9015
  refine zE ?_
  refine zA (C9008 _ _ ?_)
  refine zV ?_
  refine zD (fun K9016 C9016 => ?_)
  refine zC ?_
  refine zB 2 [(32, .pointer (some ⟨b9013, 0, none⟩)), (31, .pointer (some ⟨b9013, 0, none⟩))] A9014 kr kr (fun a9017 A9017 => ?_)
  refine wplI A9017 kr (zJ (d := 33) (v := .slice ad9011 len9011 cap9011) A9017 kr (zF (t := 23) (g := false) (vs := [.slice ad9011 len9011 cap9011]) (ad := ⟨b9013, 0, none⟩) rfl kr kr ir (j9015.cells 0 rfl rfl)) ?_)
  intro a9018 A9018
  refine zB 3 [(30, .bool ((len9011 : Int) == 0)), (35, .bool ((len9011 : Int) == 0)), (34, .int .i64 (len9011 : Int))] A9018 kr kr (fun a9019 A9019 => ?_)
  refine zE ?_
  refine zA (C9016 _ _ ?_)
  refine zS ((len9011 : Int) == 0) A9019 kr kr (fun hc9020 => ?_) (fun hc9020 => ?_)
  ·
   have A9021 := A9019.set 30 (v' := .bool true) kr rfl (zG hc9020)
   have ht9022 : (len9011 : Int) = 0 := by simpa using hc9020
   have hdf : _ = a.rat - b.rat := diff_mk (he9011.trans (by rw [sgn_not])) pda pdb
   have hm0 := hN9011.len0.1 (by omega)
   refine zD (fun K9023 C9023 => ?_)
   refine zC ?_
   refine zB 2 [(5, .int .i64 0), (4, .int .i64 0)] A9021 kr kr (fun a9024 A9024 => ?_)
   refine zE ?_
   refine zA (C9023 _ _ ?_)
   refine zQ ?_
   refine zU ?_
   refine zL ?_
   refine zR (v := .tuple #[.int .i64 0, .int .i64 0]) (rs := [.tmp 4, .tmp 5]) A9024 kr (Res.tmp kr (Res.tmp kr Res.nil)) kr ?_
   exact ⟨j9015.upd, _, rfl, by have h0 := ht29; rw [cmpR, cmpE, ← orL2, if_pos (by simpa using h0), show orL [a.chk, b.chk] = 0 by simpa using h0, cmp_zero hdf hm0]⟩
  have A9025 := A9019.set 30 (v' := .bool false) kr rfl (zG hc9020)
  have ht9026 : (len9011 : Int) ≠ 0 := by simpa using hc9020
  have hdf : _ = a.rat - b.rat := diff_mk (he9011.trans (by rw [sgn_not])) pda pdb
  have hm0 : m9011 ≠ 0 := fun e => absurd (hN9011.len0.2 e) (by omega)
  refine zD (fun K9027 C9027 => ?_)
  refine zC ?_
  refine zB 1 [(37, .pointer (some ⟨b9013, 2, none⟩))] A9025 kr kr (fun a9028 A9028 => ?_)
  refine wplI A9028 kr (zJ (d := 38) (v := .bool sg9011) A9028 kr (zF (t := 4) (g := false) (vs := [.bool sg9011]) (ad := ⟨b9013, 2, none⟩) rfl kr kr ir (j9015.cells 0 rfl rfl)) ?_)
  intro a9029 A9029
  refine zB 1 [(36, .bool sg9011)] A9029 kr kr (fun a9030 A9030 => ?_)
  refine zE ?_
  refine zA (C9027 _ _ ?_)
  refine zS sg9011 A9030 kr kr (fun hc9031 => ?_) (fun hc9031 => ?_)
  ·
   have A9032 := A9030.set 36 (v' := .bool true) kr rfl (zG hc9031)
   have ht9033 : sg9011 = true := by simpa using hc9031
   rw [ht9033] at hdf
   refine zD (fun K9034 C9034 => ?_)
   refine zC ?_
   refine zB 2 [(5, .int .i64 0), (4, .int .i64 (-1))] A9032 kr kr (fun a9035 A9035 => ?_)
   refine zE ?_
   refine zA (C9034 _ _ ?_)
   refine zQ ?_
   refine zU ?_
   refine zL ?_
   refine zR (v := .tuple #[.int .i64 (-1), .int .i64 0]) (rs := [.tmp 4, .tmp 5]) A9035 kr (Res.tmp kr (Res.tmp kr Res.nil)) kr ?_
   exact ⟨j9015.upd, _, rfl, by have h0 := ht29; rw [cmpR, cmpE, ← orL2, if_pos (by simpa using h0), show orL [a.chk, b.chk] = 0 by simpa using h0, cmp_neg hdf hm0 (den_ne pda pdb)]⟩
  have A9036 := A9030.set 36 (v' := .bool false) kr rfl (zG hc9031)
  have ht9037 : sg9011 = false := by simpa using hc9031
  rw [ht9037] at hdf
  refine i_skip ?_
  refine zW ?_
  refine zA (C9007 _ _ ?_)
  refine zD (fun K9038 C9038 => ?_)
  refine zC ?_
  refine zB 2 [(5, .int .i64 0), (4, .int .i64 1)] A9036 kr kr (fun a9039 A9039 => ?_)
  refine zE ?_
  refine zA (C9038 _ _ ?_)
  refine zQ ?_
  refine zR (v := .tuple #[.int .i64 1, .int .i64 0]) (rs := [.tmp 4, .tmp 5]) A9039 kr (Res.tmp kr (Res.tmp kr Res.nil)) kr ?_
  exact ⟨j9015.upd, _, rfl, by have h0 := ht29; rw [cmpR, cmpE, ← orL2, if_pos (by simpa using h0), show orL [a.chk, b.chk] = 0 by simpa using h0, cmp_pos hdf hm0 (den_ne pda pdb)]⟩
 refine qD (N := 8) (Held [(⟨b2, 0, none⟩, [.bool a.neg, .slice ad₁ len₁ cap₁, .slice ae₁ le₁ ce₁]), (⟨b4, 0, none⟩, [.bool b.neg, .slice ad₂ len₂ cap₂, .slice ae₂ le₂ ce₂])]) [7] kr kr kr j18 ?_
 intro w31 j31 q31 hu31
 refine zX (Held.cons (j31.cells 2 rfl rfl) (Held.cons (j31.cells 1 rfl rfl) (Held.nil _))) (fun hH31 => ?_)
 refine t_name (fun G hG1 hG2 => ?_)
 have hI9003 : ∀ a9003 w9003, (∃ (Y9003 : Hid) (b54 : Nat) (b68 : Nat) (ad34 : Option Addr) (len34 : Nat) (cap34 : Nat) (ae34 : Option Addr) (le34 : Nat) (ce34 : Nat) (ad40 : Option Addr) (len40 : Nat) (cap40 : Nat) (ae40 : Option Addr) (le40 : Nat) (ce40 : Nat), Fr 39 a9003 [(7, .pointer (some ⟨b54, 0, none⟩)), (8, .pointer (some ⟨b68, 0, none⟩)), (20, .agg #[.slice ad34 len34 cap34, .slice ae34 le34 ce34, .bool a.neg]), (22, .agg #[.slice ad40 len40 cap40, .slice ae40 le40 ce40, .bool b.neg])] ∧ St E0 w X w9003 Y9003 [(b68, .cells #[.slice none 0 0, .slice none 0 0, .bool false] 91 (0, 0)), (b54, .cells #[.slice none 0 0, .slice none 0 0, .bool false] 91 (0, 0)), (b16, .cells #[.int .i64 a.chk, .int .i64 b.chk] 34 (0, 0)), (b4, .cells #[.bool b.neg, .slice ad₂ len₂ cap₂, .slice ae₂ le₂ ce₂] 25 (0, 0)), (b2, .cells #[.bool a.neg, .slice ad₁ len₁ cap₁, .slice ae₁ le₁ ce₁] 25 (0, 0))] ∧ Le (rd w31 Y16) (rd w9003 Y9003) ∧ (NatR (rd w9003 Y9003) ad34 len34 cap34 (val a.ln)) ∧ (NatR (rd w9003 Y9003) ae34 le34 ce34 a.d) ∧ (NatR (rd w9003 Y9003) ad40 len40 cap40 (val b.ln)) ∧ (NatR (rd w9003 Y9003) ae40 le40 ce40 b.d)) → G 2 #[true, true, true, true, true, true, false, false] a9003 w9003 := by
  rintro a9003 w9003 ⟨Y9003, b54, b68, ad34, len34, cap34, ae34, le34, ce34, ad40, len40, cap40, ae40, le40, ce40, A9003, j9003, q9003, hN34, hD34, hN40, hD40⟩
  refine hG1 _ _ _ _ ?_
  refine zX (Held.cons (j9003.cells 4 rfl rfl) (Held.cons (j9003.cells 3 rfl rfl) (Held.nil _))) (fun hH9003 => ?_)
  refine zM [6] kr rfl ?_
  refine ForkT.cons (i := 6) A9003 rfl kr (zO (t := 91) (b := b54) (off := 0) (c' := #[.slice ad34 len34 cap34, .slice ae34 le34 ce34, .bool a.neg]) (g := true) (m := 3) 1 _ A9003 kr j9003 rfl kr rfl kr kr kr rfl (by first | decide | (simp; done)) kr rfl ?_) ForkT.nil
  intro w76 j76 q76
  refine zI (Held.cons (j76.cells 4 rfl rfl) (Held.cons (j76.cells 3 rfl rfl) (Held.nil _))) (fun hH76 => ?_)
  refine zM [7] kr rfl ?_
  refine ForkT.cons (i := 7) A9003 rfl kr (zO (t := 91) (b := b68) (off := 0) (c' := #[.slice ad40 len40 cap40, .slice ae40 le40 ce40, .bool b.neg]) (g := true) (m := 3) 0 _ A9003 kr j76 rfl kr rfl kr kr kr rfl (by first | decide | (simp; done)) kr rfl ?_) ForkT.nil
  intro w77 j77 q77
  refine ⟨begun_tt kr, ?_⟩
  refine qB kr (nrm ?_)
  exact zA (hJ9002 _ _ ⟨_, b54, b68, ad40, len40, cap40, ae40, le40, ce40, ad34, len34, cap34, ae34, le34, ce34, A9003.as [7, 8] kr kr, j77, (Le4 q31 q9003 q76 q77), (hN34.mono (Le2 q76 q77)), (hD34.mono (Le2 q76 q77)), (hN40.mono (Le2 q76 q77)), (hD40.mono (Le2 q76 q77))⟩)
 have hI9004 : ∀ a9004 w9004, (∃ (Y9004 : Hid) (b54 : Nat) (ad34 : Option Addr) (len34 : Nat) (cap34 : Nat) (ae34 : Option Addr) (le34 : Nat) (ce34 : Nat) (ad40 : Option Addr) (len40 : Nat) (cap40 : Nat) (ae40 : Option Addr) (le40 : Nat) (ce40 : Nat), Fr 39 a9004 [(7, .pointer (some ⟨b54, 0, none⟩)), (20, .agg #[.slice ad34 len34 cap34, .slice ae34 le34 ce34, .bool a.neg]), (22, .agg #[.slice ad40 len40 cap40, .slice ae40 le40 ce40, .bool b.neg])] ∧ St E0 w X w9004 Y9004 [(b54, .cells #[.slice none 0 0, .slice none 0 0, .bool false] 91 (0, 0)), (b16, .cells #[.int .i64 a.chk, .int .i64 b.chk] 34 (0, 0)), (b4, .cells #[.bool b.neg, .slice ad₂ len₂ cap₂, .slice ae₂ le₂ ce₂] 25 (0, 0)), (b2, .cells #[.bool a.neg, .slice ad₁ len₁ cap₁, .slice ae₁ le₁ ce₁] 25 (0, 0))] ∧ Le (rd w31 Y16) (rd w9004 Y9004) ∧ (NatR (rd w9004 Y9004) ad34 len34 cap34 (val a.ln)) ∧ (NatR (rd w9004 Y9004) ae34 le34 ce34 a.d) ∧ (NatR (rd w9004 Y9004) ad40 len40 cap40 (val b.ln)) ∧ (NatR (rd w9004 Y9004) ae40 le40 ce40 b.d)) → G 3 #[true, true, true, true, true, false, false, false] a9004 w9004 := by
  rintro a9004 w9004 ⟨Y9004, b54, ad34, len34, cap34, ae34, le34, ce34, ad40, len40, cap40, ae40, le40, ce40, A9004, j9004, q9004, hN34, hD34, hN40, hD40⟩
  refine hG1 _ _ _ _ ?_
  refine zX (Held.cons (j9004.cells 3 rfl rfl) (Held.cons (j9004.cells 2 rfl rfl) (Held.nil _))) (fun hH9004 => ?_)
  refine zM [5] kr rfl ?_
  refine ForkT.cons (i := 5) A9004 rfl kr (zN (d := 8) (fun b => .pointer (some ⟨b, 0, none⟩)) (.cells #[.slice none 0 0, .slice none 0 0, .bool false] 91 (0, 0)) A9004 kr j9004 kw ?_) ForkT.nil
  intro b78 w78 Y78 j78 q78 hu78 a79 A79
  refine zI (hH9004.up hu78) (fun hH78 => ?_)
  refine hG2 _ _ _ _ (G_cast kr (hI9003 _ _ ⟨_, b54, b78, ad34, len34, cap34, ae34, le34, ce34, ad40, len40, cap40, ae40, le40, ce40, A79.as [7, 8, 20, 22] kr kr, j78, (Le2 q9004 q78), (hN34.mono q78), (hD34.mono q78), (hN40.mono q78), (hD40.mono q78)⟩))
 have hI9005 : ∀ a9005 w9005, (∃ (Y9005 : Hid) (b56 : Nat) (ad34 : Option Addr) (len34 : Nat) (cap34 : Nat) (ae34 : Option Addr) (le34 : Nat) (ce34 : Nat) (ad40 : Option Addr) (len40 : Nat) (cap40 : Nat) (ae40 : Option Addr) (le40 : Nat) (ce40 : Nat), Fr 39 a9005 [(8, .pointer (some ⟨b56, 0, none⟩)), (20, .agg #[.slice ad34 len34 cap34, .slice ae34 le34 ce34, .bool a.neg]), (22, .agg #[.slice ad40 len40 cap40, .slice ae40 le40 ce40, .bool b.neg])] ∧ St E0 w X w9005 Y9005 [(b56, .cells #[.slice none 0 0, .slice none 0 0, .bool false] 91 (0, 0)), (b16, .cells #[.int .i64 a.chk, .int .i64 b.chk] 34 (0, 0)), (b4, .cells #[.bool b.neg, .slice ad₂ len₂ cap₂, .slice ae₂ le₂ ce₂] 25 (0, 0)), (b2, .cells #[.bool a.neg, .slice ad₁ len₁ cap₁, .slice ae₁ le₁ ce₁] 25 (0, 0))] ∧ Le (rd w31 Y16) (rd w9005 Y9005) ∧ (NatR (rd w9005 Y9005) ad34 len34 cap34 (val a.ln)) ∧ (NatR (rd w9005 Y9005) ae34 le34 ce34 a.d) ∧ (NatR (rd w9005 Y9005) ad40 len40 cap40 (val b.ln)) ∧ (NatR (rd w9005 Y9005) ae40 le40 ce40 b.d)) → G 3 #[true, true, true, true, false, true, false, false] a9005 w9005 := by
  rintro a9005 w9005 ⟨Y9005, b56, ad34, len34, cap34, ae34, le34, ce34, ad40, len40, cap40, ae40, le40, ce40, A9005, j9005, q9005, hN34, hD34, hN40, hD40⟩
  refine hG1 _ _ _ _ ?_
  refine zX (Held.cons (j9005.cells 3 rfl rfl) (Held.cons (j9005.cells 2 rfl rfl) (Held.nil _))) (fun hH9005 => ?_)
  refine zM [4] kr rfl ?_
  refine ForkT.cons (i := 4) A9005 rfl kr (zN (d := 7) (fun b => .pointer (some ⟨b, 0, none⟩)) (.cells #[.slice none 0 0, .slice none 0 0, .bool false] 91 (0, 0)) A9005 kr j9005 kw ?_) ForkT.nil
  intro b80 w80 Y80 j80 q80 hu80 a81 A81
  refine zI (hH9005.up hu80) (fun hH80 => ?_)
  refine hG2 _ _ _ _ (G_cast kr (hI9003 _ _ ⟨_, b80, b56, ad34, len34, cap34, ae34, le34, ce34, ad40, len40, cap40, ae40, le40, ce40, A81.as [7, 8, 20, 22] kr kr, (St.swapAt [] j80), (Le2 q9005 q80), (hN34.mono q80), (hD34.mono q80), (hN40.mono q80), (hD40.mono q80)⟩))
 have hI9006 : ∀ a9006 w9006, (∃ (Y9006 : Hid) (b42 : Nat) (b60 : Nat) (ad34 : Option Addr) (len34 : Nat) (cap34 : Nat) (ae34 : Option Addr) (le34 : Nat) (ce34 : Nat), Fr 39 a9006 [(7, .pointer (some ⟨b42, 0, none⟩)), (8, .pointer (some ⟨b60, 0, none⟩)), (20, .agg #[.slice ad34 len34 cap34, .slice ae34 le34 ce34, .bool a.neg]), (21, .agg #[.bool b.neg, .slice ad₂ len₂ cap₂, .slice ae₂ le₂ ce₂])] ∧ St E0 w X w9006 Y9006 [(b60, .cells #[.slice none 0 0, .slice none 0 0, .bool false] 91 (0, 0)), (b42, .cells #[.slice none 0 0, .slice none 0 0, .bool false] 91 (0, 0)), (b16, .cells #[.int .i64 a.chk, .int .i64 b.chk] 34 (0, 0)), (b4, .cells #[.bool b.neg, .slice ad₂ len₂ cap₂, .slice ae₂ le₂ ce₂] 25 (0, 0)), (b2, .cells #[.bool a.neg, .slice ad₁ len₁ cap₁, .slice ae₁ le₁ ce₁] 25 (0, 0))] ∧ Le (rd w31 Y16) (rd w9006 Y9006) ∧ (NatR (rd w9006 Y9006) ad34 len34 cap34 (val a.ln)) ∧ (NatR (rd w9006 Y9006) ae34 le34 ce34 a.d)) → G 3 #[true, true, true, false, true, true, false, false] a9006 w9006 := by
  rintro a9006 w9006 ⟨Y9006, b42, b60, ad34, len34, cap34, ae34, le34, ce34, A9006, j9006, q9006, hN34, hD34⟩
  refine hG1 _ _ _ _ ?_
  refine zX (Held.cons (j9006.cells 4 rfl rfl) (Held.cons (j9006.cells 3 rfl rfl) (Held.nil _))) (fun hH9006 => ?_)
  refine zM [3] kr rfl ?_
  refine ForkT.cons (i := 3) A9006 rfl kr (zK (d := 22) (f := 51) (cap := #[]) (vs := #[.agg #[.bool b.neg, .slice ad₂ len₂ cap₂, .slice ae₂ le₂ ce₂]]) A9006 kr j9006 rfl kr kr (fun w => Try.call51 _ w) (of_c _ _ j9006.lt b.neg _ _ _ (val b.ln) (hNnb.mono (Le9 q2 q4 q9 q12 q14 q16 q18 q31 q9006)) _ _ _ (val b.ld) (hNdb.mono (Le9 q2 q4 q9 q12 q14 q16 q18 q31 q9006))) ?_) ForkT.nil
  rintro v82 w82 j82 q82 hu82 ⟨ad82, len82, cap82, ae82, le82, ce82, rfl, hN82, hD82⟩ a83 A83
  refine zI (hH9006.up hu82) (fun hH82 => ?_)
  refine hG2 _ _ _ _ (G_cast kr (hI9003 _ _ ⟨_, b42, b60, ad34, len34, cap34, ae34, le34, ce34, ad82, len82, cap82, ae82, le82, ce82, A83.as [7, 8, 20, 22] kr kr, j82, (Le2 q9006 q82), (hN34.mono q82), (hD34.mono q82), hN82, hD82⟩))
 have hI9007 : ∀ a9007 w9007, (∃ (Y9007 : Hid) (b42 : Nat) (ad34 : Option Addr) (len34 : Nat) (cap34 : Nat) (ae34 : Option Addr) (le34 : Nat) (ce34 : Nat), Fr 39 a9007 [(7, .pointer (some ⟨b42, 0, none⟩)), (20, .agg #[.slice ad34 len34 cap34, .slice ae34 le34 ce34, .bool a.neg]), (21, .agg #[.bool b.neg, .slice ad₂ len₂ cap₂, .slice ae₂ le₂ ce₂])] ∧ St E0 w X w9007 Y9007 [(b42, .cells #[.slice none 0 0, .slice none 0 0, .bool false] 91 (0, 0)), (b16, .cells #[.int .i64 a.chk, .int .i64 b.chk] 34 (0, 0)), (b4, .cells #[.bool b.neg, .slice ad₂ len₂ cap₂, .slice ae₂ le₂ ce₂] 25 (0, 0)), (b2, .cells #[.bool a.neg, .slice ad₁ len₁ cap₁, .slice ae₁ le₁ ce₁] 25 (0, 0))] ∧ Le (rd w31 Y16) (rd w9007 Y9007) ∧ (NatR (rd w9007 Y9007) ad34 len34 cap34 (val a.ln)) ∧ (NatR (rd w9007 Y9007) ae34 le34 ce34 a.d)) → G 4 #[true, true, true, false, true, false, false, false] a9007 w9007 := by
  rintro a9007 w9007 ⟨Y9007, b42, ad34, len34, cap34, ae34, le34, ce34, A9007, j9007, q9007, hN34, hD34⟩
  refine hG1 _ _ _ _ ?_
  refine zX (Held.cons (j9007.cells 3 rfl rfl) (Held.cons (j9007.cells 2 rfl rfl) (Held.nil _))) (fun hH9007 => ?_)
  refine zM [3, 5] kr rfl ?_
  refine ForkT.cons (i := 3) A9007 rfl kr ?_ ?_
  ·
   refine zK (d := 22) (f := 51) (cap := #[]) (vs := #[.agg #[.bool b.neg, .slice ad₂ len₂ cap₂, .slice ae₂ le₂ ce₂]]) A9007 kr j9007 rfl kr kr (fun w => Try.call51 _ w) (of_c _ _ j9007.lt b.neg _ _ _ (val b.ln) (hNnb.mono (Le9 q2 q4 q9 q12 q14 q16 q18 q31 q9007)) _ _ _ (val b.ld) (hNdb.mono (Le9 q2 q4 q9 q12 q14 q16 q18 q31 q9007))) ?_
   rintro v84 w84 j84 q84 hu84 ⟨ad84, len84, cap84, ae84, le84, ce84, rfl, hN84, hD84⟩ a85 A85
   refine zI (hH9007.up hu84) (fun hH84 => ?_)
   refine hG2 _ _ _ _ (G_cast kr (hI9004 _ _ ⟨_, b42, ad34, len34, cap34, ae34, le34, ce34, ad84, len84, cap84, ae84, le84, ce84, A85.as [7, 20, 22] kr kr, j84, (Le2 q9007 q84), (hN34.mono q84), (hD34.mono q84), hN84, hD84⟩))
  refine ForkT.cons (i := 5) A9007 rfl kr (zN (d := 8) (fun b => .pointer (some ⟨b, 0, none⟩)) (.cells #[.slice none 0 0, .slice none 0 0, .bool false] 91 (0, 0)) A9007 kr j9007 kw ?_) ForkT.nil
  intro b86 w86 Y86 j86 q86 hu86 a87 A87
  refine zI (hH9007.up hu86) (fun hH86 => ?_)
  refine hG2 _ _ _ _ (G_cast kr (hI9006 _ _ ⟨_, b42, b86, ad34, len34, cap34, ae34, le34, ce34, A87.as [7, 8, 20, 21] kr kr, j86, (Le2 q9007 q86), (hN34.mono q86), (hD34.mono q86)⟩))
 have hI9008 : ∀ a9008 w9008, (∃ (Y9008 : Hid) (b44 : Nat) (ad34 : Option Addr) (len34 : Nat) (cap34 : Nat) (ae34 : Option Addr) (le34 : Nat) (ce34 : Nat), Fr 39 a9008 [(8, .pointer (some ⟨b44, 0, none⟩)), (20, .agg #[.slice ad34 len34 cap34, .slice ae34 le34 ce34, .bool a.neg]), (21, .agg #[.bool b.neg, .slice ad₂ len₂ cap₂, .slice ae₂ le₂ ce₂])] ∧ St E0 w X w9008 Y9008 [(b44, .cells #[.slice none 0 0, .slice none 0 0, .bool false] 91 (0, 0)), (b16, .cells #[.int .i64 a.chk, .int .i64 b.chk] 34 (0, 0)), (b4, .cells #[.bool b.neg, .slice ad₂ len₂ cap₂, .slice ae₂ le₂ ce₂] 25 (0, 0)), (b2, .cells #[.bool a.neg, .slice ad₁ len₁ cap₁, .slice ae₁ le₁ ce₁] 25 (0, 0))] ∧ Le (rd w31 Y16) (rd w9008 Y9008) ∧ (NatR (rd w9008 Y9008) ad34 len34 cap34 (val a.ln)) ∧ (NatR (rd w9008 Y9008) ae34 le34 ce34 a.d)) → G 4 #[true, true, true, false, false, true, false, false] a9008 w9008 := by
  rintro a9008 w9008 ⟨Y9008, b44, ad34, len34, cap34, ae34, le34, ce34, A9008, j9008, q9008, hN34, hD34⟩
  refine hG1 _ _ _ _ ?_
  refine zX (Held.cons (j9008.cells 3 rfl rfl) (Held.cons (j9008.cells 2 rfl rfl) (Held.nil _))) (fun hH9008 => ?_)
  refine zM [3, 4] kr rfl ?_
  refine ForkT.cons (i := 3) A9008 rfl kr ?_ ?_
  ·
   refine zK (d := 22) (f := 51) (cap := #[]) (vs := #[.agg #[.bool b.neg, .slice ad₂ len₂ cap₂, .slice ae₂ le₂ ce₂]]) A9008 kr j9008 rfl kr kr (fun w => Try.call51 _ w) (of_c _ _ j9008.lt b.neg _ _ _ (val b.ln) (hNnb.mono (Le9 q2 q4 q9 q12 q14 q16 q18 q31 q9008)) _ _ _ (val b.ld) (hNdb.mono (Le9 q2 q4 q9 q12 q14 q16 q18 q31 q9008))) ?_
   rintro v88 w88 j88 q88 hu88 ⟨ad88, len88, cap88, ae88, le88, ce88, rfl, hN88, hD88⟩ a89 A89
   refine zI (hH9008.up hu88) (fun hH88 => ?_)
   refine hG2 _ _ _ _ (G_cast kr (hI9005 _ _ ⟨_, b44, ad34, len34, cap34, ae34, le34, ce34, ad88, len88, cap88, ae88, le88, ce88, A89.as [8, 20, 22] kr kr, j88, (Le2 q9008 q88), (hN34.mono q88), (hD34.mono q88), hN88, hD88⟩))
  refine ForkT.cons (i := 4) A9008 rfl kr (zN (d := 7) (fun b => .pointer (some ⟨b, 0, none⟩)) (.cells #[.slice none 0 0, .slice none 0 0, .bool false] 91 (0, 0)) A9008 kr j9008 kw ?_) ForkT.nil
  intro b90 w90 Y90 j90 q90 hu90 a91 A91
  refine zI (hH9008.up hu90) (fun hH90 => ?_)
  refine hG2 _ _ _ _ (G_cast kr (hI9006 _ _ ⟨_, b90, b44, ad34, len34, cap34, ae34, le34, ce34, A91.as [7, 8, 20, 21] kr kr, (St.swapAt [] j90), (Le2 q9008 q90), (hN34.mono q90), (hD34.mono q90)⟩))
 have hI9009 : ∀ a9009 w9009, (∃ (Y9009 : Hid) (b36 : Nat) (b48 : Nat), Fr 39 a9009 [(7, .pointer (some ⟨b36, 0, none⟩)), (8, .pointer (some ⟨b48, 0, none⟩)), (19, .agg #[.bool a.neg, .slice ad₁ len₁ cap₁, .slice ae₁ le₁ ce₁]), (21, .agg #[.bool b.neg, .slice ad₂ len₂ cap₂, .slice ae₂ le₂ ce₂])] ∧ St E0 w X w9009 Y9009 [(b48, .cells #[.slice none 0 0, .slice none 0 0, .bool false] 91 (0, 0)), (b36, .cells #[.slice none 0 0, .slice none 0 0, .bool false] 91 (0, 0)), (b16, .cells #[.int .i64 a.chk, .int .i64 b.chk] 34 (0, 0)), (b4, .cells #[.bool b.neg, .slice ad₂ len₂ cap₂, .slice ae₂ le₂ ce₂] 25 (0, 0)), (b2, .cells #[.bool a.neg, .slice ad₁ len₁ cap₁, .slice ae₁ le₁ ce₁] 25 (0, 0))] ∧ Le (rd w31 Y16) (rd w9009 Y9009)) → G 4 #[true, false, true, false, true, true, false, false] a9009 w9009 := by
  rintro a9009 w9009 ⟨Y9009, b36, b48, A9009, j9009, q9009⟩
  refine hG1 _ _ _ _ ?_
  refine zX (Held.cons (j9009.cells 4 rfl rfl) (Held.cons (j9009.cells 3 rfl rfl) (Held.nil _))) (fun hH9009 => ?_)
  refine zM [1] kr rfl ?_
  refine ForkT.cons (i := 1) A9009 rfl kr (zK (d := 20) (f := 51) (cap := #[]) (vs := #[.agg #[.bool a.neg, .slice ad₁ len₁ cap₁, .slice ae₁ le₁ ce₁]]) A9009 kr j9009 rfl kr kr (fun w => Try.call51 _ w) (of_c _ _ j9009.lt a.neg _ _ _ (val a.ln) (hNna.mono (Le9 q2 q4 q9 q12 q14 q16 q18 q31 q9009)) _ _ _ (val a.ld) (hNda.mono (Le9 q2 q4 q9 q12 q14 q16 q18 q31 q9009))) ?_) ForkT.nil
  rintro v92 w92 j92 q92 hu92 ⟨ad92, len92, cap92, ae92, le92, ce92, rfl, hN92, hD92⟩ a93 A93
  refine zI (hH9009.up hu92) (fun hH92 => ?_)
  refine hG2 _ _ _ _ (G_cast kr (hI9006 _ _ ⟨_, b36, b48, ad92, len92, cap92, ae92, le92, ce92, A93.as [7, 8, 20, 21] kr kr, j92, (Le2 q9009 q92), hN92, hD92⟩))
 refine zY (d := 19) (v := .agg #[.bool a.neg, .slice ad₁ len₁ cap₁, .slice ae₁ le₁ ce₁]) 0 A28 rfl kr kr kr (fun w hw => zF (t := 25) (g := true) (vs := [.bool a.neg, .slice ad₁ len₁ cap₁, .slice ae₁ le₁ ce₁]) (ad := ⟨b2, 0, none⟩) rfl kr kr ir (hw.get 0 kr)) hH31 ?_
 intro a94 A94
 refine zY (d := 21) (v := .agg #[.bool b.neg, .slice ad₂ len₂ cap₂, .slice ae₂ le₂ ce₂]) 2 A94 rfl kr kr kr (fun w hw => zF (t := 25) (g := true) (vs := [.bool b.neg, .slice ad₂ len₂ cap₂, .slice ae₂ le₂ ce₂]) (ad := ⟨b4, 0, none⟩) rfl kr kr ir (hw.get 1 kr)) hH31 ?_
 intro a95 A95
 refine zM [1, 4, 5] kr rfl ?_
 refine ForkT.cons (i := 1) A95 rfl kr ?_ ?_
 ·
  refine zK (d := 20) (f := 51) (cap := #[]) (vs := #[.agg #[.bool a.neg, .slice ad₁ len₁ cap₁, .slice ae₁ le₁ ce₁]]) A95 kr j31 rfl kr kr (fun w => Try.call51 _ w) (of_c _ _ j31.lt a.neg _ _ _ (val a.ln) (hNna.mono (Le8 q2 q4 q9 q12 q14 q16 q18 q31)) _ _ _ (val a.ld) (hNda.mono (Le8 q2 q4 q9 q12 q14 q16 q18 q31))) ?_
  rintro v96 w96 j96 q96 hu96 ⟨ad96, len96, cap96, ae96, le96, ce96, rfl, hN96, hD96⟩ a97 A97
  refine zI (hH31.up hu96) (fun hH96 => ?_)
  refine zM [3, 4, 5] kr rfl ?_
  refine ForkT.cons (i := 3) A97 rfl kr ?_ ?_
  ·
   refine zK (d := 22) (f := 51) (cap := #[]) (vs := #[.agg #[.bool b.neg, .slice ad₂ len₂ cap₂, .slice ae₂ le₂ ce₂]]) A97 kr j96 rfl kr kr (fun w => Try.call51 _ w) (of_c _ _ j96.lt b.neg _ _ _ (val b.ln) (hNnb.mono (Le9 q2 q4 q9 q12 q14 q16 q18 q31 q96)) _ _ _ (val b.ld) (hNdb.mono (Le9 q2 q4 q9 q12 q14 q16 q18 q31 q96))) ?_
   rintro v98 w98 j98 q98 hu98 ⟨ad98, len98, cap98, ae98, le98, ce98, rfl, hN98, hD98⟩ a99 A99
   refine zI (hH96.up hu98) (fun hH98 => ?_)
   refine zM [4, 5] kr rfl ?_
   refine ForkT.cons (i := 4) A99 rfl kr ?_ ?_
   ·
    refine zN (d := 7) (fun b => .pointer (some ⟨b, 0, none⟩)) (.cells #[.slice none 0 0, .slice none 0 0, .bool false] 91 (0, 0)) A99 kr j98 kw ?_
    intro b100 w100 Y100 j100 q100 hu100 a101 A101
    refine zI (hH98.up hu100) (fun hH100 => ?_)
    refine hG2 _ _ _ _ (G_cast kr (hI9004 _ _ ⟨_, b100, ad96, len96, cap96, ae96, le96, ce96, ad98, len98, cap98, ae98, le98, ce98, A101.as [7, 20, 22] kr kr, j100, (Le3 q96 q98 q100), (hN96.mono (Le2 q98 q100)), (hD96.mono (Le2 q98 q100)), (hN98.mono q100), (hD98.mono q100)⟩))
   refine ForkT.cons (i := 5) A99 rfl kr (zN (d := 8) (fun b => .pointer (some ⟨b, 0, none⟩)) (.cells #[.slice none 0 0, .slice none 0 0, .bool false] 91 (0, 0)) A99 kr j98 kw ?_) ForkT.nil
   intro b102 w102 Y102 j102 q102 hu102 a103 A103
   refine zI (hH98.up hu102) (fun hH102 => ?_)
   refine hG2 _ _ _ _ (G_cast kr (hI9005 _ _ ⟨_, b102, ad96, len96, cap96, ae96, le96, ce96, ad98, len98, cap98, ae98, le98, ce98, A103.as [8, 20, 22] kr kr, j102, (Le3 q96 q98 q102), (hN96.mono (Le2 q98 q102)), (hD96.mono (Le2 q98 q102)), (hN98.mono q102), (hD98.mono q102)⟩))
  refine ForkT.cons (i := 4) A97 rfl kr ?_ ?_
  ·
   refine zN (d := 7) (fun b => .pointer (some ⟨b, 0, none⟩)) (.cells #[.slice none 0 0, .slice none 0 0, .bool false] 91 (0, 0)) A97 kr j96 kw ?_
   intro b104 w104 Y104 j104 q104 hu104 a105 A105
   refine zI (hH96.up hu104) (fun hH104 => ?_)
   refine hG2 _ _ _ _ (G_cast kr (hI9007 _ _ ⟨_, b104, ad96, len96, cap96, ae96, le96, ce96, A105.as [7, 20, 21] kr kr, j104, (Le2 q96 q104), (hN96.mono q104), (hD96.mono q104)⟩))
  refine ForkT.cons (i := 5) A97 rfl kr (zN (d := 8) (fun b => .pointer (some ⟨b, 0, none⟩)) (.cells #[.slice none 0 0, .slice none 0 0, .bool false] 91 (0, 0)) A97 kr j96 kw ?_) ForkT.nil
  intro b106 w106 Y106 j106 q106 hu106 a107 A107
  refine zI (hH96.up hu106) (fun hH106 => ?_)
  refine hG2 _ _ _ _ (G_cast kr (hI9008 _ _ ⟨_, b106, ad96, len96, cap96, ae96, le96, ce96, A107.as [8, 20, 21] kr kr, j106, (Le2 q96 q106), (hN96.mono q106), (hD96.mono q106)⟩))
 refine ForkT.cons (i := 4) A95 rfl kr ?_ ?_
 ·
  refine zN (d := 7) (fun b => .pointer (some ⟨b, 0, none⟩)) (.cells #[.slice none 0 0, .slice none 0 0, .bool false] 91 (0, 0)) A95 kr j31 kw ?_
  intro b108 w108 Y108 j108 q108 hu108 a109 A109
  refine zI (hH31.up hu108) (fun hH108 => ?_)
  refine zM [1, 5] kr rfl ?_
  refine ForkT.cons (i := 1) A109 rfl kr ?_ ?_
  ·
   refine zK (d := 20) (f := 51) (cap := #[]) (vs := #[.agg #[.bool a.neg, .slice ad₁ len₁ cap₁, .slice ae₁ le₁ ce₁]]) A109 kr j108 rfl kr kr (fun w => Try.call51 _ w) (of_c _ _ j108.lt a.neg _ _ _ (val a.ln) (hNna.mono (Le9 q2 q4 q9 q12 q14 q16 q18 q31 q108)) _ _ _ (val a.ld) (hNda.mono (Le9 q2 q4 q9 q12 q14 q16 q18 q31 q108))) ?_
   rintro v110 w110 j110 q110 hu110 ⟨ad110, len110, cap110, ae110, le110, ce110, rfl, hN110, hD110⟩ a111 A111
   refine zI (hH108.up hu110) (fun hH110 => ?_)
   refine hG2 _ _ _ _ (G_cast kr (hI9007 _ _ ⟨_, b108, ad110, len110, cap110, ae110, le110, ce110, A111.as [7, 20, 21] kr kr, j110, (Le2 q108 q110), hN110, hD110⟩))
  refine ForkT.cons (i := 5) A109 rfl kr (zN (d := 8) (fun b => .pointer (some ⟨b, 0, none⟩)) (.cells #[.slice none 0 0, .slice none 0 0, .bool false] 91 (0, 0)) A109 kr j108 kw ?_) ForkT.nil
  intro b112 w112 Y112 j112 q112 hu112 a113 A113
  refine zI (hH108.up hu112) (fun hH112 => ?_)
  refine hG2 _ _ _ _ (G_cast kr (hI9009 _ _ ⟨_, b108, b112, A113.as [7, 8, 19, 21] kr kr, j112, (Le2 q108 q112)⟩))
 refine ForkT.cons (i := 5) A95 rfl kr (zN (d := 8) (fun b => .pointer (some ⟨b, 0, none⟩)) (.cells #[.slice none 0 0, .slice none 0 0, .bool false] 91 (0, 0)) A95 kr j31 kw ?_) ForkT.nil
 intro b114 w114 Y114 j114 q114 hu114 a115 A115
 refine zI (hH31.up hu114) (fun hH114 => ?_)
 refine zM [1, 4] kr rfl ?_
 refine ForkT.cons (i := 1) A115 rfl kr ?_ ?_
 ·
  refine zK (d := 20) (f := 51) (cap := #[]) (vs := #[.agg #[.bool a.neg, .slice ad₁ len₁ cap₁, .slice ae₁ le₁ ce₁]]) A115 kr j114 rfl kr kr (fun w => Try.call51 _ w) (of_c _ _ j114.lt a.neg _ _ _ (val a.ln) (hNna.mono (Le9 q2 q4 q9 q12 q14 q16 q18 q31 q114)) _ _ _ (val a.ld) (hNda.mono (Le9 q2 q4 q9 q12 q14 q16 q18 q31 q114))) ?_
  rintro v116 w116 j116 q116 hu116 ⟨ad116, len116, cap116, ae116, le116, ce116, rfl, hN116, hD116⟩ a117 A117
  refine zI (hH114.up hu116) (fun hH116 => ?_)
  refine hG2 _ _ _ _ (G_cast kr (hI9008 _ _ ⟨_, b114, ad116, len116, cap116, ae116, le116, ce116, A117.as [8, 20, 21] kr kr, j116, (Le2 q114 q116), hN116, hD116⟩))
 refine ForkT.cons (i := 4) A115 rfl kr (zN (d := 7) (fun b => .pointer (some ⟨b, 0, none⟩)) (.cells #[.slice none 0 0, .slice none 0 0, .bool false] 91 (0, 0)) A115 kr j114 kw ?_) ForkT.nil
 intro b118 w118 Y118 j118 q118 hu118 a119 A119
 refine zI (hH114.up hu118) (fun hH118 => ?_)
 refine hG2 _ _ _ _ (G_cast kr (hI9009 _ _ ⟨_, b118, b114, A119.as [7, 8, 19, 21] kr kr, (St.swapAt [] j118), (Le2 q114 q118)⟩))
end Go.Proofs.Ytoocgllbbihoaaa
namespace Go.Proofs.Ytoocgllbbihoaaa
open Go Go.Gv Go.RowKit
set_option maxRecDepth 100000
set_option maxHeartbeats 1000000
theorem radd_c (w : World) (X : Hid) (hX : ∀ k o, X k o → k < w.heap.size) (ad : Option Addr) (len cap : Nat) (xs : List Raw) (h : Rats (rd w X) ad len cap xs) (hm : len ≤ 1099511627776) : Calls Try.prog 69 #[.slice ad len cap] w (Ret E0 w fun w' v => ∃ u, v = .tuple #[u, .int .i64 (addL .zero xs).2] ∧ RawX X w' u (addL .zero xs).1) := by
 obtain rfl := h.hlen
 have hcap := h.hcap
 have hbig := h.hbig
 refine zZ (n := 24) (vs := [.slice ad xs.length cap]) Try.func69 rfl rfl rfl kr (fun a0 A0 => ?_)
 have A0 : Fr 24 a0 [(0, .slice ad xs.length cap)] := A0
 have j0 : St E0 w X w X [] := St.start hX
 refine zD (fun K1 C1 => ?_)
 refine zC ?_
 refine wplI A0 kr (zN (d := 2) (fun b => .pointer (some ⟨b, 0, none⟩)) (.cells #[.bool false, .slice none 0 0, .slice none 0 0] 25 (0, 0)) A0 kr j0 kw ?_)
 intro b2 w2 Y2 j2 q2 hu2 a3 A3
 refine zB 1 [(3, .int .i64 0)] A3 kr kr (fun a4 A4 => ?_)
 refine zE ?_
 refine zA (C1 _ _ ?_)
 refine zD (fun K5 C5 => ?_)
 refine zD (fun K6 C6 => ?_)
 refine zC ?_
 refine zB 3 [(8, .int .i64 0), (7, .int .i64 (xs.length : Int)), (6, .slice ad xs.length cap)] A4 kr kr (fun a7 A7 => ?_)
 refine zE ?_
 refine zA (C6 _ _ ?_)
 refine zV ?_
 refine qC (fun (k : Nat) ac w1 => ∃ (Y1 : Hid) (r : Raw) (ar : Option Addr) (lr : Nat) (cr : Nat) (br : Option Addr) (mr : Nat) (dr : Nat), Fr 24 ac [(2, .pointer (some ⟨b2, 0, none⟩)), (6, .slice ad xs.length cap), (7, .int .i64 (xs.length : Int)), (8, .int .i64 (k : Int))] ∧ St E0 w X w1 Y1 [(b2, .cells #[.bool r.neg, .slice ar lr cr, .slice br mr dr] 25 (0, 0))] ∧ Le (rd w2 Y2) (rd w1 Y1) ∧ (Limbs (rd w1 Y1) ar lr cr r.ln) ∧ (Limbs (rd w1 Y1) br mr dr r.ld) ∧ (addL r (xs.drop k) = addL .zero xs) ∧ (k ≤ xs.length)) (fun (k : Nat) => xs.length - k) 0 ?_ ?_
 ·
  refine ⟨_, .zero, none, 0, 0, none, 0, 0, A7.as [2, 6, 7, 8] kr kr, j2, Le.refl _, Limbs.nil none (by omega), Limbs.nil none (by omega), rfl, Nat.zero_le _⟩
 rintro k a8 w8 ⟨Y8, r, ar, lr, cr, br, mr, dr, A8, j8, q8, hp8_0, hp8_1, hp8_2, hp8_3⟩
 refine zD (fun K9 C9 => ?_)
 refine zC ?_
 refine zB 1 [(9, .bool (decide ((k : Int) < (xs.length : Int))))] A8 kr kr (fun a10 A10 => ?_)
 refine zE ?_
 refine zA (C9 _ _ ?_)
 refine zD (fun K11 C11 => ?_)
 refine zS (decide ((k : Int) < (xs.length : Int))) A10 kr kr (fun hc12 => ?_) (fun hc12 => ?_)
 ·
  have A13 := A10.set 9 (v' := .bool true) kr rfl (zG hc12)
  have ht14 : (k : Int) < (xs.length : Int) := of_decide_eq_true hc12
  obtain ⟨bx, offx, xx, anx, lnx, cnx, amx, lmx, cmx, rfl, hxx, hAx, hLx, hMx⟩ := h.cell (k := k) (by omega)
  refine i_skip ?_
  refine zA (C11 _ _ ?_)
  refine zD (fun K15 C15 => ?_)
  refine zV ?_
  refine zD (fun K16 C16 => ?_)
  refine zC ?_
  refine wplI A13 kr (zJ (d := 10) (v := .pointer (some ⟨bx, offx + k * 3, none⟩)) A13 kr (zP (t := 29) (e := 25) (b := bx) (off := offx) (len := xs.length) (cap := cap) (kd := .i64) (i := (k : Int)) (g := true) (m := 3) (off' := offx + k * 3) rfl kr kr kr kr (by omega) (by omega) (by first | rfl | omega | (simp; done) | (simp; omega)) _) ?_)
  intro a17 A17
  refine wplI A17 kr (zJ (d := 11) (v := .agg #[.bool xx.neg, .slice anx lnx cnx, .slice amx lmx cmx]) A17 kr (zF (t := 25) (g := true) (vs := [.bool xx.neg, .slice anx lnx cnx, .slice amx lmx cmx]) (ad := ⟨bx, offx + k * 3, none⟩) rfl kr kr ir ((hAx.mono (Le2 q2 q8))).cells) ?_)
  intro a18 A18
  refine wplI A18 kr (zN (d := 5) (fun b => .pointer (some ⟨b, 0, none⟩)) (.cells #[.bool false, .slice none 0 0, .slice none 0 0] 25 (0, 0)) A18 kr j8 kw ?_)
  intro b19 w19 Y19 j19 q19 hu19 a20 A20
  refine wplI A20 kr (zO (t := 25) (b := b19) (off := 0) (c' := #[.bool xx.neg, .slice anx lnx cnx, .slice amx lmx cmx]) (g := true) (m := 3) 0 _ A20 kr j19 rfl kr rfl kr kr kr rfl (by first | decide | (simp; done)) kr rfl ?_)
  intro w21 j21 q21
  refine zE ?_
  refine zA (C16 _ _ ?_)
  refine zD (fun K22 C22 => ?_)
  refine zC ?_
  refine wplI A20 kr (zJ (d := 13) (v := .agg #[.bool r.neg, .slice ar lr cr, .slice br mr dr]) A20 kr (zF (t := 25) (g := true) (vs := [.bool r.neg, .slice ar lr cr, .slice br mr dr]) (ad := ⟨b2, 0, none⟩) rfl kr kr ir (j21.cells 1 rfl rfl)) ?_)
  intro a23 A23
  refine wplI A23 kr (zJ (d := 14) (v := .agg #[.bool xx.neg, .slice anx lnx cnx, .slice amx lmx cmx]) A23 kr (zF (t := 25) (g := true) (vs := [.bool xx.neg, .slice anx lnx cnx, .slice amx lmx cmx]) (ad := ⟨b19, 0, none⟩) rfl kr kr ir (j21.cells 0 rfl rfl)) ?_)
  intro a24 A24
  refine wplI A24 kr (zK (d := 15) (f := 16) (cap := #[]) (vs := #[.agg #[.bool r.neg, .slice ar lr cr, .slice br mr dr], .agg #[.bool xx.neg, .slice anx lnx cnx, .slice amx lmx cmx]]) A24 kr j21 rfl kr kr (fun w => Try.call16 _ w) (rAdd_c _ _ j21.lt r _ _ _ (hp8_0.mono (Le2 q19 q21)) _ _ _ (hp8_1.mono (Le2 q19 q21)) xx _ _ _ (hLx.mono (Le4 q2 q8 q19 q21)) _ _ _ (hMx.mono (Le4 q2 q8 q19 q21))) ?_)
  rintro v25 w25 j25 q25 hu25 ⟨u25, rfl, ⟨ad25, len25, cap25, ae25, le25, ce25, rfl, hN25, hD25⟩⟩ a26 A26
  refine zB 3 [(17, .int .i64 (opE r xx (r.rat + xx.rat))), (16, .agg #[.bool ((opR r xx (r.rat + xx.rat)).neg), .slice ad25 len25 cap25, .slice ae25 le25 ce25]), (12, .tuple #[.agg #[.bool ((opR r xx (r.rat + xx.rat)).neg), .slice ad25 len25 cap25, .slice ae25 le25 ce25], .int .i64 (opE r xx (r.rat + xx.rat))])] A26 kr kr (fun a27 A27 => ?_)
  refine wplI A27 kr (zO (t := 25) (b := b2) (off := 0) (c' := #[.bool ((opR r xx (r.rat + xx.rat)).neg), .slice ad25 len25 cap25, .slice ae25 le25 ce25]) (g := true) (m := 3) 1 _ A27 kr j25 rfl kr rfl kr kr kr rfl (by first | decide | (simp; done)) kr rfl ?_)
  intro w28 j28 q28
  refine zB 1 [(3, .int .i64 (opE r xx (r.rat + xx.rat)))] A27 kr kr (fun a29 A29 => ?_)
  refine zE ?_
  refine zA (C22 _ _ ?_)
  refine zD (fun K30 C30 => ?_)
  refine zC ?_
  refine zB 2 [(19, .bool ((opE r xx (r.rat + xx.rat)) != 0)), (18, .int .i64 (opE r xx (r.rat + xx.rat)))] A29 kr kr (fun a31 A31 => ?_)
  refine zE ?_
  refine zA (C30 _ _ ?_)
  refine zS ((opE r xx (r.rat + xx.rat)) != 0) A31 kr kr (fun hc32 => ?_) (fun hc32 => ?_)
  ·
   have A33 := A31.set 19 (v' := .bool true) kr rfl (zG hc32)
   have ht34 : (opE r xx (r.rat + xx.rat)) ≠ 0 := by simpa using hc32
   have hend := (addL_stop hxx ht34).symm.trans hp8_2
   refine zD (fun K35 C35 => ?_)
   refine zC ?_
   refine zB 2 [(21, .int .i64 (opE r xx (r.rat + xx.rat))), (20, .agg #[.bool false, .slice none 0 0, .slice none 0 0])] A33 kr kr (fun a36 A36 => ?_)
   refine wplI A36 kr (zO (t := 25) (b := b2) (off := 0) (c' := #[.bool false, .slice none 0 0, .slice none 0 0]) (g := true) (m := 3) 1 _ A36 kr j28 rfl kr rfl kr kr kr rfl (by first | decide | (simp; done)) kr rfl ?_)
   intro w37 j37 q37
   refine zB 1 [(3, .int .i64 (opE r xx (r.rat + xx.rat)))] A36 kr kr (fun a38 A38 => ?_)
   refine zE ?_
   refine zA (C35 _ _ ?_)
   refine zQ ?_
   refine zU ?_
   refine zL ?_
   refine zL ?_
   refine zU ?_
   refine zL ?_
   refine zR (v := .tuple #[.agg #[.bool false, .slice none 0 0, .slice none 0 0], .int .i64 (opE r xx (r.rat + xx.rat))]) (rs := [.cell 2 25, .tmp 3]) A38 kr (Res.cell (ad := ⟨b2, 0, none⟩) (cs := [.bool false, .slice none 0 0, .slice none 0 0]) (g := true) kr kr kr ir (j37.cells 1 rfl rfl) (Res.tmp kr Res.nil)) kr ?_
   exact ⟨j37.upd, _, rfl, _, by rw [← hend], by rw [← hend]; exact raw_zero⟩
  have A39 := A31.set 19 (v' := .bool false) kr rfl (zG hc32)
  have ht40 : (opE r xx (r.rat + xx.rat)) = 0 := by simpa using hc32
  refine i_skip ?_
  refine zW ?_
  refine zA (C15 _ _ ?_)
  refine zC ?_
  refine zB 1 [(22, .int .i64 (IntKind.i64.wrap ((k : Int) + 1)))] A39 kr kr (fun a41 A41 => ?_)
  have A42 := A41.set 22 (v' := .int .i64 ((k : Int) + 1)) kr rfl (vint (wi64 (by omega) (by omega)))
  refine zB 1 [(8, .int .i64 ((k : Int) + 1))] A42 kr kr (fun a43 A43 => ?_)
  refine zE ?_
  refine zA ?_
  refine ⟨k + 1, ⟨_, (opR r xx (r.rat + xx.rat)), ad25, len25, cap25, ae25, le25, ce25, A43.as [2, 6, 7, 8] kr kr, j28.tail, (Le5 q8 q19 q21 q25 q28), (hN25.mono q28), (hD25.mono q28), (addL_step hxx (by simpa using ht40)).symm.trans hp8_2, by omega⟩, ?_⟩
  first | omega | (simp; omega)
 have A44 := A10.set 9 (v' := .bool false) kr rfl (zG hc12)
 have ht45 : ¬ ((k : Int) < (xs.length : Int)) := of_decide_eq_false hc12
 have hend := (addL_end (r := r) (xs := xs) (k := k) (by omega)).symm.trans hp8_2
 refine i_exit ?_
 refine zT ?_
 refine zT ?_
 refine qA ?_
 refine zA (C5 _ _ ?_)
 refine zD (fun K46 C46 => ?_)
 refine zC ?_
 refine wplI A44 kr (zJ (d := 23) (v := .agg #[.bool r.neg, .slice ar lr cr, .slice br mr dr]) A44 kr (zF (t := 25) (g := true) (vs := [.bool r.neg, .slice ar lr cr, .slice br mr dr]) (ad := ⟨b2, 0, none⟩) rfl kr kr ir (j8.cells 0 rfl rfl)) ?_)
 intro a47 A47
 refine wplI A47 kr (zO (t := 25) (b := b2) (off := 0) (c' := #[.bool r.neg, .slice ar lr cr, .slice br mr dr]) (g := true) (m := 3) 0 _ A47 kr j8 rfl kr rfl kr kr kr rfl (by first | decide | (simp; done)) kr rfl ?_)
 intro w48 j48 q48
 refine zB 1 [(3, .int .i64 0)] A47 kr kr (fun a49 A49 => ?_)
 refine zE ?_
 refine zA (C46 _ _ ?_)
 refine zQ ?_
 refine zR (v := .tuple #[.agg #[.bool r.neg, .slice ar lr cr, .slice br mr dr], .int .i64 0]) (rs := [.cell 2 25, .tmp 3]) A49 kr (Res.cell (ad := ⟨b2, 0, none⟩) (cs := [.bool r.neg, .slice ar lr cr, .slice br mr dr]) (g := true) kr kr kr ir (j48.cells 0 rfl rfl) (Res.tmp kr Res.nil)) kr ?_
 exact ⟨j48.upd, _, rfl, _, by rw [← hend], by rw [← hend]; exact ⟨_, _, _, _, _, _, rfl, (hp8_0.mono q48).mono j48.le, (hp8_1.mono q48).mono j48.le⟩⟩
end Go.Proofs.Ytoocgllbbihoaaa
namespace Go.Proofs.Ytoocgllbbihoaaa
open Go Go.Gv Go.RowKit
set_option maxRecDepth 100000
set_option maxHeartbeats 1000000
theorem rDot_c (w : World) (X : Hid) (hX : ∀ k o, X k o → k < w.heap.size) (ad : Option Addr) (len cap : Nat) (xs : List Raw) (h : Rats (rd w X) ad len cap xs) (ad2 : Option Addr) (len2 cap2 : Nat) (ys : List Raw) (h2 : Rats (rd w X) ad2 len2 cap2 ys) (hm : len ≤ 1099511627776) (hm2 : len2 ≤ 1099511627776) : Calls Try.prog 49 #[.slice ad len cap, .slice ad2 len2 cap2] w (Ret E0 w fun w' v => ∃ u, v = .tuple #[u, .int .i64 (dotV xs ys).2] ∧ RawX X w' u (dotV xs ys).1) := by
 obtain rfl := h.hlen
 have hcap := h.hcap
 have hbig := h.hbig
 obtain rfl := h2.hlen
 have hcap2 := h2.hcap
 have hbig2 := h2.hbig
 refine zZ (n := 49) (vs := [.slice ad xs.length cap, .slice ad2 ys.length cap2]) Try.func49 rfl rfl rfl kr (fun a0 A0 => ?_)
 have A0 : Fr 49 a0 [(0, .slice ad xs.length cap), (1, .slice ad2 ys.length cap2)] := A0
 have j0 : St E0 w X w X [] := St.start hX
 refine zD (fun K1 C1 => ?_)
 refine zC ?_
 refine wplI A0 kr (zN (d := 4) (fun b => .pointer (some ⟨b, 0, none⟩)) (.cells #[.bool false, .slice none 0 0, .slice none 0 0] 25 (0, 0)) A0 kr j0 kw ?_)
 intro b2 w2 Y2 j2 q2 hu2 a3 A3
 refine zB 1 [(5, .int .i64 0)] A3 kr kr (fun a4 A4 => ?_)
 refine zE ?_
 refine zA (C1 _ _ ?_)
 refine zD (fun K5 C5 => ?_)
 refine zD (fun K6 C6 => ?_)
 refine zC ?_
 refine zB 5 [(13, .bool ((xs.length : Int) != (ys.length : Int))), (12, .int .i64 (ys.length : Int)), (11, .slice ad2 ys.length cap2), (10, .int .i64 (xs.length : Int)), (9, .slice ad xs.length cap)] A4 kr kr (fun a7 A7 => ?_)
 refine zE ?_
 refine zA (C6 _ _ ?_)
 refine zS ((xs.length : Int) != (ys.length : Int)) A7 kr kr (fun hc8 => ?_) (fun hc8 => ?_)
 ·
  have A9 := A7.set 13 (v' := .bool true) kr rfl (zG hc8)
  have ht10 : (xs.length : Int) ≠ (ys.length : Int) := by simpa using hc8
  have hend : dotV xs ys = (.zero, 16) := if_neg (by omega)
  refine zD (fun K11 C11 => ?_)
  refine zC ?_
  refine zB 1 [(14, .agg #[.bool false, .slice none 0 0, .slice none 0 0])] A9 kr kr (fun a12 A12 => ?_)
  refine wplI A12 kr (zO (t := 25) (b := b2) (off := 0) (c' := #[.bool false, .slice none 0 0, .slice none 0 0]) (g := true) (m := 3) 0 _ A12 kr j2 rfl kr rfl kr kr kr rfl (by first | decide | (simp; done)) kr rfl ?_)
  intro w13 j13 q13
  refine zB 1 [(5, .int .i64 16)] A12 kr kr (fun a14 A14 => ?_)
  refine zE ?_
  refine zA (C11 _ _ ?_)
  refine zQ ?_
  refine zL ?_
  refine zR (v := .tuple #[.agg #[.bool false, .slice none 0 0, .slice none 0 0], .int .i64 16]) (rs := [.cell 4 25, .tmp 5]) A14 kr (Res.cell (ad := ⟨b2, 0, none⟩) (cs := [.bool false, .slice none 0 0, .slice none 0 0]) (g := true) kr kr kr ir (j13.cells 0 rfl rfl) (Res.tmp kr Res.nil)) kr ?_
  exact ⟨j13.upd, _, rfl, _, by rw [hend], by rw [hend]; exact raw_zero⟩
 have A15 := A7.set 13 (v' := .bool false) kr rfl (zG hc8)
 have ht16 : (xs.length : Int) = (ys.length : Int) := by simpa using hc8
 have hxy0 : xs.length = ys.length := by omega
 have hdv : dotV xs ys = dotL .zero xs ys := if_pos hxy0
 refine i_skip ?_
 refine zA (C5 _ _ ?_)
 refine zD (fun K17 C17 => ?_)
 refine zD (fun K18 C18 => ?_)
 refine zC ?_
 refine zB 3 [(17, .int .i64 0), (16, .int .i64 (xs.length : Int)), (15, .slice ad xs.length cap)] A15 kr kr (fun a19 A19 => ?_)
 refine zE ?_
 refine zA (C18 _ _ ?_)
 refine zV ?_
 refine qC (fun (k : Nat) ac w1 => ∃ (Y1 : Hid) (r : Raw) (ar : Option Addr) (lr : Nat) (cr : Nat) (br : Option Addr) (mr : Nat) (dr : Nat), Fr 49 ac [(0, .slice ad xs.length cap), (1, .slice ad2 ys.length cap2), (4, .pointer (some ⟨b2, 0, none⟩)), (16, .int .i64 (xs.length : Int)), (17, .int .i64 (k : Int))] ∧ St E0 w X w1 Y1 [(b2, .cells #[.bool r.neg, .slice ar lr cr, .slice br mr dr] 25 (0, 0))] ∧ Le (rd w2 Y2) (rd w1 Y1) ∧ (Limbs (rd w1 Y1) ar lr cr r.ln) ∧ (Limbs (rd w1 Y1) br mr dr r.ld) ∧ (dotL r (xs.drop k) (ys.drop k) = dotL .zero xs ys) ∧ (k ≤ xs.length)) (fun (k : Nat) => xs.length - k) 0 ?_ ?_
 ·
  refine ⟨_, .zero, none, 0, 0, none, 0, 0, A19.as [0, 1, 4, 16, 17] kr kr, j2, Le.refl _, Limbs.nil none (by omega), Limbs.nil none (by omega), rfl, Nat.zero_le _⟩
 rintro k a20 w20 ⟨Y20, r, ar, lr, cr, br, mr, dr, A20, j20, q20, hp20_0, hp20_1, hp20_2, hp20_3⟩
 refine zD (fun K21 C21 => ?_)
 refine zC ?_
 refine zB 1 [(18, .bool (decide ((k : Int) < (xs.length : Int))))] A20 kr kr (fun a22 A22 => ?_)
 refine zE ?_
 refine zA (C21 _ _ ?_)
 refine zD (fun K23 C23 => ?_)
 refine zS (decide ((k : Int) < (xs.length : Int))) A22 kr kr (fun hc24 => ?_) (fun hc24 => ?_)
 ·
  have A25 := A22.set 18 (v' := .bool true) kr rfl (zG hc24)
  have ht26 : (k : Int) < (xs.length : Int) := of_decide_eq_true hc24
  obtain ⟨bx, offx, xx, anx, lnx, cnx, amx, lmx, cmx, rfl, hxx, hAx, hLx, hMx⟩ := h.cell (k := k) (by omega)
  obtain ⟨bz, offz, xz, anz, lnz, cnz, amz, lmz, cmz, rfl, hxz, hAz, hLz, hMz⟩ := h2.cell (k := k) (by omega)
  refine i_skip ?_
  refine zA (C23 _ _ ?_)
  refine zD (fun K27 C27 => ?_)
  refine zV ?_
  refine zD (fun K28 C28 => ?_)
  refine zC ?_
  refine zB 2 [(6, .int .i64 (k : Int)), (19, .int .i64 (k : Int))] A25 kr kr (fun a29 A29 => ?_)
  refine zE ?_
  refine zA (C28 _ _ ?_)
  refine zD (fun K30 C30 => ?_)
  have hJ9001 : ∀ a9001 w9001, (∃ (Y9001 : Hid) (b45 : Nat) (ad40 : Option Addr) (len40 : Nat) (cap40 : Nat) (ae40 : Option Addr) (le40 : Nat) (ce40 : Nat), Fr 49 a9001 [(0, .slice (some ⟨bx, offx, none⟩) xs.length cap), (1, .slice (some ⟨bz, offz, none⟩) ys.length cap2), (4, .pointer (some ⟨b2, 0, none⟩)), (7, .pointer (some ⟨b45, 0, none⟩)), (8, .int .i64 (opE xx xz (xx.rat * xz.rat))), (16, .int .i64 (xs.length : Int)), (17, .int .i64 (k : Int))] ∧ St E0 w X w9001 Y9001 [(b45, .cells #[.bool ((opR xx xz (xx.rat * xz.rat)).neg), .slice ad40 len40 cap40, .slice ae40 le40 ce40] 25 (0, 0)), (b2, .cells #[.bool r.neg, .slice ar lr cr, .slice br mr dr] 25 (0, 0))] ∧ Le (rd w20 Y20) (rd w9001 Y9001) ∧ (Limbs (rd w9001 Y9001) ad40 len40 cap40 ((opR xx xz (xx.rat * xz.rat)).ln)) ∧ (Limbs (rd w9001 Y9001) ae40 le40 ce40 ((opR xx xz (xx.rat * xz.rat)).ld))) → K30 a9001 w9001 := by
   rintro a9001 w9001 ⟨Y9001, b45, ad40, len40, cap40, ae40, le40, ce40, A9001, j9001, q9001, hN40, hD40⟩
   refine C30 _ _ ?_
   refine zD (fun K49 C49 => ?_)
   refine zD (fun K50 C50 => ?_)
   refine zC ?_
   refine zB 2 [(33, .bool ((opE xx xz (xx.rat * xz.rat)) != 0)), (32, .int .i64 (opE xx xz (xx.rat * xz.rat)))] A9001 kr kr (fun a51 A51 => ?_)
   refine zE ?_
   refine zA (C50 _ _ ?_)
   refine zS ((opE xx xz (xx.rat * xz.rat)) != 0) A51 kr kr (fun hc52 => ?_) (fun hc52 => ?_)
   ·
    have A53 := A51.set 33 (v' := .bool true) kr rfl (zG hc52)
    have ht54 : (opE xx xz (xx.rat * xz.rat)) ≠ 0 := by simpa using hc52
    have hend := hdv.trans (hp20_2.symm.trans (dotL_mul hxx hxz ht54))
    refine zD (fun K55 C55 => ?_)
    refine zC ?_
    refine zB 2 [(35, .int .i64 (opE xx xz (xx.rat * xz.rat))), (34, .agg #[.bool false, .slice none 0 0, .slice none 0 0])] A53 kr kr (fun a56 A56 => ?_)
    refine wplI A56 kr (zO (t := 25) (b := b2) (off := 0) (c' := #[.bool false, .slice none 0 0, .slice none 0 0]) (g := true) (m := 3) 1 _ A56 kr j9001 rfl kr rfl kr kr kr rfl (by first | decide | (simp; done)) kr rfl ?_)
    intro w57 j57 q57
    refine zB 1 [(5, .int .i64 (opE xx xz (xx.rat * xz.rat)))] A56 kr kr (fun a58 A58 => ?_)
    refine zE ?_
    refine zA (C55 _ _ ?_)
    refine zQ ?_
    refine zL ?_
    refine zU ?_
    refine zL ?_
    refine zL ?_
    refine zU ?_
    refine zL ?_
    refine zR (v := .tuple #[.agg #[.bool false, .slice none 0 0, .slice none 0 0], .int .i64 (opE xx xz (xx.rat * xz.rat))]) (rs := [.cell 4 25, .tmp 5]) A58 kr (Res.cell (ad := ⟨b2, 0, none⟩) (cs := [.bool false, .slice none 0 0, .slice none 0 0]) (g := true) kr kr kr ir (j57.cells 1 rfl rfl) (Res.tmp kr Res.nil)) kr ?_
    exact ⟨j57.upd, _, rfl, _, by rw [hend], by rw [hend]; exact raw_zero⟩
   have A59 := A51.set 33 (v' := .bool false) kr rfl (zG hc52)
   have ht60 : (opE xx xz (xx.rat * xz.rat)) = 0 := by simpa using hc52
   refine i_skip ?_
   refine zA (C49 _ _ ?_)
   refine zD (fun K61 C61 => ?_)
   refine zC ?_
   refine wplI A59 kr (zJ (d := 37) (v := .agg #[.bool r.neg, .slice ar lr cr, .slice br mr dr]) A59 kr (zF (t := 25) (g := true) (vs := [.bool r.neg, .slice ar lr cr, .slice br mr dr]) (ad := ⟨b2, 0, none⟩) rfl kr kr ir (j9001.cells 1 rfl rfl)) ?_)
   intro a62 A62
   refine wplI A62 kr (zJ (d := 38) (v := .agg #[.bool ((opR xx xz (xx.rat * xz.rat)).neg), .slice ad40 len40 cap40, .slice ae40 le40 ce40]) A62 kr (zF (t := 25) (g := true) (vs := [.bool ((opR xx xz (xx.rat * xz.rat)).neg), .slice ad40 len40 cap40, .slice ae40 le40 ce40]) (ad := ⟨b45, 0, none⟩) rfl kr kr ir (j9001.cells 0 rfl rfl)) ?_)
   intro a63 A63
   refine wplI A63 kr (zN (d := 39) (fun b => .slice (some ⟨b, 0, none⟩) 2 2) (.cells #[.bool r.neg, .slice ar lr cr, .slice br mr dr, .bool ((opR xx xz (xx.rat * xz.rat)).neg), .slice ad40 len40 cap40, .slice ae40 le40 ce40] 25 (0, 0)) A63 kr j9001 kw ?_)
   intro b64 w64 Y64 j64 q64 hu64 a65 A65
   obtain ⟨j66, q66, hat66⟩ := St.publish j64 (j64.own_ge 0 rfl)
   have hR66 : Rats (rd w64 (show_ b64 Y64)) (some ⟨b64, 0, none⟩) 2 2 [r, (opR xx xz (xx.rat * xz.rat))] := Rats.two hat66 (hp20_0.mono (Le3 q9001 q64 q66)) (hp20_1.mono (Le3 q9001 q64 q66)) (hN40.mono (Le2 q64 q66)) (hD40.mono (Le2 q64 q66))
   refine wplI A65 kr (zK (d := 40) (f := 69) (cap := #[]) (vs := #[.slice (some ⟨b64, 0, none⟩) 2 2]) A65 kr j66 rfl kr kr (fun w => Try.call69 _ w) (radd_c _ _ j66.lt _ _ _ [r, (opR xx xz (xx.rat * xz.rat))] hR66 (by omega)) ?_)
   rintro v67 w67 j67 q67 hu67 ⟨u67, rfl, ⟨ad67, len67, cap67, ae67, le67, ce67, rfl, hN67, hD67⟩⟩ a68 A68
   refine zB 3 [(42, .int .i64 ((addL .zero [r, (opR xx xz (xx.rat * xz.rat))]).2)), (41, .agg #[.bool ((addL .zero [r, (opR xx xz (xx.rat * xz.rat))]).1.neg), .slice ad67 len67 cap67, .slice ae67 le67 ce67]), (36, .tuple #[.agg #[.bool ((addL .zero [r, (opR xx xz (xx.rat * xz.rat))]).1.neg), .slice ad67 len67 cap67, .slice ae67 le67 ce67], .int .i64 ((addL .zero [r, (opR xx xz (xx.rat * xz.rat))]).2)])] A68 kr kr (fun a69 A69 => ?_)
   refine wplI A69 kr (zO (t := 25) (b := b2) (off := 0) (c' := #[.bool ((addL .zero [r, (opR xx xz (xx.rat * xz.rat))]).1.neg), .slice ad67 len67 cap67, .slice ae67 le67 ce67]) (g := true) (m := 3) 1 _ A69 kr j67 rfl kr rfl kr kr kr rfl (by first | decide | (simp; done)) kr rfl ?_)
   intro w70 j70 q70
   refine zB 1 [(8, .int .i64 ((addL .zero [r, (opR xx xz (xx.rat * xz.rat))]).2))] A69 kr kr (fun a71 A71 => ?_)
   refine zE ?_
   refine zA (C61 _ _ ?_)
   refine zD (fun K72 C72 => ?_)
   refine zC ?_
   refine zB 2 [(44, .bool (((addL .zero [r, (opR xx xz (xx.rat * xz.rat))]).2) != 0)), (43, .int .i64 ((addL .zero [r, (opR xx xz (xx.rat * xz.rat))]).2))] A71 kr kr (fun a73 A73 => ?_)
   refine zE ?_
   refine zA (C72 _ _ ?_)
   refine zS (((addL .zero [r, (opR xx xz (xx.rat * xz.rat))]).2) != 0) A73 kr kr (fun hc74 => ?_) (fun hc74 => ?_)
   ·
    have A75 := A73.set 44 (v' := .bool true) kr rfl (zG hc74)
    have ht76 : ((addL .zero [r, (opR xx xz (xx.rat * xz.rat))]).2) ≠ 0 := by simpa using hc74
    have hend := hdv.trans (hp20_2.symm.trans (dotL_add hxx hxz (by simpa using ht60) ht76))
    refine zD (fun K77 C77 => ?_)
    refine zC ?_
    refine zB 2 [(46, .int .i64 ((addL .zero [r, (opR xx xz (xx.rat * xz.rat))]).2)), (45, .agg #[.bool false, .slice none 0 0, .slice none 0 0])] A75 kr kr (fun a78 A78 => ?_)
    refine wplI A78 kr (zO (t := 25) (b := b2) (off := 0) (c' := #[.bool false, .slice none 0 0, .slice none 0 0]) (g := true) (m := 3) 1 _ A78 kr j70 rfl kr rfl kr kr kr rfl (by first | decide | (simp; done)) kr rfl ?_)
    intro w79 j79 q79
    refine zB 1 [(5, .int .i64 ((addL .zero [r, (opR xx xz (xx.rat * xz.rat))]).2))] A78 kr kr (fun a80 A80 => ?_)
    refine zE ?_
    refine zA (C77 _ _ ?_)
    refine zQ ?_
    refine zU ?_
    refine zL ?_
    refine zL ?_
    refine zU ?_
    refine zL ?_
    refine zR (v := .tuple #[.agg #[.bool false, .slice none 0 0, .slice none 0 0], .int .i64 ((addL .zero [r, (opR xx xz (xx.rat * xz.rat))]).2)]) (rs := [.cell 4 25, .tmp 5]) A80 kr (Res.cell (ad := ⟨b2, 0, none⟩) (cs := [.bool false, .slice none 0 0, .slice none 0 0]) (g := true) kr kr kr ir (j79.cells 1 rfl rfl) (Res.tmp kr Res.nil)) kr ?_
    exact ⟨j79.upd, _, rfl, _, by rw [hend], by rw [hend]; exact raw_zero⟩
   have A81 := A73.set 44 (v' := .bool false) kr rfl (zG hc74)
   have ht82 : ((addL .zero [r, (opR xx xz (xx.rat * xz.rat))]).2) = 0 := by simpa using hc74
   refine i_skip ?_
   refine zW ?_
   refine zA (C27 _ _ ?_)
   refine zC ?_
   refine zB 1 [(47, .int .i64 (IntKind.i64.wrap ((k : Int) + 1)))] A81 kr kr (fun a83 A83 => ?_)
   have A84 := A83.set 47 (v' := .int .i64 ((k : Int) + 1)) kr rfl (vint (wi64 (by omega) (by omega)))
   refine zB 1 [(17, .int .i64 ((k : Int) + 1))] A84 kr kr (fun a85 A85 => ?_)
   refine zE ?_
   refine zA ?_
   refine ⟨k + 1, ⟨_, (addL .zero [r, (opR xx xz (xx.rat * xz.rat))]).1, ad67, len67, cap67, ae67, le67, ce67, A85.as [0, 1, 4, 16, 17] kr kr, j70.tail, (Le6 q20 q9001 q64 q66 q67 q70), (hN67.mono q70), (hD67.mono q70), (dotL_step hxx hxz (by simpa using ht60) (by simpa using ht82)).symm.trans hp20_2, by omega⟩, ?_⟩
   first | omega | (simp; omega)
  refine qD (N := 15) (Held [(⟨bx, offx + k * 3, none⟩, [.bool xx.neg, .slice anx lnx cnx, .slice amx lmx cmx]), (⟨bz, offz + k * 3, none⟩, [.bool xz.neg, .slice anz lnz cnz, .slice amz lmz cmz])]) [13] kr kr kr j20 ?_
  intro w31 j31 q31 hu31
  refine zX (Held.cons ((hAx.mono (Le3 q2 q20 q31))).cells (Held.cons ((hAz.mono (Le3 q2 q20 q31))).cells (Held.nil _))) (fun hH31 => ?_)
  refine zH (d := 21) (v := .slice (some ⟨bx, offx, none⟩) xs.length cap) 0 A29 rfl kr kr kw (fun _ => hH31) ?_
  intro a32 A32
  refine zH (d := 22) (v := .int .i64 (k : Int)) 1 A32 rfl kr kr kw (fun _ => hH31) ?_
  intro a33 A33
  refine zH (d := 23) (v := .pointer (some ⟨bx, offx + k * 3, none⟩)) 2 A33 rfl kr kr (fun w => zP (t := 29) (e := 25) (b := bx) (off := offx) (len := xs.length) (cap := cap) (kd := .i64) (i := (k : Int)) (g := true) (m := 3) (off' := offx + k * 3) rfl kr kr kr kr (by omega) (by omega) (by first | rfl | omega | (simp; done) | (simp; omega)) w) (fun _ => hH31) ?_
  intro a34 A34
  refine zY (d := 24) (v := .agg #[.bool xx.neg, .slice anx lnx cnx, .slice amx lmx cmx]) 3 A34 rfl kr kr kr (fun w hw => zF (t := 25) (g := true) (vs := [.bool xx.neg, .slice anx lnx cnx, .slice amx lmx cmx]) (ad := ⟨bx, offx + k * 3, none⟩) rfl kr kr ir (hw.get 0 kr)) hH31 ?_
  intro a35 A35
  refine zH (d := 25) (v := .slice (some ⟨bz, offz, none⟩) ys.length cap2) 4 A35 rfl kr kr kw (fun _ => hH31) ?_
  intro a36 A36
  refine zH (d := 26) (v := .int .i64 (k : Int)) 5 A36 rfl kr kr kw (fun _ => hH31) ?_
  intro a37 A37
  refine zH (d := 27) (v := .pointer (some ⟨bz, offz + k * 3, none⟩)) 6 A37 rfl kr kr (fun w => zP (t := 29) (e := 25) (b := bz) (off := offz) (len := ys.length) (cap := cap2) (kd := .i64) (i := (k : Int)) (g := true) (m := 3) (off' := offz + k * 3) rfl kr kr kr kr (by omega) (by omega) (by first | rfl | omega | (simp; done) | (simp; omega)) w) (fun _ => hH31) ?_
  intro a38 A38
  refine zY (d := 28) (v := .agg #[.bool xz.neg, .slice anz lnz cnz, .slice amz lmz cmz]) 7 A38 rfl kr kr kr (fun w hw => zF (t := 25) (g := true) (vs := [.bool xz.neg, .slice anz lnz cnz, .slice amz lmz cmz]) (ad := ⟨bz, offz + k * 3, none⟩) rfl kr kr ir (hw.get 1 kr)) hH31 ?_
  intro a39 A39
  refine zM [8, 12] kr rfl ?_
  refine ForkT.cons (i := 8) A39 rfl kr ?_ ?_
  ·
   refine zK (d := 29) (f := 17) (cap := #[]) (vs := #[.agg #[.bool xx.neg, .slice anx lnx cnx, .slice amx lmx cmx], .agg #[.bool xz.neg, .slice anz lnz cnz, .slice amz lmz cmz]]) A39 kr j31 rfl kr kr (fun w => Try.call17 _ w) (rMul_c _ _ j31.lt xx _ _ _ (hLx.mono (Le3 q2 q20 q31)) _ _ _ (hMx.mono (Le3 q2 q20 q31)) xz _ _ _ (hLz.mono (Le3 q2 q20 q31)) _ _ _ (hMz.mono (Le3 q2 q20 q31))) ?_
   rintro v40 w40 j40 q40 hu40 ⟨u40, rfl, ⟨ad40, len40, cap40, ae40, le40, ce40, rfl, hN40, hD40⟩⟩ a41 A41
   refine zI (hH31.up hu40) (fun hH40 => ?_)
   refine zH (d := 20) (v := .tuple #[.agg #[.bool ((opR xx xz (xx.rat * xz.rat)).neg), .slice ad40 len40 cap40, .slice ae40 le40 ce40], .int .i64 (opE xx xz (xx.rat * xz.rat))]) 9 A41 rfl kr kr kw (fun _ => hH40) ?_
   intro a42 A42
   refine zH (d := 30) (v := .agg #[.bool ((opR xx xz (xx.rat * xz.rat)).neg), .slice ad40 len40 cap40, .slice ae40 le40 ce40]) 10 A42 rfl kr kr kw (fun _ => hH40) ?_
   intro a43 A43
   refine zH (d := 31) (v := .int .i64 (opE xx xz (xx.rat * xz.rat))) 11 A43 rfl kr kr kw (fun _ => hH40) ?_
   intro a44 A44
   refine zM [12] kr rfl ?_
   refine ForkT.cons (i := 12) A44 rfl kr (zN (d := 7) (fun b => .pointer (some ⟨b, 0, none⟩)) (.cells #[.bool false, .slice none 0 0, .slice none 0 0] 25 (0, 0)) A44 kr j40 kw ?_) ForkT.nil
   intro b45 w45 Y45 j45 q45 hu45 a46 A46
   refine zI (hH40.up hu45) (fun hH45 => ?_)
   refine zM [13] kr rfl ?_
   refine ForkT.cons (i := 13) A46 rfl kr (zO (t := 25) (b := b45) (off := 0) (c' := #[.bool ((opR xx xz (xx.rat * xz.rat)).neg), .slice ad40 len40 cap40, .slice ae40 le40 ce40]) (g := true) (m := 3) 0 _ A46 kr j45 rfl kr rfl kr kr kr rfl (by first | decide | (simp; done)) kr rfl ?_) ForkT.nil
   intro w47 j47 q47
   refine ⟨begun_tt kr, ?_⟩
   refine zH (d := 8) (v := .int .i64 (opE xx xz (xx.rat * xz.rat))) 14 A46 rfl kr kr kw (begun_tt kr) ?_
   intro a48 A48
   refine qB kr (nrm ?_)
   exact zA (hJ9001 _ _ ⟨_, b45, ad40, len40, cap40, ae40, le40, ce40, A48.as [0, 1, 4, 7, 8, 16, 17] kr kr, j47, (Le4 q31 q40 q45 q47), (hN40.mono (Le2 q45 q47)), (hD40.mono (Le2 q45 q47))⟩)
  refine ForkT.cons (i := 12) A39 rfl kr (zN (d := 7) (fun b => .pointer (some ⟨b, 0, none⟩)) (.cells #[.bool false, .slice none 0 0, .slice none 0 0] 25 (0, 0)) A39 kr j31 kw ?_) ForkT.nil
  intro b49 w49 Y49 j49 q49 hu49 a50 A50
  refine zI (hH31.up hu49) (fun hH49 => ?_)
  refine zM [8] kr rfl ?_
  refine ForkT.cons (i := 8) A50 rfl kr (zK (d := 29) (f := 17) (cap := #[]) (vs := #[.agg #[.bool xx.neg, .slice anx lnx cnx, .slice amx lmx cmx], .agg #[.bool xz.neg, .slice anz lnz cnz, .slice amz lmz cmz]]) A50 kr j49 rfl kr kr (fun w => Try.call17 _ w) (rMul_c _ _ j49.lt xx _ _ _ (hLx.mono (Le4 q2 q20 q31 q49)) _ _ _ (hMx.mono (Le4 q2 q20 q31 q49)) xz _ _ _ (hLz.mono (Le4 q2 q20 q31 q49)) _ _ _ (hMz.mono (Le4 q2 q20 q31 q49))) ?_) ForkT.nil
  rintro v51 w51 j51 q51 hu51 ⟨u51, rfl, ⟨ad51, len51, cap51, ae51, le51, ce51, rfl, hN51, hD51⟩⟩ a52 A52
  refine zI (hH49.up hu51) (fun hH51 => ?_)
  refine zH (d := 20) (v := .tuple #[.agg #[.bool ((opR xx xz (xx.rat * xz.rat)).neg), .slice ad51 len51 cap51, .slice ae51 le51 ce51], .int .i64 (opE xx xz (xx.rat * xz.rat))]) 9 A52 rfl kr kr kw (fun _ => hH51) ?_
  intro a53 A53
  refine zH (d := 30) (v := .agg #[.bool ((opR xx xz (xx.rat * xz.rat)).neg), .slice ad51 len51 cap51, .slice ae51 le51 ce51]) 10 A53 rfl kr kr kw (fun _ => hH51) ?_
  intro a54 A54
  refine zH (d := 31) (v := .int .i64 (opE xx xz (xx.rat * xz.rat))) 11 A54 rfl kr kr kw (fun _ => hH51) ?_
  intro a55 A55
  refine zM [13] kr rfl ?_
  refine ForkT.cons (i := 13) A55 rfl kr (zO (t := 25) (b := b49) (off := 0) (c' := #[.bool ((opR xx xz (xx.rat * xz.rat)).neg), .slice ad51 len51 cap51, .slice ae51 le51 ce51]) (g := true) (m := 3) 0 _ A55 kr j51 rfl kr rfl kr kr kr rfl (by first | decide | (simp; done)) kr rfl ?_) ForkT.nil
  intro w56 j56 q56
  refine ⟨begun_tt kr, ?_⟩
  refine zH (d := 8) (v := .int .i64 (opE xx xz (xx.rat * xz.rat))) 14 A55 rfl kr kr kw (begun_tt kr) ?_
  intro a57 A57
  refine qB kr (nrm ?_)
  exact zA (hJ9001 _ _ ⟨_, b49, ad51, len51, cap51, ae51, le51, ce51, A57.as [0, 1, 4, 7, 8, 16, 17] kr kr, j56, (Le4 q31 q49 q51 q56), (hN51.mono q56), (hD51.mono q56)⟩)
 have A58 := A22.set 18 (v' := .bool false) kr rfl (zG hc24)
 have ht59 : ¬ ((k : Int) < (xs.length : Int)) := of_decide_eq_false hc24
 have hend := hdv.trans (hp20_2.symm.trans (dotL_end (by omega)))
 refine i_exit ?_
 refine zT ?_
 refine zT ?_
 refine qA ?_
 refine zA (C17 _ _ ?_)
 refine zD (fun K60 C60 => ?_)
 refine zC ?_
 refine wplI A58 kr (zJ (d := 48) (v := .agg #[.bool r.neg, .slice ar lr cr, .slice br mr dr]) A58 kr (zF (t := 25) (g := true) (vs := [.bool r.neg, .slice ar lr cr, .slice br mr dr]) (ad := ⟨b2, 0, none⟩) rfl kr kr ir (j20.cells 0 rfl rfl)) ?_)
 intro a61 A61
 refine wplI A61 kr (zO (t := 25) (b := b2) (off := 0) (c' := #[.bool r.neg, .slice ar lr cr, .slice br mr dr]) (g := true) (m := 3) 0 _ A61 kr j20 rfl kr rfl kr kr kr rfl (by first | decide | (simp; done)) kr rfl ?_)
 intro w62 j62 q62
 refine zB 1 [(5, .int .i64 0)] A61 kr kr (fun a63 A63 => ?_)
 refine zE ?_
 refine zA (C60 _ _ ?_)
 refine zQ ?_
 refine zR (v := .tuple #[.agg #[.bool r.neg, .slice ar lr cr, .slice br mr dr], .int .i64 0]) (rs := [.cell 4 25, .tmp 5]) A63 kr (Res.cell (ad := ⟨b2, 0, none⟩) (cs := [.bool r.neg, .slice ar lr cr, .slice br mr dr]) (g := true) kr kr kr ir (j62.cells 0 rfl rfl) (Res.tmp kr Res.nil)) kr ?_
 exact ⟨j62.upd, _, rfl, _, by rw [hend], by rw [hend]; exact ⟨_, _, _, _, _, _, rfl, (hp20_0.mono q62).mono j62.le, (hp20_1.mono q62).mono j62.le⟩⟩
end Go.Proofs.Ytoocgllbbihoaaa
namespace Go.Proofs.Ytoocgllbbihoaaa
open Go Go.Gv Go.RowKit
set_option maxRecDepth 100000
set_option maxHeartbeats 1000000
theorem rOf_c (w : World) (X : Hid) (hX : ∀ k o, X k o → k < w.heap.size) (p q : Int) (hp : -9223372036854775808 ≤ p) (hp2 : p ≤ 9223372036854775807) (hq : -9223372036854775808 ≤ q) (hq2 : q ≤ 9223372036854775807) (h0 : q ≠ 0) : Calls Try.prog 46 #[.int .i64 p, .int .i64 q] w (Ret E0 w fun w' v => ∃ u, v = .tuple #[u, .int .i64 0] ∧ RawX X w' u (.of (mkRat (sgn (!(decide (p < 0) == decide (q < 0))) p.natAbs) q.natAbs))) := by
 have hB : (18446744073709551616 : Nat) ≤ 4294967296 ^ 512 := Nat.le_trans (by decide : 18446744073709551616 ≤ 4294967296 ^ 2) (pow_fit 4294967296 2 512 (by decide) (by decide))
 refine zZ (n := 21) (vs := [.int .i64 p, .int .i64 q]) Try.func46 rfl rfl rfl kr (fun a0 A0 => ?_)
 have A0 : Fr 21 a0 [(0, .int .i64 p), (1, .int .i64 q)] := A0
 have j0 : St E0 w X w X [] := St.start hX
 refine zD (fun K1 C1 => ?_)
 refine zC ?_
 refine wplI A0 kr (zN (d := 4) (fun b => .pointer (some ⟨b, 0, none⟩)) (.cells #[.bool false, .slice none 0 0, .slice none 0 0] 25 (0, 0)) A0 kr j0 kw ?_)
 intro b2 w2 Y2 j2 q2 hu2 a3 A3
 refine zB 1 [(5, .int .i64 0)] A3 kr kr (fun a4 A4 => ?_)
 refine zE ?_
 refine zA (C1 _ _ ?_)
 refine zD (fun K5 C5 => ?_)
 refine zD (fun K6 C6 => ?_)
 refine zC ?_
 refine zB 2 [(7, .bool ((q) == 0)), (6, .int .i64 q)] A4 kr kr (fun a7 A7 => ?_)
 refine zE ?_
 refine zA (C6 _ _ ?_)
 refine zS ((q) == 0) A7 kr kr (fun hc8 => ?_) (fun hc8 => ?_)
 ·
  have A9 := A7.set 7 (v' := .bool true) kr rfl (zG hc8)
  have ht10 : (q) = 0 := by simpa using hc8
  exfalso; omega
 have A11 := A7.set 7 (v' := .bool false) kr rfl (zG hc8)
 have ht12 : (q) ≠ 0 := by simpa using hc8
 refine i_skip ?_
 refine zA (C5 _ _ ?_)
 refine zD (fun K13 C13 => ?_)
 refine zC ?_
 refine zB 1 [(9, .int .i64 p)] A11 kr kr (fun a14 A14 => ?_)
 refine wplI A14 kr (zK (d := 10) (f := 68) (cap := #[]) (vs := #[.int .i64 p]) A14 kr j2 rfl kr kr (fun w => Try.call68 _ w) (natural_c _ _ j2.lt p (by omega) (by omega)) ?_)
 rintro v15 w15 j15 q15 hu15 ⟨ad15, len15, cap15, rfl, hN15⟩ a16 A16
 refine zB 1 [(11, .int .i64 q)] A16 kr kr (fun a17 A17 => ?_)
 refine wplI A17 kr (zK (d := 12) (f := 68) (cap := #[]) (vs := #[.int .i64 q]) A17 kr j15 rfl kr kr (fun w => Try.call68 _ w) (natural_c _ _ j15.lt q (by omega) (by omega)) ?_)
 rintro v18 w18 j18 q18 hu18 ⟨ad18, len18, cap18, rfl, hN18⟩ a19 A19
 refine zB 7 [(19, .agg #[.slice ad15 len15 cap15, .slice ad18 len18 cap18, .bool (!((decide ((p) < 0)) == (decide ((q) < 0))))]), (18, .bool (!((decide ((p) < 0)) == (decide ((q) < 0))))), (17, .bool (decide ((q) < 0))), (16, .int .i64 q), (15, .bool (decide ((p) < 0))), (14, .int .i64 p), (13, .agg #[.slice ad15 len15 cap15, .slice ad18 len18 cap18])] A19 kr kr (fun a20 A20 => ?_)
 refine wplI A20 kr (zK (d := 20) (f := 58) (cap := #[]) (vs := #[.agg #[.slice ad15 len15 cap15, .slice ad18 len18 cap18, .bool (!((decide ((p) < 0)) == (decide ((q) < 0))))]]) A20 kr j18 rfl kr kr (fun w => Try.call58 _ w) (lowest_r _ _ j18.lt _ _ _ p.natAbs (hN15.mono q18) _ _ _ q.natAbs hN18 (!((decide ((p) < 0)) == (decide ((q) < 0)))) (by omega) (by omega) (by omega) (mkRat (sgn (!(decide (p < 0) == decide (q < 0))) p.natAbs) q.natAbs) rfl) ?_)
 rintro v21 w21 j21 q21 hu21 ⟨ad21, len21, cap21, ae21, le21, ce21, rfl, hN21, hD21⟩ a22 A22
 refine wplI A22 kr (zO (t := 25) (b := b2) (off := 0) (c' := #[.bool (decide ((mkRat (sgn (!(decide (p < 0) == decide (q < 0))) p.natAbs) q.natAbs).num < 0)), .slice ad21 len21 cap21, .slice ae21 le21 ce21]) (g := true) (m := 3) 0 _ A22 kr j21 rfl kr rfl kr kr kr rfl (by first | decide | (simp; done)) kr rfl ?_)
 intro w23 j23 q23
 refine zB 1 [(5, .int .i64 0)] A22 kr kr (fun a24 A24 => ?_)
 refine zE ?_
 refine zA (C13 _ _ ?_)
 refine zQ ?_
 refine zR (v := .tuple #[.agg #[.bool (decide ((mkRat (sgn (!(decide (p < 0) == decide (q < 0))) p.natAbs) q.natAbs).num < 0)), .slice ad21 len21 cap21, .slice ae21 le21 ce21], .int .i64 0]) (rs := [.cell 4 25, .tmp 5]) A24 kr (Res.cell (ad := ⟨b2, 0, none⟩) (cs := [.bool (decide ((mkRat (sgn (!(decide (p < 0) == decide (q < 0))) p.natAbs) q.natAbs).num < 0)), .slice ad21 len21 cap21, .slice ae21 le21 ce21]) (g := true) kr kr kr ir (j23.cells 0 rfl rfl) (Res.tmp kr Res.nil)) kr ?_
 exact ⟨j23.upd, _, rfl, _, rfl, RatX.raw ⟨_, _, _, _, _, _, rfl, (hN21.mono q23).mono j23.le, (hD21.mono q23).mono j23.le⟩⟩
end Go.Proofs.Ytoocgllbbihoaaa
namespace Go.Proofs.Ytoocgllbbihoaaa
open Go Go.Gv Go.RowKit
set_option maxRecDepth 100000
set_option maxHeartbeats 1000000
theorem smaller_c (w : World) (X : Hid) (hX : ∀ k o, X k o → k < w.heap.size) (a : Raw) (ad₁ : Option Addr) (len₁ cap₁ : Nat) (h₁ : Limbs (rd w X) ad₁ len₁ cap₁ a.ln) (ae₁ : Option Addr) (le₁ ce₁ : Nat) (k₁ : Limbs (rd w X) ae₁ le₁ ce₁ a.ld) (b : Raw) (ad₂ : Option Addr) (len₂ cap₂ : Nat) (h₂ : Limbs (rd w X) ad₂ len₂ cap₂ b.ln) (ae₂ : Option Addr) (le₂ ce₂ : Nat) (k₂ : Limbs (rd w X) ae₂ le₂ ce₂ b.ld) : Calls Try.prog 30 #[.agg #[.bool a.neg, .slice ad₁ len₁ cap₁, .slice ae₁ le₁ ce₁], .agg #[.bool b.neg, .slice ad₂ len₂ cap₂, .slice ae₂ le₂ ce₂]] w (Ret E0 w fun _ v => v = .bool (decide (cmpR a b < 0))) := by
 refine zZ (n := 15) (vs := [.agg #[.bool a.neg, .slice ad₁ len₁ cap₁, .slice ae₁ le₁ ce₁], .agg #[.bool b.neg, .slice ad₂ len₂ cap₂, .slice ae₂ le₂ ce₂]]) Try.func30 rfl rfl rfl kr (fun a0 A0 => ?_)
 have A0 : Fr 15 a0 [(0, .agg #[.bool a.neg, .slice ad₁ len₁ cap₁, .slice ae₁ le₁ ce₁]), (1, .agg #[.bool b.neg, .slice ad₂ len₂ cap₂, .slice ae₂ le₂ ce₂])] := A0
 have j0 : St E0 w X w X [] := St.start hX
 refine zD (fun K1 C1 => ?_)
 refine zC ?_
 refine wplI A0 kr (zN (d := 2) (fun b => .pointer (some ⟨b, 0, none⟩)) (.cells #[.bool a.neg, .slice ad₁ len₁ cap₁, .slice ae₁ le₁ ce₁] 25 (0, 0)) A0 kr j0 kw ?_)
 intro b2 w2 Y2 j2 q2 hu2 a3 A3
 refine wplI A3 kr (zN (d := 3) (fun b => .pointer (some ⟨b, 0, none⟩)) (.cells #[.bool b.neg, .slice ad₂ len₂ cap₂, .slice ae₂ le₂ ce₂] 25 (0, 0)) A3 kr j2 kw ?_)
 intro b4 w4 Y4 j4 q4 hu4 a5 A5
 refine zB 1 [(4, .bool false)] A5 kr kr (fun a6 A6 => ?_)
 refine zE ?_
 refine zA (C1 _ _ ?_)
 refine zD (fun K7 C7 => ?_)
 refine zC ?_
 refine wplI A6 kr (zJ (d := 8) (v := .agg #[.bool a.neg, .slice ad₁ len₁ cap₁, .slice ae₁ le₁ ce₁]) A6 kr (zF (t := 25) (g := true) (vs := [.bool a.neg, .slice ad₁ len₁ cap₁, .slice ae₁ le₁ ce₁]) (ad := ⟨b2, 0, none⟩) rfl kr kr ir (j4.cells 1 rfl rfl)) ?_)
 intro a8 A8
 refine wplI A8 kr (zJ (d := 9) (v := .agg #[.bool b.neg, .slice ad₂ len₂ cap₂, .slice ae₂ le₂ ce₂]) A8 kr (zF (t := 25) (g := true) (vs := [.bool b.neg, .slice ad₂ len₂ cap₂, .slice ae₂ le₂ ce₂]) (ad := ⟨b4, 0, none⟩) rfl kr kr ir (j4.cells 0 rfl rfl)) ?_)
 intro a9 A9
 refine wplI A9 kr (zK (d := 10) (f := 32) (cap := #[]) (vs := #[.agg #[.bool a.neg, .slice ad₁ len₁ cap₁, .slice ae₁ le₁ ce₁], .agg #[.bool b.neg, .slice ad₂ len₂ cap₂, .slice ae₂ le₂ ce₂]]) A9 kr j4 rfl kr kr (fun w => Try.call32 _ w) (rCmp_c _ _ j4.lt a _ _ _ (h₁.mono (Le2 q2 q4)) _ _ _ (k₁.mono (Le2 q2 q4)) b _ _ _ (h₂.mono (Le2 q2 q4)) _ _ _ (k₂.mono (Le2 q2 q4))) ?_)
 rintro v10 w10 j10 q10 hu10 rfl a11 A11
 refine zB 5 [(6, .int .i64 (cmpE a b)), (5, .int .i64 (cmpR a b)), (12, .int .i64 (cmpE a b)), (11, .int .i64 (cmpR a b)), (7, .tuple #[.int .i64 (cmpR a b), .int .i64 (cmpE a b)])] A11 kr kr (fun a12 A12 => ?_)
 refine zE ?_
 refine zA (C7 _ _ ?_)
 refine zD (fun K13 C13 => ?_)
 refine zC ?_
 refine zB 3 [(4, .bool (decide ((cmpR a b) < 0))), (14, .bool (decide ((cmpR a b) < 0))), (13, .int .i64 (cmpR a b))] A12 kr kr (fun a14 A14 => ?_)
 refine zE ?_
 refine zA (C13 _ _ ?_)
 refine zQ ?_
 refine zR (v := .bool (decide ((cmpR a b) < 0))) (rs := [.tmp 4]) A14 kr (Res.tmp kr Res.nil) kr ?_
 exact ⟨j10.upd, _, rfl, rfl⟩
def LessC (f : Nat) (less : Raw → Raw → Bool) : Prop := ∀ (w : World) (X : Hid) (hX : ∀ k o, X k o → k < w.heap.size) (a : Raw) (ad₁ : Option Addr) (len₁ cap₁ : Nat) (h₁ : Limbs (rd w X) ad₁ len₁ cap₁ a.ln) (ae₁ : Option Addr) (le₁ ce₁ : Nat) (k₁ : Limbs (rd w X) ae₁ le₁ ce₁ a.ld) (b : Raw) (ad₂ : Option Addr) (len₂ cap₂ : Nat) (h₂ : Limbs (rd w X) ad₂ len₂ cap₂ b.ln) (ae₂ : Option Addr) (le₂ ce₂ : Nat) (k₂ : Limbs (rd w X) ae₂ le₂ ce₂ b.ld), Calls Try.prog f #[.agg #[.bool a.neg, .slice ad₁ len₁ cap₁, .slice ae₁ le₁ ce₁], .agg #[.bool b.neg, .slice ad₂ len₂ cap₂, .slice ae₂ le₂ ce₂]] w (Ret E0 w fun _ v => v = .bool (less a b))
theorem smaller_less : LessC 30 (fun a b => decide (cmpR a b < 0)) := smaller_c
theorem least_c (f : Nat) (less : Raw → Raw → Bool) (hcf : ∀ args w, (callFunc f args).run Try.prog w = .ok (.enter f args) w) (hless : LessC f less) (w : World) (X : Hid) (hX : ∀ k o, X k o → k < w.heap.size) (ad : Option Addr) (len cap : Nat) (xs : List Raw) (h : Rats (rd w X) ad len cap xs) (hm : len ≤ 1099511627776) : Calls Try.prog 29 #[.slice ad len cap, .func (.func f) #[] #[]] w (Ret E0 w fun _ v => v = .int .i64 ((leastV less xs : Nat) : Int)) := by
 obtain rfl := h.hlen
 have hcap := h.hcap
 have hbig := h.hbig
 refine zZ (n := 25) (vs := [.slice ad xs.length cap, .func (.func f) #[] #[]]) Try.func29 rfl rfl rfl kr (fun a0 A0 => ?_)
 have A0 : Fr 25 a0 [(0, .slice ad xs.length cap), (1, .func (.func f) #[] #[])] := A0
 have j0 : St E0 w X w X [] := St.start hX
 refine zD (fun K1 C1 => ?_)
 refine zC ?_
 refine zB 1 [(4, .int .i64 0)] A0 kr kr (fun a2 A2 => ?_)
 refine zE ?_
 refine zA (C1 _ _ ?_)
 refine zD (fun K3 C3 => ?_)
 refine zC ?_
 refine zB 1 [(5, .int .i64 0)] A2 kr kr (fun a4 A4 => ?_)
 refine zE ?_
 refine zA (C3 _ _ ?_)
 refine zD (fun K5 C5 => ?_)
 refine zD (fun K6 C6 => ?_)
 refine zC ?_
 refine zB 3 [(9, .int .i64 0), (8, .int .i64 (xs.length : Int)), (7, .slice ad xs.length cap)] A4 kr kr (fun a7 A7 => ?_)
 refine zE ?_
 refine zA (C6 _ _ ?_)
 refine zV ?_
 refine qC (fun (k : Nat) ac w1 => ∃ (Y1 : Hid) (b : Nat), Fr 25 ac [(0, .slice ad xs.length cap), (1, .func (.func f) #[] #[]), (5, .int .i64 (b : Int)), (8, .int .i64 (xs.length : Int)), (9, .int .i64 (k : Int))] ∧ St E0 w X w1 Y1 [] ∧ Le (rd w X) (rd w1 Y1) ∧ (leastL less xs b k (xs.drop k) = leastV less xs) ∧ (k ≤ xs.length) ∧ (b ≤ k) ∧ (b < xs.length ∨ k = 0 ∧ b = 0)) (fun (k : Nat) => xs.length - k) 0 ?_ ?_
 ·
  refine ⟨_, 0, A7.as [0, 1, 5, 8, 9] kr kr, j0, Le.refl _, rfl, Nat.zero_le _, Nat.le_refl _, .inr ⟨rfl, rfl⟩⟩
 rintro k a8 w8 ⟨Y8, b, A8, j8, q8, hp8_0, hp8_1, hp8_2, hp8_3⟩
 refine zD (fun K9 C9 => ?_)
 refine zC ?_
 refine zB 1 [(10, .bool (decide ((k : Int) < (xs.length : Int))))] A8 kr kr (fun a10 A10 => ?_)
 refine zE ?_
 refine zA (C9 _ _ ?_)
 refine zD (fun K11 C11 => ?_)
 refine zS (decide ((k : Int) < (xs.length : Int))) A10 kr kr (fun hc12 => ?_) (fun hc12 => ?_)
 ·
  have A13 := A10.set 10 (v' := .bool true) kr rfl (zG hc12)
  have ht14 : (k : Int) < (xs.length : Int) := of_decide_eq_true hc12
  have hbl : b < xs.length := by omega
  obtain ⟨b0, off0, rfl, _⟩ := h.hat.resolve_left (by rintro rfl; simp at hbl)
  obtain ⟨xx, anx, lnx, cnx, amx, lmx, cmx, hxx, hAx, hLx, hMx⟩ := h.at (k := k) (by omega)
  obtain ⟨xz, anz, lnz, cnz, amz, lmz, cmz, hxz, hAz, hLz, hMz⟩ := h.at (k := b) (by omega)
  refine i_skip ?_
  refine zA (C11 _ _ ?_)
  refine zD (fun K15 C15 => ?_)
  refine zV ?_
  refine zD (fun K16 C16 => ?_)
  refine zC ?_
  refine zB 2 [(6, .int .i64 (k : Int)), (11, .int .i64 (k : Int))] A13 kr kr (fun a17 A17 => ?_)
  refine zE ?_
  refine zA (C16 _ _ ?_)
  refine zD (fun K18 C18 => ?_)
  refine qD (N := 10) (Held [(⟨b0, off0 + k * 3, none⟩, [.bool xx.neg, .slice anx lnx cnx, .slice amx lmx cmx]), (⟨b0, off0 + b * 3, none⟩, [.bool xz.neg, .slice anz lnz cnz, .slice amz lmz cmz])]) [] kr kr kr j8 ?_
  intro w19 j19 q19 hu19
  refine zX (Held.cons ((hAx.mono (Le2 q8 q19))).cells (Held.cons ((hAz.mono (Le2 q8 q19))).cells (Held.nil _))) (fun hH19 => ?_)
  refine zH (d := 12) (v := .func (.func f) #[] #[]) 0 A17 rfl kr kr kw (fun _ => hH19) ?_
  intro a20 A20
  refine zH (d := 13) (v := .slice (some ⟨b0, off0, none⟩) xs.length cap) 1 A20 rfl kr kr kw (fun _ => hH19) ?_
  intro a21 A21
  refine zH (d := 14) (v := .int .i64 (k : Int)) 2 A21 rfl kr kr kw (fun _ => hH19) ?_
  intro a22 A22
  refine zH (d := 15) (v := .pointer (some ⟨b0, off0 + k * 3, none⟩)) 3 A22 rfl kr kr (fun w => zP (t := 29) (e := 25) (b := b0) (off := off0) (len := xs.length) (cap := cap) (kd := .i64) (i := (k : Int)) (g := true) (m := 3) (off' := off0 + k * 3) rfl kr kr kr kr (by omega) (by omega) (by first | rfl | omega | (simp; done) | (simp; omega)) w) (fun _ => hH19) ?_
  intro a23 A23
  refine zY (d := 16) (v := .agg #[.bool xx.neg, .slice anx lnx cnx, .slice amx lmx cmx]) 4 A23 rfl kr kr kr (fun w hw => zF (t := 25) (g := true) (vs := [.bool xx.neg, .slice anx lnx cnx, .slice amx lmx cmx]) (ad := ⟨b0, off0 + k * 3, none⟩) rfl kr kr ir (hw.get 0 kr)) hH19 ?_
  intro a24 A24
  refine zH (d := 17) (v := .slice (some ⟨b0, off0, none⟩) xs.length cap) 5 A24 rfl kr kr kw (fun _ => hH19) ?_
  intro a25 A25
  refine zH (d := 18) (v := .int .i64 (b : Int)) 6 A25 rfl kr kr kw (fun _ => hH19) ?_
  intro a26 A26
  refine zH (d := 19) (v := .pointer (some ⟨b0, off0 + b * 3, none⟩)) 7 A26 rfl kr kr (fun w => zP (t := 29) (e := 25) (b := b0) (off := off0) (len := xs.length) (cap := cap) (kd := .i64) (i := (b : Int)) (g := true) (m := 3) (off' := off0 + b * 3) rfl kr kr kr kr (by omega) (by omega) (by first | rfl | omega | (simp; done) | (simp; omega)) w) (fun _ => hH19) ?_
  intro a27 A27
  refine zY (d := 20) (v := .agg #[.bool xz.neg, .slice anz lnz cnz, .slice amz lmz cmz]) 8 A27 rfl kr kr kr (fun w hw => zF (t := 25) (g := true) (vs := [.bool xz.neg, .slice anz lnz cnz, .slice amz lmz cmz]) (ad := ⟨b0, off0 + b * 3, none⟩) rfl kr kr ir (hw.get 1 kr)) hH19 ?_
  intro a28 A28
  refine zM [9] kr rfl ?_
  refine ForkT.cons (i := 9) A28 rfl kr (zK (d := 21) (f := f) (cap := #[]) (vs := #[.agg #[.bool xx.neg, .slice anx lnx cnx, .slice amx lmx cmx], .agg #[.bool xz.neg, .slice anz lnz cnz, .slice amz lmz cmz]]) A28 kr j19 rfl kr kr (fun w => hcf _ w) (hless _ _ j19.lt xx _ _ _ (hLx.mono (Le2 q8 q19)) _ _ _ (hMx.mono (Le2 q8 q19)) xz _ _ _ (hLz.mono (Le2 q8 q19)) _ _ _ (hMz.mono (Le2 q8 q19))) ?_) ForkT.nil
  rintro v29 w29 j29 q29 hu29 rfl a30 A30
  refine zI (Held.cons ((hAx.mono (Le3 q8 q19 q29))).cells (Held.cons ((hAz.mono (Le3 q8 q19 q29))).cells (Held.nil _))) (fun hH29 => ?_)
  refine qB kr (nrm ?_)
  refine zA (C18 _ _ ?_)
  refine zS (less xx xz) A30 kr kr (fun hc31 => ?_) (fun hc31 => ?_)
  ·
   have A32 := A30.set 21 (v' := .bool true) kr rfl (zG hc31)
   have ht33 : (less xx xz) = true := by simpa using hc31
   refine zC ?_
   refine zB 2 [(5, .int .i64 (k : Int)), (22, .int .i64 (k : Int))] A32 kr kr (fun a34 A34 => ?_)
   refine zE ?_
   refine zW ?_
   refine zA (C15 _ _ ?_)
   refine zC ?_
   refine zB 1 [(23, .int .i64 (IntKind.i64.wrap ((k : Int) + 1)))] A34 kr kr (fun a35 A35 => ?_)
   have A36 := A35.set 23 (v' := .int .i64 ((k : Int) + 1)) kr rfl (vint (wi64 (by omega) (by omega)))
   refine zB 1 [(9, .int .i64 ((k : Int) + 1))] A36 kr kr (fun a37 A37 => ?_)
   refine zE ?_
   refine zA ?_
   refine ⟨k + 1, ⟨_, k, A37.as [0, 1, 5, 8, 9] kr kr, j29, (Le3 q8 q19 q29), by have h9 := (leastL_step (less := less) hxx hxz).symm.trans hp8_0; rwa [if_pos ht33] at h9, by omega, by omega, .inl (by omega)⟩, ?_⟩
   first | omega | (simp; omega)
  have A38 := A30.set 21 (v' := .bool false) kr rfl (zG hc31)
  have ht39 : (less xx xz) = false := by simpa using hc31
  refine i_skip ?_
  refine zW ?_
  refine zA (C15 _ _ ?_)
  refine zC ?_
  refine zB 1 [(23, .int .i64 (IntKind.i64.wrap ((k : Int) + 1)))] A38 kr kr (fun a40 A40 => ?_)
  have A41 := A40.set 23 (v' := .int .i64 ((k : Int) + 1)) kr rfl (vint (wi64 (by omega) (by omega)))
  refine zB 1 [(9, .int .i64 ((k : Int) + 1))] A41 kr kr (fun a42 A42 => ?_)
  refine zE ?_
  refine zA ?_
  refine ⟨k + 1, ⟨_, b, A42.as [0, 1, 5, 8, 9] kr kr, j29, (Le3 q8 q19 q29), by have h9 := (leastL_step (less := less) hxx hxz).symm.trans hp8_0; rwa [if_neg (by rw [ht39]; decide)] at h9, by omega, by omega, .inl (by omega)⟩, ?_⟩
  first | omega | (simp; omega)
 have A43 := A10.set 10 (v' := .bool false) kr rfl (zG hc12)
 have ht44 : ¬ ((k : Int) < (xs.length : Int)) := of_decide_eq_false hc12
 have hend := (leastL_end (by omega)).symm.trans hp8_0
 refine i_exit ?_
 refine zT ?_
 refine zT ?_
 refine qA ?_
 refine zA (C5 _ _ ?_)
 refine zD (fun K45 C45 => ?_)
 refine zC ?_
 refine zB 2 [(4, .int .i64 (b : Int)), (24, .int .i64 (b : Int))] A43 kr kr (fun a46 A46 => ?_)
 refine zE ?_
 refine zA (C45 _ _ ?_)
 refine zQ ?_
 refine zR (v := .int .i64 (b : Int)) (rs := [.tmp 4]) A46 kr (Res.tmp kr Res.nil) kr ?_
 exact ⟨j8.upd, _, rfl, by rw [← hend]⟩
end Go.Proofs.Ytoocgllbbihoaaa
namespace Go.Proofs.Ytoocgllbbihoaaa
open Go Go.Gv Go.RowKit
set_option maxRecDepth 100000
set_option maxHeartbeats 1000000
theorem rFrom_1 (w : World) (X : Hid) (hX : ∀ k o, X k o → k < w.heap.size) : Calls Try.prog 47 #[.int .i64 1] w (Ret E0 w fun w' v => RawX X w' v (.of 1)) := rFrom_c w X hX 1 (by omega) (by omega)
theorem checkAction_c (w : World) (X : Hid) (hX : ∀ k o, X k o → k < w.heap.size) (a : Actn) (ad : Option Addr) (len cap : Nat) (h : Limbs (rd w X) ad len cap a.cost.ln) (ae : Option Addr) (le ce : Nat) (h2 : Limbs (rd w X) ae le ce a.cost.ld) (nx : Option Addr) (lx cx : Nat) (hx : OutsR (rd w X) nx lx cx a.next) (n : Nat) (hn : n ≤ 1000000) : Calls Try.prog 63 #[.agg #[.bool a.cost.neg, .slice ad len cap, .slice ae le ce, .slice nx lx cx], .int .i64 (n : Int)] w (Ret E0 w fun _ v => v = .int .i64 (chkAct n a)) := by
 obtain rfl := hx.hlen
 have hcapx := hx.hcap
 have hbigx := hx.hbig
 refine zZ (n := 111) (vs := [.agg #[.bool a.cost.neg, .slice ad len cap, .slice ae le ce, .slice nx a.next.length cx], .int .i64 (n : Int)]) Try.func63 rfl rfl rfl kr (fun a0 A0 => ?_)
 have A0 : Fr 111 a0 [(0, .agg #[.bool a.cost.neg, .slice ad len cap, .slice ae le ce, .slice nx a.next.length cx]), (1, .int .i64 (n : Int))] := A0
 have j0 : St E0 w X w X [] := St.start hX
 refine zD (fun K1 C1 => ?_)
 refine zC ?_
 refine wplI A0 kr (zN (d := 2) (fun b => .pointer (some ⟨b, 0, none⟩)) (.cells #[.bool a.cost.neg, .slice ad len cap, .slice ae le ce, .slice nx a.next.length cx] 55 (0, 0)) A0 kr j0 kw ?_)
 intro b2 w2 Y2 j2 q2 hu2 a3 A3
 refine zB 1 [(4, .int .i64 0)] A3 kr kr (fun a4 A4 => ?_)
 refine zE ?_
 refine zA (C1 _ _ ?_)
 refine zD (fun K5 C5 => ?_)
 refine zD (fun K6 C6 => ?_)
 refine zC ?_
 refine zB 1 [(15, .pointer (some ⟨b2, 0, none⟩))] A4 kr kr (fun a7 A7 => ?_)
 refine wplI A7 kr (zJ (d := 16) (v := .agg #[.bool a.cost.neg, .slice ad len cap, .slice ae le ce]) A7 kr (zF (t := 25) (g := true) (vs := [.bool a.cost.neg, .slice ad len cap, .slice ae le ce]) (ad := ⟨b2, 0, none⟩) rfl kr kr ir (j2.cells 0 rfl rfl)) ?_)
 intro a8 A8
 refine wplI A8 kr (zK (d := 17) (f := 15) (cap := #[]) (vs := #[.agg #[.bool a.cost.neg, .slice ad len cap, .slice ae le ce]]) A8 kr j2 rfl kr kr (fun w => Try.call15 _ w) (rcheck_c _ _ j2.lt a.cost _ _ _ (h.mono q2) _ _ _ (h2.mono q2)) ?_)
 rintro v9 w9 j9 q9 hu9 rfl a10 A10
 refine zB 1 [(5, .int .i64 a.cost.chk)] A10 kr kr (fun a11 A11 => ?_)
 refine zE ?_
 refine zA (C6 _ _ ?_)
 refine zV ?_
 refine zD (fun K12 C12 => ?_)
 refine zC ?_
 refine zB 3 [(18, .bool ((a.cost.chk) != 0)), (20, .bool ((a.cost.chk) != 0)), (19, .int .i64 a.cost.chk)] A11 kr kr (fun a13 A13 => ?_)
 refine zE ?_
 refine zA (C12 _ _ ?_)
 refine zS ((a.cost.chk) != 0) A13 kr kr (fun hc14 => ?_) (fun hc14 => ?_)
 ·
  have A15 := A13.set 18 (v' := .bool true) kr rfl (zG hc14)
  have ht16 : (a.cost.chk) ≠ 0 := by simpa using hc14
  refine zD (fun K17 C17 => ?_)
  refine zC ?_
  refine zB 2 [(4, .int .i64 a.cost.chk), (21, .int .i64 a.cost.chk)] A15 kr kr (fun a18 A18 => ?_)
  refine zE ?_
  refine zA (C17 _ _ ?_)
  refine zQ ?_
  refine zU ?_
  refine zL ?_
  refine zR (v := .int .i64 a.cost.chk) (rs := [.tmp 4]) A18 kr (Res.tmp kr Res.nil) kr ?_
  exact ⟨j9.upd, _, rfl, vint (ca_cost ht16).symm⟩
 have A19 := A13.set 18 (v' := .bool false) kr rfl (zG hc14)
 have ht20 : (a.cost.chk) = 0 := by simpa using hc14
 have hc0 : a.cost.chk = 0 := by simpa using ht20
 refine zD (fun K21 C21 => ?_)
 refine zC ?_
 refine zB 1 [(23, .pointer (some ⟨b2, 3, none⟩))] A19 kr kr (fun a22 A22 => ?_)
 refine wplI A22 kr (zJ (d := 24) (v := .slice nx a.next.length cx) A22 kr (zF (t := 53) (g := false) (vs := [.slice nx a.next.length cx]) (ad := ⟨b2, 3, none⟩) rfl kr kr ir (j9.cells 0 rfl rfl)) ?_)
 intro a23 A23
 refine zB 3 [(22, .bool ((a.next.length : Int) == 0)), (26, .bool ((a.next.length : Int) == 0)), (25, .int .i64 (a.next.length : Int))] A23 kr kr (fun a24 A24 => ?_)
 refine zE ?_
 refine zA (C21 _ _ ?_)
 refine zS ((a.next.length : Int) == 0) A24 kr kr (fun hc25 => ?_) (fun hc25 => ?_)
 ·
  have A26 := A24.set 22 (v' := .bool true) kr rfl (zG hc25)
  have ht27 : (a.next.length : Int) = 0 := by simpa using hc25
  refine zD (fun K28 C28 => ?_)
  refine zC ?_
  refine zB 1 [(4, .int .i64 3)] A26 kr kr (fun a29 A29 => ?_)
  refine zE ?_
  refine zA (C28 _ _ ?_)
  refine zQ ?_
  refine zU ?_
  refine zL ?_
  refine zR (v := .int .i64 3) (rs := [.tmp 4]) A29 kr (Res.tmp kr Res.nil) kr ?_
  exact ⟨j9.upd, _, rfl, vint (ca_none hc0 (by omega)).symm⟩
 have A30 := A24.set 22 (v' := .bool false) kr rfl (zG hc25)
 have ht31 : (a.next.length : Int) ≠ 0 := by simpa using hc25
 have hl0 : a.next.length ≠ 0 := by omega
 refine zD (fun K32 C32 => ?_)
 refine zC ?_
 refine zB 1 [(28, .pointer (some ⟨b2, 3, none⟩))] A30 kr kr (fun a33 A33 => ?_)
 refine wplI A33 kr (zJ (d := 29) (v := .slice nx a.next.length cx) A33 kr (zF (t := 53) (g := false) (vs := [.slice nx a.next.length cx]) (ad := ⟨b2, 3, none⟩) rfl kr kr ir (j9.cells 0 rfl rfl)) ?_)
 intro a34 A34
 refine zB 3 [(27, .bool (decide ((a.next.length : Int) > 64))), (31, .bool (decide ((a.next.length : Int) > 64))), (30, .int .i64 (a.next.length : Int))] A34 kr kr (fun a35 A35 => ?_)
 refine zE ?_
 refine zA (C32 _ _ ?_)
 refine zS (decide ((a.next.length : Int) > 64)) A35 kr kr (fun hc36 => ?_) (fun hc36 => ?_)
 ·
  have A37 := A35.set 27 (v' := .bool true) kr rfl (zG hc36)
  have ht38 : (a.next.length : Int) > 64 := of_decide_eq_true hc36
  refine zD (fun K39 C39 => ?_)
  refine zC ?_
  refine zB 1 [(4, .int .i64 4)] A37 kr kr (fun a40 A40 => ?_)
  refine zE ?_
  refine zA (C39 _ _ ?_)
  refine zQ ?_
  refine zU ?_
  refine zL ?_
  refine zR (v := .int .i64 4) (rs := [.tmp 4]) A40 kr (Res.tmp kr Res.nil) kr ?_
  exact ⟨j9.upd, _, rfl, vint (ca_many hc0 (by omega)).symm⟩
 have A41 := A35.set 27 (v' := .bool false) kr rfl (zG hc36)
 have ht42 : ¬ ((a.next.length : Int) > 64) := of_decide_eq_false hc36
 have hl64 : a.next.length ≤ 64 := by omega
 refine i_skip ?_
 refine zW ?_
 refine zA (C5 _ _ ?_)
 refine zD (fun K43 C43 => ?_)
 refine zD (fun K44 C44 => ?_)
 refine zC ?_
 refine zB 1 [(32, .pointer (some ⟨b2, 3, none⟩))] A41 kr kr (fun a45 A45 => ?_)
 refine wplI A45 kr (zJ (d := 33) (v := .slice nx a.next.length cx) A45 kr (zF (t := 53) (g := false) (vs := [.slice nx a.next.length cx]) (ad := ⟨b2, 3, none⟩) rfl kr kr ir (j9.cells 0 rfl rfl)) ?_)
 intro a46 A46
 refine zB 2 [(35, .int .i64 0), (34, .int .i64 (a.next.length : Int))] A46 kr kr (fun a47 A47 => ?_)
 refine zE ?_
 refine zA (C44 _ _ ?_)
 refine zV ?_
 refine qC (fun (k : Nat) ac w1 => ∃ (Y1 : Hid), Fr 111 ac [(1, .int .i64 (n : Int)), (2, .pointer (some ⟨b2, 0, none⟩)), (33, .slice nx a.next.length cx), (34, .int .i64 (a.next.length : Int)), (35, .int .i64 (k : Int))] ∧ St E0 w X w1 Y1 [(b2, .cells #[.bool a.cost.neg, .slice ad len cap, .slice ae le ce, .slice nx a.next.length cx] 55 (0, 0))] ∧ Le (rd w9 Y2) (rd w1 Y1) ∧ (chkOuts n (prevOf a.next k) (a.next.drop k) = chkOuts n none a.next) ∧ (k ≤ a.next.length)) (fun (k : Nat) => a.next.length - k) 0 ?_ ?_
 ·
  refine ⟨_, A47.as [1, 2, 33, 34, 35] kr kr, j9, Le.refl _, rfl, Nat.zero_le _⟩
 rintro k a48 w48 ⟨Y48, A48, j48, q48, hp48_0, hp48_1⟩
 refine zD (fun K49 C49 => ?_)
 refine zC ?_
 refine zB 1 [(36, .bool (decide ((k : Int) < (a.next.length : Int))))] A48 kr kr (fun a50 A50 => ?_)
 refine zE ?_
 refine zA (C49 _ _ ?_)
 refine zD (fun K51 C51 => ?_)
 refine zS (decide ((k : Int) < (a.next.length : Int))) A50 kr kr (fun hc52 => ?_) (fun hc52 => ?_)
 ·
  have A53 := A50.set 36 (v' := .bool true) kr rfl (zG hc52)
  have ht54 : (k : Int) < (a.next.length : Int) := of_decide_eq_true hc52
  obtain ⟨b0, off0, rfl⟩ := hx.addr (by omega)
  obtain ⟨ox, anx, lnx, cnx, amx, lmx, cmx, hxx, hAx, hLx, hMx⟩ := hx.at (k := k) (by omega)
  refine i_skip ?_
  refine zA (C51 _ _ ?_)
  refine zD (fun K55 C55 => ?_)
  refine zV ?_
  refine zD (fun K56 C56 => ?_)
  refine zC ?_
  refine zB 1 [(37, .int .i64 (k : Int))] A53 kr kr (fun a57 A57 => ?_)
  refine wplI A57 kr (zJ (d := 38) (v := .pointer (some ⟨b0, off0 + k * 4, none⟩)) A57 kr (zP (t := 53) (e := 57) (b := b0) (off := off0) (len := a.next.length) (cap := cx) (kd := .i64) (i := (k : Int)) (g := true) (m := 4) (off' := off0 + k * 4) rfl kr kr kr kr (by omega) (by omega) (by first | rfl | omega | (simp; done) | (simp; omega)) _) ?_)
  intro a58 A58
  refine wplI A58 kr (zJ (d := 39) (v := .agg #[.int .i64 ox.to, .bool ox.p.neg, .slice anx lnx cnx, .slice amx lmx cmx]) A58 kr (zF (t := 57) (g := true) (vs := [.int .i64 ox.to, .bool ox.p.neg, .slice anx lnx cnx, .slice amx lmx cmx]) (ad := ⟨b0, off0 + k * 4, none⟩) rfl kr kr ir ((hAx.mono (Le3 q2 q9 q48))).cells) ?_)
  intro a59 A59
  refine wplI A59 kr (zN (d := 7) (fun b => .pointer (some ⟨b, 0, none⟩)) (.cells #[.int .i64 0, .bool false, .slice none 0 0, .slice none 0 0] 57 (0, 0)) A59 kr j48 kw ?_)
  intro b60 w60 Y60 j60 q60 hu60 a61 A61
  refine zB 1 [(6, .int .i64 (k : Int))] A61 kr kr (fun a62 A62 => ?_)
  refine wplI A62 kr (zO (t := 57) (b := b60) (off := 0) (c' := #[.int .i64 ox.to, .bool ox.p.neg, .slice anx lnx cnx, .slice amx lmx cmx]) (g := true) (m := 4) 0 _ A62 kr j60 rfl kr rfl kr kr kr rfl (by first | decide | (simp; done)) kr rfl ?_)
  intro w63 j63 q63
  refine zE ?_
  refine zA (C56 _ _ ?_)
  refine zD (fun K64 C64 => ?_)
  refine zV ?_
  refine zD (fun K65 C65 => ?_)
  refine zC ?_
  refine zB 1 [(41, .pointer (some ⟨b60, 0, none⟩))] A62 kr kr (fun a66 A66 => ?_)
  refine wplI A66 kr (zJ (d := 42) (v := .int .i64 ox.to) A66 kr (zF (t := 3) (g := false) (vs := [.int .i64 ox.to]) (ad := ⟨b60, 0, none⟩) rfl kr kr ir (j63.cells 0 rfl rfl)) ?_)
  intro a67 A67
  refine zB 2 [(44, .bool (decide ((ox.to) < 0))), (43, .bool (decide ((ox.to) < 0)))] A67 kr kr (fun a68 A68 => ?_)
  rcases Bool.eq_false_or_eq_true (decide ((ox.to) < 0)) with hc69 | hc69
  ·
   have A70 := A68.set 44 (v' := .bool true) kr rfl (zG hc69)
   have ht71 : (ox.to) < 0 := of_decide_eq_true hc69
   refine zB 6 [(40, .bool true), (49, .bool true), (48, undef), (47, undef), (46, undef), (45, undef)] A70 kr kr (fun a72 A72 => ?_)
   refine zE ?_
   refine zA (C65 _ _ ?_)
   refine qG A72 kr kr ?_
   refine zD (fun K73 C73 => ?_)
   refine zC ?_
   refine zB 1 [(4, .int .i64 8)] A72 kr kr (fun a74 A74 => ?_)
   refine zE ?_
   refine zA (C73 _ _ ?_)
   refine zQ ?_
   refine zU ?_
   refine zL ?_
   refine zU ?_
   refine zL ?_
   refine zL ?_
   refine zU ?_
   refine zL ?_
   refine zR (v := .int .i64 8) (rs := [.tmp 4]) A74 kr (Res.tmp kr Res.nil) kr ?_
   exact ⟨j63.upd, _, rfl, vint (ca_outs hc0 hl0 hl64 ((co_8 hxx (.inl ht71) _).symm.trans hp48_0) (by decide)).symm⟩
  have A75 := A68.set 44 (v' := .bool false) kr rfl (zG hc69)
  have ht76 : ¬ ((ox.to) < 0) := of_decide_eq_false hc69
  refine zB 1 [(45, .pointer (some ⟨b60, 0, none⟩))] A75 kr kr (fun a77 A77 => ?_)
  refine wplI A77 kr (zJ (d := 46) (v := .int .i64 ox.to) A77 kr (zF (t := 3) (g := false) (vs := [.int .i64 ox.to]) (ad := ⟨b60, 0, none⟩) rfl kr kr ir (j63.cells 0 rfl rfl)) ?_)
  intro a78 A78
  refine zB 4 [(40, .bool (decide ((ox.to) ≥ (n : Int)))), (49, .bool (decide ((ox.to) ≥ (n : Int)))), (48, .bool (decide ((ox.to) ≥ (n : Int)))), (47, .int .i64 (n : Int))] A78 kr kr (fun a79 A79 => ?_)
  refine zE ?_
  refine zA (C65 _ _ ?_)
  refine zS (decide ((ox.to) ≥ (n : Int))) A79 kr kr (fun hc80 => ?_) (fun hc80 => ?_)
  ·
   have A81 := A79.set 40 (v' := .bool true) kr rfl (zG hc80)
   have ht82 : (ox.to) ≥ (n : Int) := of_decide_eq_true hc80
   refine zD (fun K83 C83 => ?_)
   refine zC ?_
   refine zB 1 [(4, .int .i64 8)] A81 kr kr (fun a84 A84 => ?_)
   refine zE ?_
   refine zA (C83 _ _ ?_)
   refine zQ ?_
   refine zU ?_
   refine zL ?_
   refine zU ?_
   refine zL ?_
   refine zL ?_
   refine zU ?_
   refine zL ?_
   refine zR (v := .int .i64 8) (rs := [.tmp 4]) A84 kr (Res.tmp kr Res.nil) kr ?_
   exact ⟨j63.upd, _, rfl, vint (ca_outs hc0 hl0 hl64 ((co_8 hxx (.inr (by omega)) _).symm.trans hp48_0) (by decide)).symm⟩
  have A85 := A79.set 40 (v' := .bool false) kr rfl (zG hc80)
  have ht86 : ¬ ((ox.to) ≥ (n : Int)) := of_decide_eq_false hc80
  have hrange : ¬ (ox.to < 0 ∨ (n : Int) ≤ ox.to) := by omega
  refine zD (fun K87 C87 => ?_)
  rcases Nat.eq_zero_or_pos k with hk0 | hk0
  ·
   refine qD (N := 15) (Held []) [] kr kr kr j63 ?_
   intro w88 j88 q88 hu88
   refine zX (Held.nil _) (fun hH88 => ?_)
   refine zH (d := 51) (v := .int .i64 (k : Int)) 0 A85 rfl kr kr kw (fun _ => hH88) ?_
   intro a89 A89
   refine zH (d := 52) (v := .bool (decide ((k : Int) > 0))) 1 A89 rfl kr kr kw (fun _ => hH88) ?_
   intro a90 A90
   have A91 := A90.set 52 (v' := .bool false) kr rfl (zG (decide_eq_false (by omega)))
   refine zH (d := 53) (v := .bool false) 2 A91 rfl kr kr kw (fun _ => hH88) ?_
   intro a92 A92
   refine qE (d := 54) 3 A92 rfl kr kr (fun _ => hH88) ?_
   intro a93 A93
   refine qE (d := 55) 4 A93 rfl kr kr (fun _ => hH88) ?_
   intro a94 A94
   refine qE (d := 56) 5 A94 rfl kr kr (fun _ => hH88) ?_
   intro a95 A95
   refine qE (d := 57) 6 A95 rfl kr kr (fun _ => hH88) ?_
   intro a96 A96
   refine qE (d := 58) 7 A96 rfl kr kr (fun _ => hH88) ?_
   intro a97 A97
   refine qE (d := 59) 8 A97 rfl kr kr (fun _ => hH88) ?_
   intro a98 A98
   refine qE (d := 60) 9 A98 rfl kr kr (fun _ => hH88) ?_
   intro a99 A99
   refine qE (d := 61) 10 A99 rfl kr kr (fun _ => hH88) ?_
   intro a100 A100
   refine qE (d := 62) 11 A100 rfl kr kr (fun _ => hH88) ?_
   intro a101 A101
   refine qE (d := 63) 12 A101 rfl kr kr (fun _ => hH88) ?_
   intro a102 A102
   refine zH (d := 64) (v := .bool false) 13 A102 rfl kr kr kw (fun _ => hH88) ?_
   intro a103 A103
   refine zH (d := 50) (v := .bool false) 14 A103 rfl kr kr kw (fun _ => hH88) ?_
   intro a104 A104
   refine qB kr (nrm ?_)
   refine zA (C87 _ _ ?_)
   refine qH A104 kr kr ?_
   refine i_skip ?_
   refine zW ?_
   refine zA (C64 _ _ ?_)
   refine zD (fun K105 C105 => ?_)
   refine zC ?_
   refine zB 1 [(65, .pointer (some ⟨b60, 1, none⟩))] A104 kr kr (fun a106 A106 => ?_)
   refine wplI A106 kr (zJ (d := 66) (v := .agg #[.bool ox.p.neg, .slice anx lnx cnx, .slice amx lmx cmx]) A106 kr (zF (t := 25) (g := true) (vs := [.bool ox.p.neg, .slice anx lnx cnx, .slice amx lmx cmx]) (ad := ⟨b60, 1, none⟩) rfl kr kr ir (j88.cells 0 rfl rfl)) ?_)
   intro a107 A107
   refine wplI A107 kr (zK (d := 67) (f := 15) (cap := #[]) (vs := #[.agg #[.bool ox.p.neg, .slice anx lnx cnx, .slice amx lmx cmx]]) A107 kr j88 rfl kr kr (fun w => Try.call15 _ w) (rcheck_c _ _ j88.lt ox.p _ _ _ (hLx.mono (Le6 q2 q9 q48 q60 q63 q88)) _ _ _ (hMx.mono (Le6 q2 q9 q48 q60 q63 q88))) ?_)
   rintro v108 w108 j108 q108 hu108 rfl a109 A109
   refine zB 1 [(8, .int .i64 ox.p.chk)] A109 kr kr (fun a110 A110 => ?_)
   refine zE ?_
   refine zA (C105 _ _ ?_)
   refine zV ?_
   refine zD (fun K111 C111 => ?_)
   refine zC ?_
   refine zB 3 [(68, .bool ((ox.p.chk) != 0)), (70, .bool ((ox.p.chk) != 0)), (69, .int .i64 ox.p.chk)] A110 kr kr (fun a112 A112 => ?_)
   refine zE ?_
   refine zA (C111 _ _ ?_)
   refine zS ((ox.p.chk) != 0) A112 kr kr (fun hc113 => ?_) (fun hc113 => ?_)
   ·
    have A114 := A112.set 68 (v' := .bool true) kr rfl (zG hc113)
    have ht115 : (ox.p.chk) ≠ 0 := by simpa using hc113
    have hrest := co_rest hxx hrange (.inl hk0)
    refine zD (fun K116 C116 => ?_)
    refine zC ?_
    refine zB 2 [(4, .int .i64 ox.p.chk), (71, .int .i64 ox.p.chk)] A114 kr kr (fun a117 A117 => ?_)
    refine zE ?_
    refine zA (C116 _ _ ?_)
    refine zQ ?_
    refine zU ?_
    refine zU ?_
    refine zL ?_
    refine zL ?_
    refine zU ?_
    refine zL ?_
    refine zR (v := .int .i64 ox.p.chk) (rs := [.tmp 4]) A117 kr (Res.tmp kr Res.nil) kr ?_
    exact ⟨j108.upd, _, rfl, vint (ca_outs hc0 hl0 hl64 ((hrest.trans (if_pos ht115)).symm.trans hp48_0) ht115).symm⟩
   have A118 := A112.set 68 (v' := .bool false) kr rfl (zG hc113)
   have ht119 : (ox.p.chk) = 0 := by simpa using hc113
   have hrest := co_rest hxx hrange (.inl hk0)
   rw [if_neg (by simpa using ht119)] at hrest
   refine zD (fun K120 C120 => ?_)
   refine zC ?_
   refine zB 2 [(74, .pointer (some ⟨b60, 1, none⟩)), (73, .pointer (some ⟨b60, 1, none⟩))] A118 kr kr (fun a121 A121 => ?_)
   refine wplI A121 kr (zJ (d := 75) (v := .bool ox.p.neg) A121 kr (zF (t := 4) (g := false) (vs := [.bool ox.p.neg]) (ad := ⟨b60, 1, none⟩) rfl kr kr ir (j108.cells 0 rfl rfl)) ?_)
   intro a122 A122
   refine zB 1 [(76, .bool ox.p.neg)] A122 kr kr (fun a123 A123 => ?_)
   rcases Bool.eq_false_or_eq_true ox.p.neg with hc124 | hc124
   ·
    have A125 := A123.set 76 (v' := .bool true) kr rfl (zG hc124)
    have ht126 : ox.p.neg = true := by simpa using hc124
    refine zB 7 [(72, .bool true), (82, .bool true), (81, undef), (80, undef), (79, undef), (78, undef), (77, undef)] A125 kr kr (fun a127 A127 => ?_)
    refine zE ?_
    refine zA (C120 _ _ ?_)
    refine qG A127 kr kr ?_
    refine zD (fun K128 C128 => ?_)
    refine zC ?_
    refine zB 1 [(4, .int .i64 1)] A127 kr kr (fun a129 A129 => ?_)
    have A130 := A129.as [4] (L' := [(4, .int .i64 1)]) kr kr
    refine zE ?_
    refine zA (C128 _ _ ?_)
    refine zQ ?_
    refine zU ?_
    refine zU ?_
    refine zL ?_
    refine zL ?_
    refine zU ?_
    refine zL ?_
    refine zR (v := .int .i64 1) (rs := [.tmp 4]) A130 kr (Res.tmp kr Res.nil) kr ?_
    exact ⟨j108.upd, _, rfl, vint (ca_outs hc0 hl0 hl64 ((hrest.trans (if_pos (.inl ht126))).symm.trans hp48_0) (by decide)).symm⟩
   have A131 := A123.set 76 (v' := .bool false) kr rfl (zG hc124)
   have ht132 : ox.p.neg = false := by simpa using hc124
   refine zB 2 [(78, .pointer (some ⟨b60, 2, none⟩)), (77, .pointer (some ⟨b60, 1, none⟩))] A131 kr kr (fun a133 A133 => ?_)
   refine wplI A133 kr (zJ (d := 79) (v := .slice anx lnx cnx) A133 kr (zF (t := 23) (g := false) (vs := [.slice anx lnx cnx]) (ad := ⟨b60, 2, none⟩) rfl kr kr ir (j108.cells 0 rfl rfl)) ?_)
   intro a134 A134
   refine zB 4 [(72, .bool ((lnx : Int) == 0)), (82, .bool ((lnx : Int) == 0)), (81, .bool ((lnx : Int) == 0)), (80, .int .i64 (lnx : Int))] A134 kr kr (fun a135 A135 => ?_)
   refine zE ?_
   refine zA (C120 _ _ ?_)
   refine zS ((lnx : Int) == 0) A135 kr kr (fun hc136 => ?_) (fun hc136 => ?_)
   ·
    have A137 := A135.set 72 (v' := .bool true) kr rfl (zG hc136)
    have ht138 : (lnx : Int) = 0 := by simpa using hc136
    have hlnx := hLx.hlen
    refine zD (fun K139 C139 => ?_)
    refine zC ?_
    refine zB 1 [(4, .int .i64 1)] A137 kr kr (fun a140 A140 => ?_)
    have A141 := A140.as [4] (L' := [(4, .int .i64 1)]) kr kr
    refine zE ?_
    refine zA (C139 _ _ ?_)
    refine zQ ?_
    refine zU ?_
    refine zU ?_
    refine zL ?_
    refine zL ?_
    refine zU ?_
    refine zL ?_
    refine zR (v := .int .i64 1) (rs := [.tmp 4]) A141 kr (Res.tmp kr Res.nil) kr ?_
    exact ⟨j108.upd, _, rfl, vint (ca_outs hc0 hl0 hl64 ((hrest.trans (if_pos (.inr (by omega)))).symm.trans hp48_0) (by decide)).symm⟩
   have A142 := A135.set 72 (v' := .bool false) kr rfl (zG hc136)
   have ht143 : (lnx : Int) ≠ 0 := by simpa using hc136
   have hlnx := hLx.hlen
   have hnext := hrest.trans (if_neg (by rintro (e | e); rw [ht132] at e; cases e; omega))
   refine i_skip ?_
   refine zW ?_
   refine zW ?_
   refine zA (C55 _ _ ?_)
   refine zC ?_
   refine zB 1 [(83, .int .i64 (IntKind.i64.wrap ((k : Int) + 1)))] A142 kr kr (fun a144 A144 => ?_)
   have A145 := A144.set 83 (v' := .int .i64 ((k : Int) + 1)) kr rfl (vint (wi64 (by omega) (by omega)))
   refine zB 1 [(35, .int .i64 ((k : Int) + 1))] A145 kr kr (fun a146 A146 => ?_)
   have A147 := A146.as [1, 2, 33, 34, 35] (L' := [(1, .int .i64 (n : Int)), (2, .pointer (some ⟨b2, 0, none⟩)), (33, .slice (some ⟨b0, off0, none⟩) a.next.length cx), (34, .int .i64 (a.next.length : Int)), (35, .int .i64 ((k : Int) + 1))]) kr kr
   refine zE ?_
   refine zA ?_
   refine ⟨k + 1, ⟨_, A147.as [1, 2, 33, 34, 35] kr kr, j108.tail, (Le5 q48 q60 q63 q88 q108), hnext.symm.trans hp48_0, by omega⟩, ?_⟩
   first | omega | (simp; omega)
  ·
   obtain ⟨oq, anq, lnq, cnq, amq, lmq, cmq, hxq, hAq, hLq, hMq⟩ := hx.at (k := (k - 1)) (by omega)
   have hA1 : At (rd w X) ⟨b0, off0 + (k - 1) * 4, none⟩ [.int .i64 oq.to] := hAq.one (i := 0) rfl
   have hJ9001 : ∀ a9001 w9001, (∃ (Y9001 : Hid), Fr 111 a9001 [(1, .int .i64 (n : Int)), (2, .pointer (some ⟨b2, 0, none⟩)), (7, .pointer (some ⟨b60, 0, none⟩)), (33, .slice (some ⟨b0, off0, none⟩) a.next.length cx), (34, .int .i64 (a.next.length : Int)), (35, .int .i64 (k : Int)), (50, .bool (decide ((ox.to) ≤ oq.to)))] ∧ St E0 w X w9001 Y9001 [(b60, .cells #[.int .i64 ox.to, .bool ox.p.neg, .slice anx lnx cnx, .slice amx lmx cmx] 57 (0, 0)), (b2, .cells #[.bool a.cost.neg, .slice ad len cap, .slice ae le ce, .slice (some ⟨b0, off0, none⟩) a.next.length cx] 55 (0, 0))] ∧ Le (rd w63 Y60) (rd w9001 Y9001)) → K87 a9001 w9001 := by
    rintro a9001 w9001 ⟨Y9001, A9001, j9001, q9001⟩
    refine C87 _ _ ?_
    refine zS (decide ((ox.to) ≤ oq.to)) A9001 kr kr (fun hc166 => ?_) (fun hc166 => ?_)
    ·
     have A167 := A9001.set 50 (v' := .bool true) kr rfl (zG hc166)
     have ht168 : (ox.to) ≤ oq.to := of_decide_eq_true hc166
     refine zD (fun K169 C169 => ?_)
     refine zC ?_
     refine zB 1 [(4, .int .i64 16)] A167 kr kr (fun a170 A170 => ?_)
     refine zE ?_
     refine zA (C169 _ _ ?_)
     refine zQ ?_
     refine zU ?_
     refine zL ?_
     refine zU ?_
     refine zL ?_
     refine zL ?_
     refine zU ?_
     refine zL ?_
     refine zR (v := .int .i64 16) (rs := [.tmp 4]) A170 kr (Res.tmp kr Res.nil) kr ?_
     exact ⟨j9001.upd, _, rfl, vint (ca_outs hc0 hl0 hl64 ((co_16 hxx hrange (by omega) hxq ht168).symm.trans hp48_0) (by decide)).symm⟩
    have A171 := A9001.set 50 (v' := .bool false) kr rfl (zG hc166)
    have ht172 : ¬ ((ox.to) ≤ oq.to) := of_decide_eq_false hc166
    have hrest := co_rest hxx hrange (.inr ⟨_, hxq, ht172⟩)
    refine i_skip ?_
    refine zW ?_
    refine zA (C64 _ _ ?_)
    refine zD (fun K173 C173 => ?_)
    refine zC ?_
    refine zB 1 [(65, .pointer (some ⟨b60, 1, none⟩))] A171 kr kr (fun a174 A174 => ?_)
    refine wplI A174 kr (zJ (d := 66) (v := .agg #[.bool ox.p.neg, .slice anx lnx cnx, .slice amx lmx cmx]) A174 kr (zF (t := 25) (g := true) (vs := [.bool ox.p.neg, .slice anx lnx cnx, .slice amx lmx cmx]) (ad := ⟨b60, 1, none⟩) rfl kr kr ir (j9001.cells 0 rfl rfl)) ?_)
    intro a175 A175
    refine wplI A175 kr (zK (d := 67) (f := 15) (cap := #[]) (vs := #[.agg #[.bool ox.p.neg, .slice anx lnx cnx, .slice amx lmx cmx]]) A175 kr j9001 rfl kr kr (fun w => Try.call15 _ w) (rcheck_c _ _ j9001.lt ox.p _ _ _ (hLx.mono (Le6 q2 q9 q48 q60 q63 q9001)) _ _ _ (hMx.mono (Le6 q2 q9 q48 q60 q63 q9001))) ?_)
    rintro v176 w176 j176 q176 hu176 rfl a177 A177
    refine zB 1 [(8, .int .i64 ox.p.chk)] A177 kr kr (fun a178 A178 => ?_)
    refine zE ?_
    refine zA (C173 _ _ ?_)
    refine zV ?_
    refine zD (fun K179 C179 => ?_)
    refine zC ?_
    refine zB 3 [(68, .bool ((ox.p.chk) != 0)), (70, .bool ((ox.p.chk) != 0)), (69, .int .i64 ox.p.chk)] A178 kr kr (fun a180 A180 => ?_)
    refine zE ?_
    refine zA (C179 _ _ ?_)
    refine zS ((ox.p.chk) != 0) A180 kr kr (fun hc181 => ?_) (fun hc181 => ?_)
    ·
     have A182 := A180.set 68 (v' := .bool true) kr rfl (zG hc181)
     have ht183 : (ox.p.chk) ≠ 0 := by simpa using hc181
     refine zD (fun K184 C184 => ?_)
     refine zC ?_
     refine zB 2 [(4, .int .i64 ox.p.chk), (71, .int .i64 ox.p.chk)] A182 kr kr (fun a185 A185 => ?_)
     refine zE ?_
     refine zA (C184 _ _ ?_)
     refine zQ ?_
     refine zU ?_
     refine zU ?_
     refine zL ?_
     refine zL ?_
     refine zU ?_
     refine zL ?_
     refine zR (v := .int .i64 ox.p.chk) (rs := [.tmp 4]) A185 kr (Res.tmp kr Res.nil) kr ?_
     exact ⟨j176.upd, _, rfl, vint (ca_outs hc0 hl0 hl64 ((hrest.trans (if_pos ht183)).symm.trans hp48_0) ht183).symm⟩
    have A186 := A180.set 68 (v' := .bool false) kr rfl (zG hc181)
    have ht187 : (ox.p.chk) = 0 := by simpa using hc181
    rw [if_neg (by simpa using ht187)] at hrest
    refine zD (fun K188 C188 => ?_)
    refine zC ?_
    refine zB 2 [(74, .pointer (some ⟨b60, 1, none⟩)), (73, .pointer (some ⟨b60, 1, none⟩))] A186 kr kr (fun a189 A189 => ?_)
    refine wplI A189 kr (zJ (d := 75) (v := .bool ox.p.neg) A189 kr (zF (t := 4) (g := false) (vs := [.bool ox.p.neg]) (ad := ⟨b60, 1, none⟩) rfl kr kr ir (j176.cells 0 rfl rfl)) ?_)
    intro a190 A190
    refine zB 1 [(76, .bool ox.p.neg)] A190 kr kr (fun a191 A191 => ?_)
    rcases Bool.eq_false_or_eq_true ox.p.neg with hc192 | hc192
    ·
     have A193 := A191.set 76 (v' := .bool true) kr rfl (zG hc192)
     have ht194 : ox.p.neg = true := by simpa using hc192
     refine zB 7 [(72, .bool true), (82, .bool true), (81, undef), (80, undef), (79, undef), (78, undef), (77, undef)] A193 kr kr (fun a195 A195 => ?_)
     refine zE ?_
     refine zA (C188 _ _ ?_)
     refine qG A195 kr kr ?_
     refine zD (fun K196 C196 => ?_)
     refine zC ?_
     refine zB 1 [(4, .int .i64 1)] A195 kr kr (fun a197 A197 => ?_)
     refine zE ?_
     refine zA (C196 _ _ ?_)
     refine zQ ?_
     refine zU ?_
     refine zU ?_
     refine zL ?_
     refine zL ?_
     refine zU ?_
     refine zL ?_
     refine zR (v := .int .i64 1) (rs := [.tmp 4]) A197 kr (Res.tmp kr Res.nil) kr ?_
     exact ⟨j176.upd, _, rfl, vint (ca_outs hc0 hl0 hl64 ((hrest.trans (if_pos (.inl ht194))).symm.trans hp48_0) (by decide)).symm⟩
    have A198 := A191.set 76 (v' := .bool false) kr rfl (zG hc192)
    have ht199 : ox.p.neg = false := by simpa using hc192
    refine zB 2 [(78, .pointer (some ⟨b60, 2, none⟩)), (77, .pointer (some ⟨b60, 1, none⟩))] A198 kr kr (fun a200 A200 => ?_)
    refine wplI A200 kr (zJ (d := 79) (v := .slice anx lnx cnx) A200 kr (zF (t := 23) (g := false) (vs := [.slice anx lnx cnx]) (ad := ⟨b60, 2, none⟩) rfl kr kr ir (j176.cells 0 rfl rfl)) ?_)
    intro a201 A201
    refine zB 4 [(72, .bool ((lnx : Int) == 0)), (82, .bool ((lnx : Int) == 0)), (81, .bool ((lnx : Int) == 0)), (80, .int .i64 (lnx : Int))] A201 kr kr (fun a202 A202 => ?_)
    refine zE ?_
    refine zA (C188 _ _ ?_)
    refine zS ((lnx : Int) == 0) A202 kr kr (fun hc203 => ?_) (fun hc203 => ?_)
    ·
     have A204 := A202.set 72 (v' := .bool true) kr rfl (zG hc203)
     have ht205 : (lnx : Int) = 0 := by simpa using hc203
     have hlnx := hLx.hlen
     refine zD (fun K206 C206 => ?_)
     refine zC ?_
     refine zB 1 [(4, .int .i64 1)] A204 kr kr (fun a207 A207 => ?_)
     refine zE ?_
     refine zA (C206 _ _ ?_)
     refine zQ ?_
     refine zU ?_
     refine zU ?_
     refine zL ?_
     refine zL ?_
     refine zU ?_
     refine zL ?_
     refine zR (v := .int .i64 1) (rs := [.tmp 4]) A207 kr (Res.tmp kr Res.nil) kr ?_
     exact ⟨j176.upd, _, rfl, vint (ca_outs hc0 hl0 hl64 ((hrest.trans (if_pos (.inr (by omega)))).symm.trans hp48_0) (by decide)).symm⟩
    have A208 := A202.set 72 (v' := .bool false) kr rfl (zG hc203)
    have ht209 : (lnx : Int) ≠ 0 := by simpa using hc203
    have hlnx := hLx.hlen
    have hnext := hrest.trans (if_neg (by rintro (e | e); rw [ht199] at e; cases e; omega))
    refine i_skip ?_
    refine zW ?_
    refine zW ?_
    refine zA (C55 _ _ ?_)
    refine zC ?_
    refine zB 1 [(83, .int .i64 (IntKind.i64.wrap ((k : Int) + 1)))] A208 kr kr (fun a210 A210 => ?_)
    have A211 := A210.set 83 (v' := .int .i64 ((k : Int) + 1)) kr rfl (vint (wi64 (by omega) (by omega)))
    refine zB 1 [(35, .int .i64 ((k : Int) + 1))] A211 kr kr (fun a212 A212 => ?_)
    refine zE ?_
    refine zA ?_
    refine ⟨k + 1, ⟨_, A212.as [1, 2, 33, 34, 35] kr kr, j176.tail, (Le5 q48 q60 q63 q9001 q176), hnext.symm.trans hp48_0, by omega⟩, ?_⟩
    first | omega | (simp; omega)
   refine qD (N := 15) (Held []) [] kr kr kr j63 ?_
   intro w148 j148 q148 hu148
   refine zX (Held.nil _) (fun hH148 => ?_)
   refine zH (d := 51) (v := .int .i64 (k : Int)) 0 A85 rfl kr kr kw (fun _ => hH148) ?_
   intro a149 A149
   refine zH (d := 52) (v := .bool (decide ((k : Int) > 0))) 1 A149 rfl kr kr kw (fun _ => hH148) ?_
   intro a150 A150
   have A151 := A150.set 52 (v' := .bool true) kr rfl (zG (decide_eq_true (by omega)))
   refine zH (d := 53) (v := .bool true) 2 A151 rfl kr kr kw (fun _ => hH148) ?_
   intro a152 A152
   refine zH (d := 54) (v := .pointer (some ⟨b60, 0, none⟩)) 3 A152 rfl kr kr kw (fun _ => hH148) ?_
   intro a153 A153
   refine zH (d := 56) (v := .pointer (some ⟨b2, 3, none⟩)) 5 A153 rfl kr kr kw (fun _ => hH148) ?_
   intro a154 A154
   refine zH (d := 58) (v := .int .i64 (k : Int)) 7 A154 rfl kr kr kw (fun _ => hH148) ?_
   intro a155 A155
   refine zH (d := 59) (v := .int .i64 (IntKind.i64.wrap ((k : Int) - 1))) 8 A155 rfl kr kr kw (fun _ => hH148) ?_
   intro a156 A156
   have A157 := A156.set 59 (v' := .int .i64 ((k - 1 : Nat) : Int)) kr rfl (vint ((wi64 (by omega) (by omega)).trans (by omega)))
   refine zM [4, 6] kr rfl ?_
   refine ForkT.cons (i := 4) A157 rfl kr ?_ ?_
   ·
    refine zJ (d := 55) (v := .int .i64 ox.to) A157 kr (zF (t := 3) (g := false) (vs := [.int .i64 ox.to]) (ad := ⟨b60, 0, none⟩) rfl kr kr ir (j148.cells 0 rfl rfl)) ?_
    intro a158 A158
    refine zI (Held.nil _) (fun hH148 => ?_)
    refine zM [6] kr rfl ?_
    refine ForkT.cons (i := 6) A158 rfl kr (zJ (d := 57) (v := .slice (some ⟨b0, off0, none⟩) a.next.length cx) A158 kr (zF (t := 53) (g := false) (vs := [.slice (some ⟨b0, off0, none⟩) a.next.length cx]) (ad := ⟨b2, 3, none⟩) rfl kr kr ir (j148.cells 1 rfl rfl)) ?_) ForkT.nil
    intro a159 A159
    refine zI (Held.nil _) (fun hH148 => ?_)
    refine zH (d := 60) (v := .pointer (some ⟨b0, off0 + (k - 1) * 4, none⟩)) 9 A159 rfl kr kr (fun w => zP (t := 53) (e := 57) (b := b0) (off := off0) (len := a.next.length) (cap := cx) (kd := .i64) (i := ((k - 1 : Nat) : Int)) (g := true) (m := 4) (off' := off0 + (k - 1) * 4) rfl kr kr kr kr (by omega) (by omega) (by first | rfl | omega | (simp; done) | (simp; omega)) w) (fun _ => hH148) ?_
    intro a160 A160
    refine zH (d := 61) (v := .pointer (some ⟨b0, off0 + (k - 1) * 4, none⟩)) 10 A160 rfl kr kr kw (fun _ => hH148) ?_
    intro a161 A161
    refine zM [11] kr rfl ?_
    refine ForkT.cons (i := 11) A161 rfl kr (zJ (d := 62) (v := .int .i64 oq.to) A161 kr (zF (t := 3) (g := false) (vs := [.int .i64 oq.to]) (ad := ⟨b0, off0 + (k - 1) * 4, none⟩) rfl kr kr ir ((hA1.mono (Le6 q2 q9 q48 q60 q63 q148))).cells) ?_) ForkT.nil
    intro a162 A162
    refine zI (Held.nil _) (fun hH148 => ?_)
    refine zH (d := 63) (v := .bool (decide ((ox.to) ≤ oq.to))) 12 A162 rfl kr kr kw (fun _ => hH148) ?_
    intro a163 A163
    refine zH (d := 64) (v := .bool (decide ((ox.to) ≤ oq.to))) 13 A163 rfl kr kr kw (fun _ => hH148) ?_
    intro a164 A164
    refine zH (d := 50) (v := .bool (decide ((ox.to) ≤ oq.to))) 14 A164 rfl kr kr kw (fun _ => hH148) ?_
    intro a165 A165
    refine qB kr (nrm ?_)
    exact zA (hJ9001 _ _ ⟨_, A165.as [1, 2, 7, 33, 34, 35, 50] kr kr, j148, q148⟩)
   refine ForkT.cons (i := 6) A157 rfl kr (zJ (d := 57) (v := .slice (some ⟨b0, off0, none⟩) a.next.length cx) A157 kr (zF (t := 53) (g := false) (vs := [.slice (some ⟨b0, off0, none⟩) a.next.length cx]) (ad := ⟨b2, 3, none⟩) rfl kr kr ir (j148.cells 1 rfl rfl)) ?_) ForkT.nil
   intro a166 A166
   refine zI (Held.nil _) (fun hH148 => ?_)
   refine zH (d := 60) (v := .pointer (some ⟨b0, off0 + (k - 1) * 4, none⟩)) 9 A166 rfl kr kr (fun w => zP (t := 53) (e := 57) (b := b0) (off := off0) (len := a.next.length) (cap := cx) (kd := .i64) (i := ((k - 1 : Nat) : Int)) (g := true) (m := 4) (off' := off0 + (k - 1) * 4) rfl kr kr kr kr (by omega) (by omega) (by first | rfl | omega | (simp; done) | (simp; omega)) w) (fun _ => hH148) ?_
   intro a167 A167
   refine zH (d := 61) (v := .pointer (some ⟨b0, off0 + (k - 1) * 4, none⟩)) 10 A167 rfl kr kr kw (fun _ => hH148) ?_
   intro a168 A168
   refine zM [4, 11] kr rfl ?_
   refine ForkT.cons (i := 4) A168 rfl kr ?_ ?_
   ·
    refine zJ (d := 55) (v := .int .i64 ox.to) A168 kr (zF (t := 3) (g := false) (vs := [.int .i64 ox.to]) (ad := ⟨b60, 0, none⟩) rfl kr kr ir (j148.cells 0 rfl rfl)) ?_
    intro a169 A169
    refine zI (Held.nil _) (fun hH148 => ?_)
    refine zM [11] kr rfl ?_
    refine ForkT.cons (i := 11) A169 rfl kr (zJ (d := 62) (v := .int .i64 oq.to) A169 kr (zF (t := 3) (g := false) (vs := [.int .i64 oq.to]) (ad := ⟨b0, off0 + (k - 1) * 4, none⟩) rfl kr kr ir ((hA1.mono (Le6 q2 q9 q48 q60 q63 q148))).cells) ?_) ForkT.nil
    intro a170 A170
    refine zI (Held.nil _) (fun hH148 => ?_)
    refine zH (d := 63) (v := .bool (decide ((ox.to) ≤ oq.to))) 12 A170 rfl kr kr kw (fun _ => hH148) ?_
    intro a171 A171
    refine zH (d := 64) (v := .bool (decide ((ox.to) ≤ oq.to))) 13 A171 rfl kr kr kw (fun _ => hH148) ?_
    intro a172 A172
    refine zH (d := 50) (v := .bool (decide ((ox.to) ≤ oq.to))) 14 A172 rfl kr kr kw (fun _ => hH148) ?_
    intro a173 A173
    refine qB kr (nrm ?_)
    exact zA (hJ9001 _ _ ⟨_, A173.as [1, 2, 7, 33, 34, 35, 50] kr kr, j148, q148⟩)
   refine ForkT.cons (i := 11) A168 rfl kr (zJ (d := 62) (v := .int .i64 oq.to) A168 kr (zF (t := 3) (g := false) (vs := [.int .i64 oq.to]) (ad := ⟨b0, off0 + (k - 1) * 4, none⟩) rfl kr kr ir ((hA1.mono (Le6 q2 q9 q48 q60 q63 q148))).cells) ?_) ForkT.nil
   intro a174 A174
   refine zI (Held.nil _) (fun hH148 => ?_)
   refine zM [4] kr rfl ?_
   refine ForkT.cons (i := 4) A174 rfl kr (zJ (d := 55) (v := .int .i64 ox.to) A174 kr (zF (t := 3) (g := false) (vs := [.int .i64 ox.to]) (ad := ⟨b60, 0, none⟩) rfl kr kr ir (j148.cells 0 rfl rfl)) ?_) ForkT.nil
   intro a175 A175
   refine zI (Held.nil _) (fun hH148 => ?_)
   refine zH (d := 63) (v := .bool (decide ((ox.to) ≤ oq.to))) 12 A175 rfl kr kr kw (fun _ => hH148) ?_
   intro a176 A176
   refine zH (d := 64) (v := .bool (decide ((ox.to) ≤ oq.to))) 13 A176 rfl kr kr kw (fun _ => hH148) ?_
   intro a177 A177
   refine zH (d := 50) (v := .bool (decide ((ox.to) ≤ oq.to))) 14 A177 rfl kr kr kw (fun _ => hH148) ?_
   intro a178 A178
   refine qB kr (nrm ?_)
   exact zA (hJ9001 _ _ ⟨_, A178.as [1, 2, 7, 33, 34, 35, 50] kr kr, j148, q148⟩)
 have A179 := A50.set 36 (v' := .bool false) kr rfl (zG hc52)
 have ht180 : ¬ ((k : Int) < (a.next.length : Int)) := of_decide_eq_false hc52
 have hco : chkOuts n none a.next = 0 := hp48_0.symm.trans (co_end (by omega))
 refine i_exit ?_
 refine zT ?_
 refine zT ?_
 refine qA ?_
 refine zA (C43 _ _ ?_)
 refine zD (fun K181 C181 => ?_)
 refine zC ?_
 refine zB 1 [(84, .agg #[.bool false, .slice none 0 0, .slice none 0 0])] A179 kr kr (fun a182 A182 => ?_)
 refine wplI A182 kr (zN (d := 9) (fun b => .pointer (some ⟨b, 0, none⟩)) (.cells #[.bool false, .slice none 0 0, .slice none 0 0] 25 (0, 0)) A182 kr j48 kw ?_)
 intro b183 w183 Y183 j183 q183 hu183 a184 A184
 refine wplI A184 kr (zO (t := 25) (b := b183) (off := 0) (c' := #[.bool false, .slice none 0 0, .slice none 0 0]) (g := true) (m := 3) 0 _ A184 kr j183 rfl kr rfl kr kr kr rfl (by first | decide | (simp; done)) kr rfl ?_)
 intro w185 j185 q185
 refine zB 1 [(10, .int .i64 0)] A184 kr kr (fun a186 A186 => ?_)
 refine zE ?_
 refine zA (C181 _ _ ?_)
 refine zD (fun K187 C187 => ?_)
 refine zD (fun K188 C188 => ?_)
 refine zC ?_
 refine zB 1 [(85, .pointer (some ⟨b2, 3, none⟩))] A186 kr kr (fun a189 A189 => ?_)
 refine wplI A189 kr (zJ (d := 86) (v := .slice nx a.next.length cx) A189 kr (zF (t := 53) (g := false) (vs := [.slice nx a.next.length cx]) (ad := ⟨b2, 3, none⟩) rfl kr kr ir (j185.cells 1 rfl rfl)) ?_)
 intro a190 A190
 refine zB 2 [(88, .int .i64 0), (87, .int .i64 (a.next.length : Int))] A190 kr kr (fun a191 A191 => ?_)
 refine zE ?_
 refine zA (C188 _ _ ?_)
 refine zV ?_
 refine qC (fun (k : Nat) ac w1 => ∃ (Y1 : Hid) (r : Raw) (ar : Option Addr) (lr : Nat) (cr : Nat) (br : Option Addr) (mr : Nat) (dr : Nat), Fr 111 ac [(9, .pointer (some ⟨b183, 0, none⟩)), (86, .slice nx a.next.length cx), (87, .int .i64 (a.next.length : Int)), (88, .int .i64 (k : Int))] ∧ St E0 w X w1 Y1 [(b183, .cells #[.bool r.neg, .slice ar lr cr, .slice br mr dr] 25 (0, 0)), (b2, .cells #[.bool a.cost.neg, .slice ad len cap, .slice ae le ce, .slice nx a.next.length cx] 55 (0, 0))] ∧ Le (rd w185 Y183) (rd w1 Y1) ∧ (Limbs (rd w1 Y1) ar lr cr r.ln) ∧ (Limbs (rd w1 Y1) br mr dr r.ld) ∧ (addL r ((a.next.map (·.p)).drop k) = addL .zero (a.next.map (·.p))) ∧ (k ≤ a.next.length)) (fun (k : Nat) => a.next.length - k) 0 ?_ ?_
 ·
  refine ⟨_, .zero, none, 0, 0, none, 0, 0, A191.as [9, 86, 87, 88] kr kr, j185, Le.refl _, Limbs.nil none (by omega), Limbs.nil none (by omega), rfl, Nat.zero_le _⟩
 rintro k a192 w192 ⟨Y192, r, ar, lr, cr, br, mr, dr, A192, j192, q192, hp192_0, hp192_1, hp192_2, hp192_3⟩
 refine zD (fun K193 C193 => ?_)
 refine zC ?_
 refine zB 1 [(89, .bool (decide ((k : Int) < (a.next.length : Int))))] A192 kr kr (fun a194 A194 => ?_)
 refine zE ?_
 refine zA (C193 _ _ ?_)
 refine zD (fun K195 C195 => ?_)
 refine zS (decide ((k : Int) < (a.next.length : Int))) A194 kr kr (fun hc196 => ?_) (fun hc196 => ?_)
 ·
  have A197 := A194.set 89 (v' := .bool true) kr rfl (zG hc196)
  have ht198 : (k : Int) < (a.next.length : Int) := of_decide_eq_true hc196
  obtain ⟨b0, off0, rfl⟩ := hx.addr (by omega)
  obtain ⟨ox, anx, lnx, cnx, amx, lmx, cmx, hxx, hAx, hLx, hMx⟩ := hx.at (k := k) (by omega)
  have hmx : (a.next.map (·.p))[k]? = some ox.p := by rw [List.getElem?_map, hxx]; rfl
  refine i_skip ?_
  refine zA (C195 _ _ ?_)
  refine zD (fun K199 C199 => ?_)
  refine zV ?_
  refine zD (fun K200 C200 => ?_)
  refine zC ?_
  refine wplI A197 kr (zJ (d := 90) (v := .pointer (some ⟨b0, off0 + k * 4, none⟩)) A197 kr (zP (t := 53) (e := 57) (b := b0) (off := off0) (len := a.next.length) (cap := cx) (kd := .i64) (i := (k : Int)) (g := true) (m := 4) (off' := off0 + k * 4) rfl kr kr kr kr (by omega) (by omega) (by first | rfl | omega | (simp; done) | (simp; omega)) _) ?_)
  intro a201 A201
  refine wplI A201 kr (zJ (d := 91) (v := .agg #[.int .i64 ox.to, .bool ox.p.neg, .slice anx lnx cnx, .slice amx lmx cmx]) A201 kr (zF (t := 57) (g := true) (vs := [.int .i64 ox.to, .bool ox.p.neg, .slice anx lnx cnx, .slice amx lmx cmx]) (ad := ⟨b0, off0 + k * 4, none⟩) rfl kr kr ir ((hAx.mono (Le6 q2 q9 q48 q183 q185 q192))).cells) ?_)
  intro a202 A202
  refine wplI A202 kr (zN (d := 12) (fun b => .pointer (some ⟨b, 0, none⟩)) (.cells #[.int .i64 0, .bool false, .slice none 0 0, .slice none 0 0] 57 (0, 0)) A202 kr j192 kw ?_)
  intro b203 w203 Y203 j203 q203 hu203 a204 A204
  refine wplI A204 kr (zO (t := 57) (b := b203) (off := 0) (c' := #[.int .i64 ox.to, .bool ox.p.neg, .slice anx lnx cnx, .slice amx lmx cmx]) (g := true) (m := 4) 0 _ A204 kr j203 rfl kr rfl kr kr kr rfl (by first | decide | (simp; done)) kr rfl ?_)
  intro w205 j205 q205
  refine zE ?_
  refine zA (C200 _ _ ?_)
  refine zD (fun K206 C206 => ?_)
  refine zC ?_
  refine wplI A204 kr (zJ (d := 93) (v := .agg #[.bool r.neg, .slice ar lr cr, .slice br mr dr]) A204 kr (zF (t := 25) (g := true) (vs := [.bool r.neg, .slice ar lr cr, .slice br mr dr]) (ad := ⟨b183, 0, none⟩) rfl kr kr ir (j205.cells 1 rfl rfl)) ?_)
  intro a207 A207
  refine zB 1 [(94, .pointer (some ⟨b203, 1, none⟩))] A207 kr kr (fun a208 A208 => ?_)
  refine wplI A208 kr (zJ (d := 95) (v := .agg #[.bool ox.p.neg, .slice anx lnx cnx, .slice amx lmx cmx]) A208 kr (zF (t := 25) (g := true) (vs := [.bool ox.p.neg, .slice anx lnx cnx, .slice amx lmx cmx]) (ad := ⟨b203, 1, none⟩) rfl kr kr ir (j205.cells 0 rfl rfl)) ?_)
  intro a209 A209
  refine wplI A209 kr (zK (d := 96) (f := 16) (cap := #[]) (vs := #[.agg #[.bool r.neg, .slice ar lr cr, .slice br mr dr], .agg #[.bool ox.p.neg, .slice anx lnx cnx, .slice amx lmx cmx]]) A209 kr j205 rfl kr kr (fun w => Try.call16 _ w) (rAdd_c _ _ j205.lt r _ _ _ (hp192_0.mono (Le2 q203 q205)) _ _ _ (hp192_1.mono (Le2 q203 q205)) ox.p _ _ _ (hLx.mono (Le8 q2 q9 q48 q183 q185 q192 q203 q205)) _ _ _ (hMx.mono (Le8 q2 q9 q48 q183 q185 q192 q203 q205))) ?_)
  rintro v210 w210 j210 q210 hu210 ⟨u210, rfl, ⟨ad210, len210, cap210, ae210, le210, ce210, rfl, hN210, hD210⟩⟩ a211 A211
  refine zB 3 [(98, .int .i64 (opE r ox.p (r.rat + ox.p.rat))), (97, .agg #[.bool ((opR r ox.p (r.rat + ox.p.rat)).neg), .slice ad210 len210 cap210, .slice ae210 le210 ce210]), (92, .tuple #[.agg #[.bool ((opR r ox.p (r.rat + ox.p.rat)).neg), .slice ad210 len210 cap210, .slice ae210 le210 ce210], .int .i64 (opE r ox.p (r.rat + ox.p.rat))])] A211 kr kr (fun a212 A212 => ?_)
  refine wplI A212 kr (zO (t := 25) (b := b183) (off := 0) (c' := #[.bool ((opR r ox.p (r.rat + ox.p.rat)).neg), .slice ad210 len210 cap210, .slice ae210 le210 ce210]) (g := true) (m := 3) 1 _ A212 kr j210 rfl kr rfl kr kr kr rfl (by first | decide | (simp; done)) kr rfl ?_)
  intro w213 j213 q213
  refine zB 1 [(10, .int .i64 (opE r ox.p (r.rat + ox.p.rat)))] A212 kr kr (fun a214 A214 => ?_)
  refine zE ?_
  refine zA (C206 _ _ ?_)
  refine zD (fun K215 C215 => ?_)
  refine zC ?_
  refine zB 2 [(100, .bool ((opE r ox.p (r.rat + ox.p.rat)) != 0)), (99, .int .i64 (opE r ox.p (r.rat + ox.p.rat)))] A214 kr kr (fun a216 A216 => ?_)
  refine zE ?_
  refine zA (C215 _ _ ?_)
  refine zS ((opE r ox.p (r.rat + ox.p.rat)) != 0) A216 kr kr (fun hc217 => ?_) (fun hc217 => ?_)
  ·
   have A218 := A216.set 100 (v' := .bool true) kr rfl (zG hc217)
   have ht219 : (opE r ox.p (r.rat + ox.p.rat)) ≠ 0 := by simpa using hc217
   refine zD (fun K220 C220 => ?_)
   refine zC ?_
   refine zB 2 [(4, .int .i64 (opE r ox.p (r.rat + ox.p.rat))), (101, .int .i64 (opE r ox.p (r.rat + ox.p.rat)))] A218 kr kr (fun a221 A221 => ?_)
   refine zE ?_
   refine zA (C220 _ _ ?_)
   refine zQ ?_
   refine zU ?_
   refine zL ?_
   refine zL ?_
   refine zU ?_
   refine zL ?_
   refine zR (v := .int .i64 (opE r ox.p (r.rat + ox.p.rat))) (rs := [.tmp 4]) A221 kr (Res.tmp kr Res.nil) kr ?_
   exact ⟨j213.upd, _, rfl, vint (ca_sum hc0 hl0 hl64 hco (congrArg Prod.snd ((addL_stop hmx ht219).symm.trans hp192_2)) ht219).symm⟩
  have A222 := A216.set 100 (v' := .bool false) kr rfl (zG hc217)
  have ht223 : (opE r ox.p (r.rat + ox.p.rat)) = 0 := by simpa using hc217
  refine i_skip ?_
  refine zW ?_
  refine zA (C199 _ _ ?_)
  refine zC ?_
  refine zB 1 [(102, .int .i64 (IntKind.i64.wrap ((k : Int) + 1)))] A222 kr kr (fun a224 A224 => ?_)
  have A225 := A224.set 102 (v' := .int .i64 ((k : Int) + 1)) kr rfl (vint (wi64 (by omega) (by omega)))
  refine zB 1 [(88, .int .i64 ((k : Int) + 1))] A225 kr kr (fun a226 A226 => ?_)
  refine zE ?_
  refine zA ?_
  refine ⟨k + 1, ⟨_, (opR r ox.p (r.rat + ox.p.rat)), ad210, len210, cap210, ae210, le210, ce210, A226.as [9, 86, 87, 88] kr kr, j213.tail, (Le5 q192 q203 q205 q210 q213), (hN210.mono q213), (hD210.mono q213), (addL_step hmx (by simpa using ht223)).symm.trans hp192_2, by omega⟩, ?_⟩
  first | omega | (simp; omega)
 have A227 := A194.set 89 (v' := .bool false) kr rfl (zG hc196)
 have ht228 : ¬ ((k : Int) < (a.next.length : Int)) := of_decide_eq_false hc196
 have hsum := hp192_2.symm.trans (addL_end (by rw [List.length_map]; omega))
 refine i_exit ?_
 refine zT ?_
 refine zT ?_
 refine qA ?_
 refine zA (C187 _ _ ?_)
 refine zD (fun K229 C229 => ?_)
 refine zD (fun K230 C230 => ?_)
 refine qD (N := 8) (Held [(⟨b183, 0, none⟩, [.bool r.neg, .slice ar lr cr, .slice br mr dr])]) [] kr kr kr j192 ?_
 intro w231 j231 q231 hu231
 refine zX (Held.cons (j231.cells 0 rfl rfl) (Held.nil _)) (fun hH231 => ?_)
 refine zY (d := 104) (v := .agg #[.bool r.neg, .slice ar lr cr, .slice br mr dr]) 0 A227 rfl kr kr kr (fun w hw => zF (t := 25) (g := true) (vs := [.bool r.neg, .slice ar lr cr, .slice br mr dr]) (ad := ⟨b183, 0, none⟩) rfl kr kr ir (hw.get 0 kr)) hH231 ?_
 intro a232 A232
 refine zM [1] kr rfl ?_
 refine ForkT.cons (i := 1) A232 rfl kr (zK (d := 105) (f := 47) (cap := #[]) (vs := #[.int .i64 1]) A232 kr j231 rfl kr kr (fun w => Try.call47 _ w) (rFrom_1 _ _ j231.lt) ?_) ForkT.nil
 rintro v233 w233 j233 q233 hu233 ⟨ad233, len233, cap233, ae233, le233, ce233, rfl, hN233, hD233⟩ a234 A234
 refine zI (Held.cons (j233.cells 0 rfl rfl) (Held.nil _)) (fun hH233 => ?_)
 refine zM [2] kr rfl ?_
 refine ForkT.cons (i := 2) A234 rfl kr (zK (d := 106) (f := 32) (cap := #[]) (vs := #[.agg #[.bool r.neg, .slice ar lr cr, .slice br mr dr], .agg #[.bool ((Raw.of 1).neg), .slice ad233 len233 cap233, .slice ae233 le233 ce233]]) A234 kr j233 rfl kr kr (fun w => Try.call32 _ w) (rCmp_c _ _ j233.lt r _ _ _ (hp192_0.mono (Le2 q231 q233)) _ _ _ (hp192_1.mono (Le2 q231 q233)) (Raw.of 1) _ _ _ hN233 _ _ _ hD233) ?_) ForkT.nil
 rintro v235 w235 j235 q235 hu235 rfl a236 A236
 refine zI (Held.cons (j235.cells 0 rfl rfl) (Held.nil _)) (fun hH235 => ?_)
 refine zH (d := 103) (v := .tuple #[.int .i64 (cmpR r (Raw.of 1)), .int .i64 (cmpE r (Raw.of 1))]) 3 A236 rfl kr kr kw (fun _ => hH235) ?_
 intro a237 A237
 refine zH (d := 107) (v := .int .i64 (cmpR r (Raw.of 1))) 4 A237 rfl kr kr kw (fun _ => hH235) ?_
 intro a238 A238
 refine zH (d := 108) (v := .int .i64 (cmpE r (Raw.of 1))) 5 A238 rfl kr kr kw (fun _ => hH235) ?_
 intro a239 A239
 refine zH (d := 13) (v := .int .i64 (cmpR r (Raw.of 1))) 6 A239 rfl kr kr kw (fun _ => hH235) ?_
 intro a240 A240
 refine zH (d := 14) (v := .int .i64 (cmpE r (Raw.of 1))) 7 A240 rfl kr kr kw (fun _ => hH235) ?_
 intro a241 A241
 refine qB kr (nrm ?_)
 refine zA (C230 _ _ ?_)
 refine zD (fun K242 C242 => ?_)
 refine zC ?_
 refine zB 2 [(110, .bool ((cmpR r (Raw.of 1)) != 0)), (109, .int .i64 (cmpR r (Raw.of 1)))] A241 kr kr (fun a243 A243 => ?_)
 refine zE ?_
 refine zA (C242 _ _ ?_)
 refine zS ((cmpR r (Raw.of 1)) != 0) A243 kr kr (fun hc244 => ?_) (fun hc244 => ?_)
 ·
  have A245 := A243.set 110 (v' := .bool true) kr rfl (zG hc244)
  have ht246 : (cmpR r (Raw.of 1)) ≠ 0 := by simpa using hc244
  refine zD (fun K247 C247 => ?_)
  refine zC ?_
  refine zB 1 [(4, .int .i64 2)] A245 kr kr (fun a248 A248 => ?_)
  refine zE ?_
  refine zA (C247 _ _ ?_)
  refine zQ ?_
  refine zL ?_
  refine zR (v := .int .i64 2) (rs := [.tmp 4]) A248 kr (Res.tmp kr Res.nil) kr ?_
  exact ⟨j235.upd, _, rfl, vint ((ca_one hc0 hl0 hl64 hco hsum).trans (if_pos ht246)).symm⟩
 have A249 := A243.set 110 (v' := .bool false) kr rfl (zG hc244)
 have ht250 : (cmpR r (Raw.of 1)) = 0 := by simpa using hc244
 refine i_skip ?_
 refine zA (C229 _ _ ?_)
 refine zD (fun K251 C251 => ?_)
 refine zC ?_
 refine zB 1 [(4, .int .i64 0)] A249 kr kr (fun a252 A252 => ?_)
 refine zE ?_
 refine zA (C251 _ _ ?_)
 refine zQ ?_
 refine zR (v := .int .i64 0) (rs := [.tmp 4]) A252 kr (Res.tmp kr Res.nil) kr ?_
 exact ⟨j235.upd, _, rfl, vint ((ca_one hc0 hl0 hl64 hco hsum).trans (if_neg (by simpa using ht250))).symm⟩
end Go.Proofs.Ytoocgllbbihoaaa

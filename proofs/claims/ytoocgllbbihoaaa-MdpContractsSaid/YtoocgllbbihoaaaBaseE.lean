/- Parts of the proof: F32 F33 F34 F35 F36 F37 F38 F39. By an AI agent. -/
import Derived.Test.YtoocgllbbihoaaaBaseA
import Derived.Test.YtoocgllbbihoaaaBaseB
import Derived.Test.YtoocgllbbihoaaaBaseC
import Derived.Test.YtoocgllbbihoaaaBaseD
set_option linter.unusedVariables false
set_option linter.unusedSimpArgs false
set_option linter.unnecessarySimpa false
namespace Go.Proofs.Ytoocgllbbihoaaa
open Go Go.Gv Go.RowKit
set_option maxRecDepth 100000
set_option maxHeartbeats 1000000
section
variable {m : Mdp}
theorem mc_disc (h : m.disc.chk ≠ 0) : m.chk = m.disc.chk := by unfold Mdp.chk; rw [if_pos h]
theorem mc_big (h : m.disc.chk = 0) (h1 : m.disc.neg = true ∨ 0 < cmpR m.disc (.of 1)) : m.chk = 1 := by unfold Mdp.chk; rw [if_neg (by simpa using h), if_pos h1]
theorem mc_none (h : m.disc.chk = 0) (h1 : ¬ (m.disc.neg = true ∨ 0 < cmpR m.disc (.of 1))) (h2 : m.states.length = 0) : m.chk = 3 := by unfold Mdp.chk; rw [if_neg (by simpa using h), if_neg h1, if_pos h2]
theorem mc_many (h : m.disc.chk = 0) (h1 : ¬ (m.disc.neg = true ∨ 0 < cmpR m.disc (.of 1))) (h2 : 200 < m.states.length) : m.chk = 4 := by unfold Mdp.chk; rw [if_neg (by simpa using h), if_neg h1, if_neg (by omega), if_pos h2]
theorem mc_all {e : Int} (h : m.disc.chk = 0) (h1 : ¬ (m.disc.neg = true ∨ 0 < cmpR m.disc (.of 1))) (h2 : m.states.length ≠ 0) (h3 : m.states.length ≤ 200) (h4 : chkStates m.states.length m.states = e) : m.chk = e := by unfold Mdp.chk; rw [if_neg (by simpa using h), if_neg h1, if_neg h2, if_neg (by omega)]; exact h4
theorem mc_st {e : Int} (h : m.disc.chk = 0) (h1 : ¬ (m.disc.neg = true ∨ 0 < cmpR m.disc (.of 1))) (h2 : m.states.length ≠ 0) (h3 : m.states.length ≤ 200) (h4 : e = chkStates m.states.length m.states) (_ : e ≠ 0) : m.chk = e := mc_all h h1 h2 h3 h4.symm
end
theorem mCheck_c (w : World) (X : Hid) (hX : ∀ k o, X k o → k < w.heap.size) (m : Mdp) (ad : Option Addr) (len cap : Nat) (h : Limbs (rd w X) ad len cap m.disc.ln) (ae : Option Addr) (le ce : Nat) (h2 : Limbs (rd w X) ae le ce m.disc.ld) (st : Option Addr) (ls cs : Nat) (hst : StatesR (rd w X) st ls cs m.states) : Calls Try.prog 40 #[.agg #[.bool m.disc.neg, .slice ad len cap, .slice ae le ce, .slice st ls cs]] w (Ret E0 w fun _ v => v = .int .i64 m.chk) := by
 obtain rfl := hst.hlen
 have hcaps := hst.hcap
 have hbigs := hst.hbig
 refine zZ (n := 73) (vs := [.agg #[.bool m.disc.neg, .slice ad len cap, .slice ae le ce, .slice st m.states.length cs]]) Try.func40 rfl rfl rfl kr (fun a0 A0 => ?_)
 have A0 : Fr 73 a0 [(0, .agg #[.bool m.disc.neg, .slice ad len cap, .slice ae le ce, .slice st m.states.length cs])] := A0
 have j0 : St E0 w X w X [] := St.start hX
 refine zD (fun K1 C1 => ?_)
 refine zC ?_
 refine wplI A0 kr (zN (d := 1) (fun b => .pointer (some ⟨b, 0, none⟩)) (.cells #[.bool m.disc.neg, .slice ad len cap, .slice ae le ce, .slice st m.states.length cs] 28 (0, 0)) A0 kr j0 kw ?_)
 intro b2 w2 Y2 j2 q2 hu2 a3 A3
 refine zB 1 [(2, .int .i64 0)] A3 kr kr (fun a4 A4 => ?_)
 refine zE ?_
 refine zA (C1 _ _ ?_)
 refine zD (fun K5 C5 => ?_)
 refine zD (fun K6 C6 => ?_)
 refine zC ?_
 refine zB 1 [(11, .pointer (some ⟨b2, 0, none⟩))] A4 kr kr (fun a7 A7 => ?_)
 refine wplI A7 kr (zJ (d := 12) (v := .agg #[.bool m.disc.neg, .slice ad len cap, .slice ae le ce]) A7 kr (zF (t := 25) (g := true) (vs := [.bool m.disc.neg, .slice ad len cap, .slice ae le ce]) (ad := ⟨b2, 0, none⟩) rfl kr kr ir (j2.cells 0 rfl rfl)) ?_)
 intro a8 A8
 refine wplI A8 kr (zK (d := 13) (f := 15) (cap := #[]) (vs := #[.agg #[.bool m.disc.neg, .slice ad len cap, .slice ae le ce]]) A8 kr j2 rfl kr kr (fun w => Try.call15 _ w) (rcheck_c _ _ j2.lt m.disc _ _ _ (h.mono q2) _ _ _ (h2.mono q2)) ?_)
 rintro v9 w9 j9 q9 hu9 rfl a10 A10
 refine zB 1 [(3, .int .i64 m.disc.chk)] A10 kr kr (fun a11 A11 => ?_)
 refine zE ?_
 refine zA (C6 _ _ ?_)
 refine zD (fun K12 C12 => ?_)
 refine zC ?_
 refine zB 2 [(15, .bool ((m.disc.chk) != 0)), (14, .int .i64 m.disc.chk)] A11 kr kr (fun a13 A13 => ?_)
 refine zE ?_
 refine zA (C12 _ _ ?_)
 refine zS ((m.disc.chk) != 0) A13 kr kr (fun hc14 => ?_) (fun hc14 => ?_)
 ·
  have A15 := A13.set 15 (v' := .bool true) kr rfl (zG hc14)
  have ht16 : (m.disc.chk) ≠ 0 := by simpa using hc14
  refine zD (fun K17 C17 => ?_)
  refine zC ?_
  refine zB 2 [(2, .int .i64 m.disc.chk), (16, .int .i64 m.disc.chk)] A15 kr kr (fun a18 A18 => ?_)
  refine zE ?_
  refine zA (C17 _ _ ?_)
  refine zQ ?_
  refine zL ?_
  refine zR (v := .int .i64 m.disc.chk) (rs := [.tmp 2]) A18 kr (Res.tmp kr Res.nil) kr ?_
  exact ⟨j9.upd, _, rfl, vint (mc_disc ht16).symm⟩
 have A19 := A13.set 15 (v' := .bool false) kr rfl (zG hc14)
 have ht20 : (m.disc.chk) = 0 := by simpa using hc14
 have hd0 : m.disc.chk = 0 := by simpa using ht20
 refine i_skip ?_
 refine zA (C5 _ _ ?_)
 refine zD (fun K21 C21 => ?_)
 refine qD (N := 9) (Held [(⟨b2, 0, none⟩, [.bool m.disc.neg, .slice ad len cap, .slice ae le ce])]) [] kr kr kr j9 ?_
 intro w22 j22 q22 hu22
 refine zX (Held.cons (j22.cells 0 rfl rfl) (Held.nil _)) (fun hH22 => ?_)
 refine zH (d := 18) (v := .pointer (some ⟨b2, 0, none⟩)) 0 A19 rfl kr kr kw (fun _ => hH22) ?_
 intro a23 A23
 refine zY (d := 19) (v := .agg #[.bool m.disc.neg, .slice ad len cap, .slice ae le ce]) 1 A23 rfl kr kr kr (fun w hw => zF (t := 25) (g := true) (vs := [.bool m.disc.neg, .slice ad len cap, .slice ae le ce]) (ad := ⟨b2, 0, none⟩) rfl kr kr ir (hw.get 0 kr)) hH22 ?_
 intro a24 A24
 refine zM [2] kr rfl ?_
 refine ForkT.cons (i := 2) A24 rfl kr (zK (d := 20) (f := 47) (cap := #[]) (vs := #[.int .i64 1]) A24 kr j22 rfl kr kr (fun w => Try.call47 _ w) (rFrom_1 _ _ j22.lt) ?_) ForkT.nil
 rintro v25 w25 j25 q25 hu25 ⟨ad25, len25, cap25, ae25, le25, ce25, rfl, hN25, hD25⟩ a26 A26
 refine zI (Held.cons (j25.cells 0 rfl rfl) (Held.nil _)) (fun hH25 => ?_)
 refine zM [3] kr rfl ?_
 refine ForkT.cons (i := 3) A26 rfl kr (zK (d := 21) (f := 32) (cap := #[]) (vs := #[.agg #[.bool m.disc.neg, .slice ad len cap, .slice ae le ce], .agg #[.bool ((Raw.of 1).neg), .slice ad25 len25 cap25, .slice ae25 le25 ce25]]) A26 kr j25 rfl kr kr (fun w => Try.call32 _ w) (rCmp_c _ _ j25.lt m.disc _ _ _ (h.mono (Le4 q2 q9 q22 q25)) _ _ _ (h2.mono (Le4 q2 q9 q22 q25)) (Raw.of 1) _ _ _ hN25 _ _ _ hD25) ?_) ForkT.nil
 rintro v27 w27 j27 q27 hu27 rfl a28 A28
 refine zI (Held.cons (j27.cells 0 rfl rfl) (Held.nil _)) (fun hH27 => ?_)
 refine zH (d := 17) (v := .tuple #[.int .i64 (cmpR m.disc (Raw.of 1)), .int .i64 (cmpE m.disc (Raw.of 1))]) 4 A28 rfl kr kr kw (fun _ => hH27) ?_
 intro a29 A29
 refine zH (d := 22) (v := .int .i64 (cmpR m.disc (Raw.of 1))) 5 A29 rfl kr kr kw (fun _ => hH27) ?_
 intro a30 A30
 refine zH (d := 23) (v := .int .i64 (cmpE m.disc (Raw.of 1))) 6 A30 rfl kr kr kw (fun _ => hH27) ?_
 intro a31 A31
 refine zH (d := 4) (v := .int .i64 (cmpR m.disc (Raw.of 1))) 7 A31 rfl kr kr kw (fun _ => hH27) ?_
 intro a32 A32
 refine zH (d := 5) (v := .int .i64 (cmpE m.disc (Raw.of 1))) 8 A32 rfl kr kr kw (fun _ => hH27) ?_
 intro a33 A33
 refine qB kr (nrm ?_)
 refine zA (C21 _ _ ?_)
 refine zD (fun K34 C34 => ?_)
 refine zV ?_
 refine zD (fun K35 C35 => ?_)
 refine zC ?_
 refine zB 2 [(26, .pointer (some ⟨b2, 0, none⟩)), (25, .pointer (some ⟨b2, 0, none⟩))] A33 kr kr (fun a36 A36 => ?_)
 refine wplI A36 kr (zJ (d := 27) (v := .bool m.disc.neg) A36 kr (zF (t := 4) (g := false) (vs := [.bool m.disc.neg]) (ad := ⟨b2, 0, none⟩) rfl kr kr ir (j27.cells 0 rfl rfl)) ?_)
 intro a37 A37
 refine zB 1 [(28, .bool m.disc.neg)] A37 kr kr (fun a38 A38 => ?_)
 rcases Bool.eq_false_or_eq_true m.disc.neg with hc39 | hc39
 ·
  have A40 := A38.set 28 (v' := .bool true) kr rfl (zG hc39)
  have ht41 : m.disc.neg = true := by simpa using hc39
  refine zB 4 [(24, .bool true), (31, .bool true), (30, undef), (29, undef)] A40 kr kr (fun a42 A42 => ?_)
  refine zE ?_
  refine zA (C35 _ _ ?_)
  refine qG A42 kr kr ?_
  refine zD (fun K43 C43 => ?_)
  refine zC ?_
  refine zB 1 [(2, .int .i64 1)] A42 kr kr (fun a44 A44 => ?_)
  refine zE ?_
  refine zA (C43 _ _ ?_)
  refine zQ ?_
  refine zU ?_
  refine zL ?_
  refine zR (v := .int .i64 1) (rs := [.tmp 2]) A44 kr (Res.tmp kr Res.nil) kr ?_
  exact ⟨j27.upd, _, rfl, vint (mc_big hd0 (.inl ht41)).symm⟩
 have A45 := A38.set 28 (v' := .bool false) kr rfl (zG hc39)
 have ht46 : m.disc.neg = false := by simpa using hc39
 refine zB 4 [(24, .bool (decide ((cmpR m.disc (Raw.of 1)) > 0))), (31, .bool (decide ((cmpR m.disc (Raw.of 1)) > 0))), (30, .bool (decide ((cmpR m.disc (Raw.of 1)) > 0))), (29, .int .i64 (cmpR m.disc (Raw.of 1)))] A45 kr kr (fun a47 A47 => ?_)
 refine zE ?_
 refine zA (C35 _ _ ?_)
 refine zS (decide ((cmpR m.disc (Raw.of 1)) > 0)) A47 kr kr (fun hc48 => ?_) (fun hc48 => ?_)
 ·
  have A49 := A47.set 24 (v' := .bool true) kr rfl (zG hc48)
  have ht50 : (cmpR m.disc (Raw.of 1)) > 0 := of_decide_eq_true hc48
  refine zD (fun K51 C51 => ?_)
  refine zC ?_
  refine zB 1 [(2, .int .i64 1)] A49 kr kr (fun a52 A52 => ?_)
  refine zE ?_
  refine zA (C51 _ _ ?_)
  refine zQ ?_
  refine zU ?_
  refine zL ?_
  refine zR (v := .int .i64 1) (rs := [.tmp 2]) A52 kr (Res.tmp kr Res.nil) kr ?_
  exact ⟨j27.upd, _, rfl, vint (mc_big hd0 (.inr (by omega))).symm⟩
 have A53 := A47.set 24 (v' := .bool false) kr rfl (zG hc48)
 have ht54 : ¬ ((cmpR m.disc (Raw.of 1)) > 0) := of_decide_eq_false hc48
 have hd1 : ¬ (m.disc.neg = true ∨ 0 < cmpR m.disc (.of 1)) := by rintro (e | e); rw [ht46] at e; cases e; omega
 refine zD (fun K55 C55 => ?_)
 refine zC ?_
 refine zB 1 [(33, .pointer (some ⟨b2, 3, none⟩))] A53 kr kr (fun a56 A56 => ?_)
 refine wplI A56 kr (zJ (d := 34) (v := .slice st m.states.length cs) A56 kr (zF (t := 26) (g := false) (vs := [.slice st m.states.length cs]) (ad := ⟨b2, 3, none⟩) rfl kr kr ir (j27.cells 0 rfl rfl)) ?_)
 intro a57 A57
 refine zB 3 [(32, .bool ((m.states.length : Int) == 0)), (36, .bool ((m.states.length : Int) == 0)), (35, .int .i64 (m.states.length : Int))] A57 kr kr (fun a58 A58 => ?_)
 refine zE ?_
 refine zA (C55 _ _ ?_)
 refine zS ((m.states.length : Int) == 0) A58 kr kr (fun hc59 => ?_) (fun hc59 => ?_)
 ·
  have A60 := A58.set 32 (v' := .bool true) kr rfl (zG hc59)
  have ht61 : (m.states.length : Int) = 0 := by simpa using hc59
  refine zD (fun K62 C62 => ?_)
  refine zC ?_
  refine zB 1 [(2, .int .i64 3)] A60 kr kr (fun a63 A63 => ?_)
  refine zE ?_
  refine zA (C62 _ _ ?_)
  refine zQ ?_
  refine zU ?_
  refine zL ?_
  refine zR (v := .int .i64 3) (rs := [.tmp 2]) A63 kr (Res.tmp kr Res.nil) kr ?_
  exact ⟨j27.upd, _, rfl, vint (mc_none hd0 hd1 (by omega)).symm⟩
 have A64 := A58.set 32 (v' := .bool false) kr rfl (zG hc59)
 have ht65 : (m.states.length : Int) ≠ 0 := by simpa using hc59
 have hs0 : m.states.length ≠ 0 := by omega
 refine zD (fun K66 C66 => ?_)
 refine zC ?_
 refine zB 1 [(38, .pointer (some ⟨b2, 3, none⟩))] A64 kr kr (fun a67 A67 => ?_)
 refine wplI A67 kr (zJ (d := 39) (v := .slice st m.states.length cs) A67 kr (zF (t := 26) (g := false) (vs := [.slice st m.states.length cs]) (ad := ⟨b2, 3, none⟩) rfl kr kr ir (j27.cells 0 rfl rfl)) ?_)
 intro a68 A68
 refine zB 3 [(37, .bool (decide ((m.states.length : Int) > 200))), (41, .bool (decide ((m.states.length : Int) > 200))), (40, .int .i64 (m.states.length : Int))] A68 kr kr (fun a69 A69 => ?_)
 refine zE ?_
 refine zA (C66 _ _ ?_)
 refine zS (decide ((m.states.length : Int) > 200)) A69 kr kr (fun hc70 => ?_) (fun hc70 => ?_)
 ·
  have A71 := A69.set 37 (v' := .bool true) kr rfl (zG hc70)
  have ht72 : (m.states.length : Int) > 200 := of_decide_eq_true hc70
  refine zD (fun K73 C73 => ?_)
  refine zC ?_
  refine zB 1 [(2, .int .i64 4)] A71 kr kr (fun a74 A74 => ?_)
  refine zE ?_
  refine zA (C73 _ _ ?_)
  refine zQ ?_
  refine zU ?_
  refine zL ?_
  refine zR (v := .int .i64 4) (rs := [.tmp 2]) A74 kr (Res.tmp kr Res.nil) kr ?_
  exact ⟨j27.upd, _, rfl, vint (mc_many hd0 hd1 (by omega)).symm⟩
 have A75 := A69.set 37 (v' := .bool false) kr rfl (zG hc70)
 have ht76 : ¬ ((m.states.length : Int) > 200) := of_decide_eq_false hc70
 have hs1 : m.states.length ≤ 200 := by omega
 refine i_skip ?_
 refine zW ?_
 refine zA (C34 _ _ ?_)
 refine zD (fun K77 C77 => ?_)
 refine zD (fun K78 C78 => ?_)
 refine zC ?_
 refine zB 1 [(42, .pointer (some ⟨b2, 3, none⟩))] A75 kr kr (fun a79 A79 => ?_)
 refine wplI A79 kr (zJ (d := 43) (v := .slice st m.states.length cs) A79 kr (zF (t := 26) (g := false) (vs := [.slice st m.states.length cs]) (ad := ⟨b2, 3, none⟩) rfl kr kr ir (j27.cells 0 rfl rfl)) ?_)
 intro a80 A80
 refine zB 2 [(45, .int .i64 0), (44, .int .i64 (m.states.length : Int))] A80 kr kr (fun a81 A81 => ?_)
 refine zE ?_
 refine zA (C78 _ _ ?_)
 refine zV ?_
 refine qC (fun (k : Nat) ac w1 => ∃ (Y1 : Hid), Fr 73 ac [(1, .pointer (some ⟨b2, 0, none⟩)), (43, .slice st m.states.length cs), (44, .int .i64 (m.states.length : Int)), (45, .int .i64 (k : Int))] ∧ St E0 w X w1 Y1 [(b2, .cells #[.bool m.disc.neg, .slice ad len cap, .slice ae le ce, .slice st m.states.length cs] 28 (0, 0))] ∧ Le (rd w27 Y2) (rd w1 Y1) ∧ (chkStates m.states.length (m.states.drop k) = chkStates m.states.length m.states) ∧ (k ≤ m.states.length)) (fun (k : Nat) => m.states.length - k) 0 ?_ ?_
 ·
  refine ⟨_, A81.as [1, 43, 44, 45] kr kr, j27, Le.refl _, rfl, Nat.zero_le _⟩
 rintro k a82 w82 ⟨Y82, A82, j82, q82, hp82_0, hp82_1⟩
 have hkO := hp82_1
 refine zD (fun K83 C83 => ?_)
 refine zC ?_
 refine zB 1 [(46, .bool (decide ((k : Int) < (m.states.length : Int))))] A82 kr kr (fun a84 A84 => ?_)
 refine zE ?_
 refine zA (C83 _ _ ?_)
 refine zD (fun K85 C85 => ?_)
 refine zS (decide ((k : Int) < (m.states.length : Int))) A84 kr kr (fun hc86 => ?_) (fun hc86 => ?_)
 ·
  have A87 := A84.set 46 (v' := .bool true) kr rfl (zG hc86)
  have ht88 : (k : Int) < (m.states.length : Int) := of_decide_eq_true hc86
  obtain ⟨b0, off0, rfl⟩ := hst.addr (by omega)
  obtain ⟨sx, ax, lx, cx, hxs, hAs, hacts⟩ := hst.at (k := k) (by omega)
  obtain rfl := hacts.hlen
  have hcapx := hacts.hcap
  have hbigx := hacts.hbig
  have hAs1 : At (rd w X) ⟨b0, off0 + k, none⟩ [.slice ax sx.length cx] := by simpa using hAs
  refine i_skip ?_
  refine zA (C85 _ _ ?_)
  refine zD (fun K89 C89 => ?_)
  refine zV ?_
  refine zD (fun K90 C90 => ?_)
  refine zC ?_
  refine wplI A87 kr (zJ (d := 47) (v := .pointer (some ⟨b0, off0 + k, none⟩)) A87 kr (zP (t := 26) (e := 40) (b := b0) (off := off0) (len := m.states.length) (cap := cs) (kd := .i64) (i := (k : Int)) (g := false) (m := 1) (off' := off0 + k) rfl kr kr kr kr (by omega) (by omega) (by first | rfl | omega | (simp; done) | (simp; omega)) _) ?_)
  intro a91 A91
  refine wplI A91 kr (zJ (d := 48) (v := .slice ax sx.length cx) A91 kr (zF (t := 40) (g := false) (vs := [.slice ax sx.length cx]) (ad := ⟨b0, off0 + k, none⟩) rfl kr kr ir ((hAs1.mono (Le6 q2 q9 q22 q25 q27 q82))).cells) ?_)
  intro a92 A92
  refine zB 1 [(7, .slice ax sx.length cx)] A92 kr kr (fun a93 A93 => ?_)
  refine zE ?_
  refine zA (C90 _ _ ?_)
  refine zD (fun K94 C94 => ?_)
  refine zV ?_
  refine zD (fun K95 C95 => ?_)
  refine zC ?_
  refine zB 4 [(49, .bool ((sx.length : Int) == 0)), (52, .bool ((sx.length : Int) == 0)), (51, .int .i64 (sx.length : Int)), (50, .slice ax sx.length cx)] A93 kr kr (fun a96 A96 => ?_)
  refine zE ?_
  refine zA (C95 _ _ ?_)
  refine zS ((sx.length : Int) == 0) A96 kr kr (fun hc97 => ?_) (fun hc97 => ?_)
  ·
   have A98 := A96.set 49 (v' := .bool true) kr rfl (zG hc97)
   have ht99 : (sx.length : Int) = 0 := by simpa using hc97
   refine zD (fun K100 C100 => ?_)
   refine zC ?_
   refine zB 1 [(2, .int .i64 3)] A98 kr kr (fun a101 A101 => ?_)
   refine zE ?_
   refine zA (C100 _ _ ?_)
   refine zQ ?_
   refine zU ?_
   refine zL ?_
   refine zU ?_
   refine zL ?_
   refine zL ?_
   refine zU ?_
   refine zL ?_
   refine zR (v := .int .i64 3) (rs := [.tmp 2]) A101 kr (Res.tmp kr Res.nil) kr ?_
   exact ⟨j82.upd, _, rfl, vint (mc_st hd0 hd1 hs0 hs1 ((cs_none hxs (by omega)).symm.trans hp82_0) (by decide)).symm⟩
  have A102 := A96.set 49 (v' := .bool false) kr rfl (zG hc97)
  have ht103 : (sx.length : Int) ≠ 0 := by simpa using hc97
  have hz : sx.length ≠ 0 := by omega
  refine zD (fun K104 C104 => ?_)
  refine zC ?_
  refine zB 4 [(53, .bool (decide ((sx.length : Int) > 6))), (56, .bool (decide ((sx.length : Int) > 6))), (55, .int .i64 (sx.length : Int)), (54, .slice ax sx.length cx)] A102 kr kr (fun a105 A105 => ?_)
  refine zE ?_
  refine zA (C104 _ _ ?_)
  refine zS (decide ((sx.length : Int) > 6)) A105 kr kr (fun hc106 => ?_) (fun hc106 => ?_)
  ·
   have A107 := A105.set 53 (v' := .bool true) kr rfl (zG hc106)
   have ht108 : (sx.length : Int) > 6 := of_decide_eq_true hc106
   refine zD (fun K109 C109 => ?_)
   refine zC ?_
   refine zB 1 [(2, .int .i64 4)] A107 kr kr (fun a110 A110 => ?_)
   refine zE ?_
   refine zA (C109 _ _ ?_)
   refine zQ ?_
   refine zU ?_
   refine zL ?_
   refine zU ?_
   refine zL ?_
   refine zL ?_
   refine zU ?_
   refine zL ?_
   refine zR (v := .int .i64 4) (rs := [.tmp 2]) A110 kr (Res.tmp kr Res.nil) kr ?_
   exact ⟨j82.upd, _, rfl, vint (mc_st hd0 hd1 hs0 hs1 ((cs_many hxs hz (by omega)).symm.trans hp82_0) (by decide)).symm⟩
  have A111 := A105.set 53 (v' := .bool false) kr rfl (zG hc106)
  have ht112 : ¬ ((sx.length : Int) > 6) := of_decide_eq_false hc106
  have hz6 : sx.length ≤ 6 := by omega
  refine i_skip ?_
  refine zW ?_
  refine zA (C94 _ _ ?_)
  refine zD (fun K113 C113 => ?_)
  refine zC ?_
  refine zB 3 [(59, .int .i64 0), (58, .int .i64 (sx.length : Int)), (57, .slice ax sx.length cx)] A111 kr kr (fun a114 A114 => ?_)
  refine zE ?_
  refine zA (C113 _ _ ?_)
  refine zV ?_
  refine qC (fun (j : Nat) ac w1 => ∃ (Y1 : Hid), Fr 73 ac [(1, .pointer (some ⟨b2, 0, none⟩)), (43, .slice (some ⟨b0, off0, none⟩) m.states.length cs), (44, .int .i64 (m.states.length : Int)), (45, .int .i64 (k : Int)), (57, .slice ax sx.length cx), (58, .int .i64 (sx.length : Int)), (59, .int .i64 (j : Int))] ∧ St E0 w X w1 Y1 [(b2, .cells #[.bool m.disc.neg, .slice ad len cap, .slice ae le ce, .slice (some ⟨b0, off0, none⟩) m.states.length cs] 28 (0, 0))] ∧ Le (rd w82 Y82) (rd w1 Y1) ∧ (chkActs m.states.length (sx.drop j) = chkActs m.states.length sx) ∧ (j ≤ sx.length)) (fun (j : Nat) => sx.length - j) 0 ?_ ?_
  ·
   refine ⟨_, A114.as [1, 43, 44, 45, 57, 58, 59] kr kr, j82, Le.refl _, rfl, Nat.zero_le _⟩
  rintro j a115 w115 ⟨Y115, A115, j115, q115, hp115_0, hp115_1⟩
  refine zD (fun K116 C116 => ?_)
  refine zC ?_
  refine zB 1 [(60, .bool (decide ((j : Int) < (sx.length : Int))))] A115 kr kr (fun a117 A117 => ?_)
  refine zE ?_
  refine zA (C116 _ _ ?_)
  refine zD (fun K118 C118 => ?_)
  refine zS (decide ((j : Int) < (sx.length : Int))) A117 kr kr (fun hc119 => ?_) (fun hc119 => ?_)
  ·
   have A120 := A117.set 60 (v' := .bool true) kr rfl (zG hc119)
   have ht121 : (j : Int) < (sx.length : Int) := of_decide_eq_true hc119
   obtain ⟨b1, off1, rfl⟩ := hacts.addr (by omega)
   obtain ⟨xa, a1, a2, a3, a4, a5, a6, a7, a8, a9, hxa, hAa, hLa, hMa, hOa⟩ := hacts.at (k := j) (by omega)
   refine i_skip ?_
   refine zA (C118 _ _ ?_)
   refine zD (fun K122 C122 => ?_)
   refine zV ?_
   refine zD (fun K123 C123 => ?_)
   refine zC ?_
   refine wplI A120 kr (zJ (d := 61) (v := .pointer (some ⟨b1, off1 + j * 4, none⟩)) A120 kr (zP (t := 40) (e := 55) (b := b1) (off := off1) (len := sx.length) (cap := cx) (kd := .i64) (i := (j : Int)) (g := true) (m := 4) (off' := off1 + j * 4) rfl kr kr kr kr (by omega) (by omega) (by first | rfl | omega | (simp; done) | (simp; omega)) _) ?_)
   intro a124 A124
   refine wplI A124 kr (zJ (d := 62) (v := .agg #[.bool xa.cost.neg, .slice a1 a2 a3, .slice a4 a5 a6, .slice a7 a8 a9]) A124 kr (zF (t := 55) (g := true) (vs := [.bool xa.cost.neg, .slice a1 a2 a3, .slice a4 a5 a6, .slice a7 a8 a9]) (ad := ⟨b1, off1 + j * 4, none⟩) rfl kr kr ir ((hAa.mono (Le7 q2 q9 q22 q25 q27 q82 q115))).cells) ?_)
   intro a125 A125
   refine wplI A125 kr (zN (d := 9) (fun b => .pointer (some ⟨b, 0, none⟩)) (.cells #[.bool false, .slice none 0 0, .slice none 0 0, .slice none 0 0] 55 (0, 0)) A125 kr j115 kw ?_)
   intro b126 w126 Y126 j126 q126 hu126 a127 A127
   refine wplI A127 kr (zO (t := 55) (b := b126) (off := 0) (c' := #[.bool xa.cost.neg, .slice a1 a2 a3, .slice a4 a5 a6, .slice a7 a8 a9]) (g := true) (m := 4) 0 _ A127 kr j126 rfl kr rfl kr kr kr rfl (by first | decide | (simp; done)) kr rfl ?_)
   intro w128 j128 q128
   refine zE ?_
   refine zA (C123 _ _ ?_)
   refine zD (fun K129 C129 => ?_)
   refine zC ?_
   refine wplI A127 kr (zJ (d := 63) (v := .agg #[.bool xa.cost.neg, .slice a1 a2 a3, .slice a4 a5 a6, .slice a7 a8 a9]) A127 kr (zF (t := 55) (g := true) (vs := [.bool xa.cost.neg, .slice a1 a2 a3, .slice a4 a5 a6, .slice a7 a8 a9]) (ad := ⟨b126, 0, none⟩) rfl kr kr ir (j128.cells 0 rfl rfl)) ?_)
   intro a130 A130
   refine zB 1 [(64, .pointer (some ⟨b2, 3, none⟩))] A130 kr kr (fun a131 A131 => ?_)
   refine wplI A131 kr (zJ (d := 65) (v := .slice (some ⟨b0, off0, none⟩) m.states.length cs) A131 kr (zF (t := 26) (g := false) (vs := [.slice (some ⟨b0, off0, none⟩) m.states.length cs]) (ad := ⟨b2, 3, none⟩) rfl kr kr ir (j128.cells 1 rfl rfl)) ?_)
   intro a132 A132
   refine zB 1 [(66, .int .i64 (m.states.length : Int))] A132 kr kr (fun a133 A133 => ?_)
   refine wplI A133 kr (zK (d := 67) (f := 63) (cap := #[]) (vs := #[.agg #[.bool xa.cost.neg, .slice a1 a2 a3, .slice a4 a5 a6, .slice a7 a8 a9], .int .i64 (m.states.length : Int)]) A133 kr j128 rfl kr kr (fun w => Try.call63 _ w) (checkAction_c _ _ j128.lt xa _ _ _ (hLa.mono (Le9 q2 q9 q22 q25 q27 q82 q115 q126 q128)) _ _ _ (hMa.mono (Le9 q2 q9 q22 q25 q27 q82 q115 q126 q128)) _ _ _ (hOa.mono (Le9 q2 q9 q22 q25 q27 q82 q115 q126 q128)) m.states.length (by omega)) ?_)
   rintro v134 w134 j134 q134 hu134 rfl a135 A135
   refine zB 1 [(10, .int .i64 (chkAct m.states.length xa))] A135 kr kr (fun a136 A136 => ?_)
   refine zE ?_
   refine zA (C129 _ _ ?_)
   refine zD (fun K137 C137 => ?_)
   refine zC ?_
   refine zB 2 [(69, .bool ((chkAct m.states.length xa) != 0)), (68, .int .i64 (chkAct m.states.length xa))] A136 kr kr (fun a138 A138 => ?_)
   refine zE ?_
   refine zA (C137 _ _ ?_)
   refine zS ((chkAct m.states.length xa) != 0) A138 kr kr (fun hc139 => ?_) (fun hc139 => ?_)
   ·
    have A140 := A138.set 69 (v' := .bool true) kr rfl (zG hc139)
    have ht141 : (chkAct m.states.length xa) ≠ 0 := by simpa using hc139
    refine zD (fun K142 C142 => ?_)
    refine zC ?_
    refine zB 2 [(2, .int .i64 (chkAct m.states.length xa)), (70, .int .i64 (chkAct m.states.length xa))] A140 kr kr (fun a143 A143 => ?_)
    refine zE ?_
    refine zA (C142 _ _ ?_)
    refine zQ ?_
    refine zU ?_
    refine zL ?_
    refine zL ?_
    refine zU ?_
    refine zU ?_
    refine zL ?_
    refine zL ?_
    refine zU ?_
    refine zL ?_
    refine zR (v := .int .i64 (chkAct m.states.length xa)) (rs := [.tmp 2]) A143 kr (Res.tmp kr Res.nil) kr ?_
    exact ⟨j134.upd, _, rfl, vint (mc_st hd0 hd1 hs0 hs1 ((cs_acts hxs hz hz6 ((cac_stop hxa ht141).symm.trans hp115_0).symm ht141).symm.trans hp82_0) ht141).symm⟩
   have A144 := A138.set 69 (v' := .bool false) kr rfl (zG hc139)
   have ht145 : (chkAct m.states.length xa) = 0 := by simpa using hc139
   refine i_skip ?_
   refine zW ?_
   refine zA (C122 _ _ ?_)
   refine zC ?_
   refine zB 1 [(71, .int .i64 (IntKind.i64.wrap ((j : Int) + 1)))] A144 kr kr (fun a146 A146 => ?_)
   have A147 := A146.set 71 (v' := .int .i64 ((j : Int) + 1)) kr rfl (vint (wi64 (by omega) (by omega)))
   refine zB 1 [(59, .int .i64 ((j : Int) + 1))] A147 kr kr (fun a148 A148 => ?_)
   refine zE ?_
   refine zA ?_
   refine ⟨j + 1, ⟨_, A148.as [1, 43, 44, 45, 57, 58, 59] kr kr, j134.tail, (Le4 q115 q126 q128 q134), (cac_next hxa (by simpa using ht145)).symm.trans hp115_0, by omega⟩, ?_⟩
   first | omega | (simp; omega)
  have A149 := A117.set 60 (v' := .bool false) kr rfl (zG hc119)
  have ht150 : ¬ ((j : Int) < (sx.length : Int)) := of_decide_eq_false hc119
  have hnext := cs_next hxs hz hz6 (hp115_0.symm.trans (cac_end (by omega)))
  refine i_exit ?_
  refine zT ?_
  refine zT ?_
  refine qA ?_
  refine zW ?_
  refine zA (C89 _ _ ?_)
  refine zC ?_
  refine zB 1 [(72, .int .i64 (IntKind.i64.wrap ((k : Int) + 1)))] A149 kr kr (fun a151 A151 => ?_)
  have A152 := A151.set 72 (v' := .int .i64 ((k : Int) + 1)) kr rfl (vint (wi64 (by omega) (by omega)))
  refine zB 1 [(45, .int .i64 ((k : Int) + 1))] A152 kr kr (fun a153 A153 => ?_)
  refine zE ?_
  refine zA ?_
  refine ⟨k + 1, ⟨_, A153.as [1, 43, 44, 45] kr kr, j115, (Le2 q82 q115), hnext.symm.trans hp82_0, by omega⟩, ?_⟩
  first | omega | (simp; omega)
 have A154 := A84.set 46 (v' := .bool false) kr rfl (zG hc86)
 have ht155 : ¬ ((k : Int) < (m.states.length : Int)) := of_decide_eq_false hc86
 refine i_exit ?_
 refine zT ?_
 refine zT ?_
 refine qA ?_
 refine zA (C77 _ _ ?_)
 refine zD (fun K156 C156 => ?_)
 refine zC ?_
 refine zB 1 [(2, .int .i64 0)] A154 kr kr (fun a157 A157 => ?_)
 refine zE ?_
 refine zA (C156 _ _ ?_)
 refine zQ ?_
 refine zR (v := .int .i64 0) (rs := [.tmp 2]) A157 kr (Res.tmp kr Res.nil) kr ?_
 exact ⟨j82.upd, _, rfl, vint (mc_all hd0 hd1 hs0 hs1 (hp82_0.symm.trans (cs_end (by omega)))).symm⟩
end Go.Proofs.Ytoocgllbbihoaaa
namespace Go.Proofs.Ytoocgllbbihoaaa
open Go Go.Gv Go.RowKit
set_option maxRecDepth 100000
set_option maxHeartbeats 1000000
theorem mcheck_c (w : World) (X : Hid) (hX : ∀ k o, X k o → k < w.heap.size) (m : Mdp) (ad : Option Addr) (len cap : Nat) (h : Limbs (rd w X) ad len cap m.disc.ln) (ae : Option Addr) (le ce : Nat) (h2 : Limbs (rd w X) ae le ce m.disc.ld) (st : Option Addr) (ls cs : Nat) (hst : StatesR (rd w X) st ls cs m.states) (av : Option Addr) (lv cv : Nat) (v : List Raw) (hlv : lv = v.length) (hbv : lv ≤ 4611686018427387904) : Calls Try.prog 27 #[.agg #[.bool m.disc.neg, .slice ad len cap, .slice ae le ce, .slice st ls cs], .slice av lv cv] w (Ret E0 w fun _ u => u = .int .i64 (m.chkV v)) := by
 subst hlv
 obtain rfl := hst.hlen
 have hcaps := hst.hcap
 have hbigs := hst.hbig
 refine zZ (n := 19) (vs := [.agg #[.bool m.disc.neg, .slice ad len cap, .slice ae le ce, .slice st m.states.length cs], .slice av v.length cv]) Try.func27 rfl rfl rfl kr (fun a0 A0 => ?_)
 have A0 : Fr 19 a0 [(0, .agg #[.bool m.disc.neg, .slice ad len cap, .slice ae le ce, .slice st m.states.length cs]), (1, .slice av v.length cv)] := A0
 have j0 : St E0 w X w X [] := St.start hX
 refine zD (fun K1 C1 => ?_)
 refine zC ?_
 refine wplI A0 kr (zN (d := 2) (fun b => .pointer (some ⟨b, 0, none⟩)) (.cells #[.bool m.disc.neg, .slice ad len cap, .slice ae le ce, .slice st m.states.length cs] 28 (0, 0)) A0 kr j0 kw ?_)
 intro b2 w2 Y2 j2 q2 hu2 a3 A3
 refine zB 1 [(4, .int .i64 0)] A3 kr kr (fun a4 A4 => ?_)
 refine zE ?_
 refine zA (C1 _ _ ?_)
 refine zD (fun K5 C5 => ?_)
 refine zD (fun K6 C6 => ?_)
 refine zC ?_
 refine wplI A4 kr (zJ (d := 6) (v := .agg #[.bool m.disc.neg, .slice ad len cap, .slice ae le ce, .slice st m.states.length cs]) A4 kr (zF (t := 28) (g := true) (vs := [.bool m.disc.neg, .slice ad len cap, .slice ae le ce, .slice st m.states.length cs]) (ad := ⟨b2, 0, none⟩) rfl kr kr ir (j2.cells 0 rfl rfl)) ?_)
 intro a7 A7
 refine wplI A7 kr (zK (d := 7) (f := 40) (cap := #[]) (vs := #[.agg #[.bool m.disc.neg, .slice ad len cap, .slice ae le ce, .slice st m.states.length cs]]) A7 kr j2 rfl kr kr (fun w => Try.call40 _ w) (mCheck_c _ _ j2.lt m _ _ _ (h.mono q2) _ _ _ (h2.mono q2) _ _ _ (hst.mono q2)) ?_)
 rintro v8 w8 j8 q8 hu8 rfl a9 A9
 refine zB 1 [(5, .int .i64 m.chk)] A9 kr kr (fun a10 A10 => ?_)
 refine zE ?_
 refine zA (C6 _ _ ?_)
 refine zV ?_
 refine zD (fun K11 C11 => ?_)
 refine zC ?_
 refine zB 3 [(8, .bool ((m.chk) != 0)), (10, .bool ((m.chk) != 0)), (9, .int .i64 m.chk)] A10 kr kr (fun a12 A12 => ?_)
 refine zE ?_
 refine zA (C11 _ _ ?_)
 refine zS ((m.chk) != 0) A12 kr kr (fun hc13 => ?_) (fun hc13 => ?_)
 ·
  have A14 := A12.set 8 (v' := .bool true) kr rfl (zG hc13)
  have ht15 : (m.chk) ≠ 0 := by simpa using hc13
  refine zD (fun K16 C16 => ?_)
  refine zC ?_
  refine zB 2 [(4, .int .i64 m.chk), (11, .int .i64 m.chk)] A14 kr kr (fun a17 A17 => ?_)
  refine zE ?_
  refine zA (C16 _ _ ?_)
  refine zQ ?_
  refine zU ?_
  refine zL ?_
  refine zR (v := .int .i64 m.chk) (rs := [.tmp 4]) A17 kr (Res.tmp kr Res.nil) kr ?_
  exact ⟨j8.upd, _, rfl, vint (show _ = Mdp.chkV m v from (if_pos ht15).symm)⟩
 have A18 := A12.set 8 (v' := .bool false) kr rfl (zG hc13)
 have ht19 : (m.chk) = 0 := by simpa using hc13
 have hm0 : ¬ m.chk ≠ 0 := by simpa using ht19
 refine zD (fun K20 C20 => ?_)
 refine zC ?_
 refine zB 3 [(15, .pointer (some ⟨b2, 3, none⟩)), (14, .int .i64 (v.length : Int)), (13, .slice av v.length cv)] A18 kr kr (fun a21 A21 => ?_)
 refine wplI A21 kr (zJ (d := 16) (v := .slice st m.states.length cs) A21 kr (zF (t := 26) (g := false) (vs := [.slice st m.states.length cs]) (ad := ⟨b2, 3, none⟩) rfl kr kr ir (j8.cells 0 rfl rfl)) ?_)
 intro a22 A22
 refine zB 3 [(12, .bool ((v.length : Int) != (m.states.length : Int))), (18, .bool ((v.length : Int) != (m.states.length : Int))), (17, .int .i64 (m.states.length : Int))] A22 kr kr (fun a23 A23 => ?_)
 refine zE ?_
 refine zA (C20 _ _ ?_)
 refine zS ((v.length : Int) != (m.states.length : Int)) A23 kr kr (fun hc24 => ?_) (fun hc24 => ?_)
 ·
  have A25 := A23.set 12 (v' := .bool true) kr rfl (zG hc24)
  have ht26 : (v.length : Int) ≠ (m.states.length : Int) := by simpa using hc24
  refine zD (fun K27 C27 => ?_)
  refine zC ?_
  refine zB 1 [(4, .int .i64 16)] A25 kr kr (fun a28 A28 => ?_)
  refine zE ?_
  refine zA (C27 _ _ ?_)
  refine zQ ?_
  refine zU ?_
  refine zL ?_
  refine zR (v := .int .i64 16) (rs := [.tmp 4]) A28 kr (Res.tmp kr Res.nil) kr ?_
  exact ⟨j8.upd, _, rfl, vint (show _ = Mdp.chkV m v from ((if_neg hm0).trans (if_pos (by omega))).symm)⟩
 have A29 := A23.set 12 (v' := .bool false) kr rfl (zG hc24)
 have ht30 : (v.length : Int) = (m.states.length : Int) := by simpa using hc24
 refine i_skip ?_
 refine zW ?_
 refine zA (C5 _ _ ?_)
 refine zD (fun K31 C31 => ?_)
 refine zC ?_
 refine zB 1 [(4, .int .i64 0)] A29 kr kr (fun a32 A32 => ?_)
 refine zE ?_
 refine zA (C31 _ _ ?_)
 refine zQ ?_
 refine zR (v := .int .i64 0) (rs := [.tmp 4]) A32 kr (Res.tmp kr Res.nil) kr ?_
 exact ⟨j8.upd, _, rfl, vint (show _ = Mdp.chkV m v from ((if_neg hm0).trans (if_neg (by omega))).symm)⟩
end Go.Proofs.Ytoocgllbbihoaaa
namespace Go.Proofs.Ytoocgllbbihoaaa
open Go Go.Gv Go.RowKit
set_option maxRecDepth 100000
set_option maxHeartbeats 1000000
section
variable {d : Raw} {v : List Raw} {a : Actn}
variable {D : Raw × Int} (hD : D = (dotV (a.next.map (·.p)) (a.next.map (pick v))))
include hD
theorem sc_dot (h : D.2 ≠ 0) : scoreV d v a = (.zero, D.2) := by subst hD; exact if_pos h
theorem sc_mul (h : D.2 = 0) (h2 : opE d D.1 (d.rat * D.1.rat) ≠ 0) : scoreV d v a = (.zero, opE d D.1 (d.rat * D.1.rat)) := by subst hD; exact (if_neg (by simpa using h)).trans (if_pos h2)
theorem sc_add (h : D.2 = 0) (h2 : opE d D.1 (d.rat * D.1.rat) = 0) : scoreV d v a = (opR a.cost (opR d D.1 (d.rat * D.1.rat)) (a.cost.rat + (opR d D.1 (d.rat * D.1.rat)).rat), opE a.cost (opR d D.1 (d.rat * D.1.rat)) (a.cost.rat + (opR d D.1 (d.rat * D.1.rat)).rat)) := by subst hD; exact (if_neg (by simpa using h)).trans (if_neg (by simpa using h2))
omit hD
theorem take_snoc {α : Type} {l : List α} {k : Nat} {x : α} (h : l[k]? = some x) : l.take (k + 1) = l.take k ++ [x] := by rw [List.take_add_one, h]; rfl
theorem row_len {es : List RE} {l : List Raw} {k : Nat} (h : es.map (·.x) = l.take k) (hk : k ≤ l.length) : k = es.length := by
  have := congrArg List.length h
  rw [List.length_map, List.length_take] at this; omega
end
theorem rDot_g (w : World) (X : Hid) (hX : ∀ k o, X k o → k < w.heap.size) (ad : Option Addr) (len cap : Nat) (xs : List Raw) (h : Rats (rd w X) ad len cap xs) (ad2 : Option Addr) (len2 cap2 : Nat) (ys : List Raw) (h2 : Rats (rd w X) ad2 len2 cap2 ys) (hm : len ≤ 1099511627776) (hm2 : len2 ≤ 1099511627776) : Calls Try.prog 49 #[.slice ad len cap, .slice ad2 len2 cap2] w (Ret E0 w fun w' v => ∃ D : Raw × Int, D = dotV xs ys ∧ ∃ u, v = .tuple #[u, .int .i64 D.2] ∧ RawX X w' u D.1) :=
  (rDot_c w X hX ad len cap xs h ad2 len2 cap2 ys h2 hm hm2).mono (by rintro e w' ⟨hu, v, rfl, h⟩; exact ⟨hu, _, rfl, _, rfl, h⟩)
theorem score_c (w : World) (X : Hid) (hX : ∀ k o, X k o → k < w.heap.size) (d : Raw) (ad : Option Addr) (len cap : Nat) (h : Limbs (rd w X) ad len cap d.ln) (ae : Option Addr) (le ce : Nat) (h2 : Limbs (rd w X) ae le ce d.ld) (st : Option Addr) (ls cs : Nat) (v : List Raw) (av : Option Addr) (lv cv : Nat) (hv : Rats (rd w X) av lv cv v) (hlv : lv ≤ 1099511627776) (a : Actn) (ad2 : Option Addr) (len2 cap2 : Nat) (h3 : Limbs (rd w X) ad2 len2 cap2 a.cost.ln) (ae2 : Option Addr) (le2 ce2 : Nat) (h4 : Limbs (rd w X) ae2 le2 ce2 a.cost.ld) (nx : Option Addr) (lx cx : Nat) (hx : OutsR (rd w X) nx lx cx a.next) (hn : a.next.length ≤ 1000000) (hto : ∀ o ∈ a.next, 0 ≤ o.to ∧ o.to < v.length) : Calls Try.prog 31 #[.agg #[.bool d.neg, .slice ad len cap, .slice ae le ce, .slice st ls cs], .slice av lv cv, .agg #[.bool a.cost.neg, .slice ad2 len2 cap2, .slice ae2 le2 ce2, .slice nx lx cx]] w (Ret E0 w fun w' u => ∃ x, u = .tuple #[x, .int .i64 (scoreV d v a).2] ∧ RawX X w' x (scoreV d v a).1) := by
 obtain rfl := hx.hlen
 have hcapx := hx.hcap
 have hbigx := hx.hbig
 obtain rfl := hv.hlen
 have hcapv := hv.hcap
 have hbigv := hv.hbig
 refine zZ (n := 62) (vs := [.agg #[.bool d.neg, .slice ad len cap, .slice ae le ce, .slice st ls cs], .slice av v.length cv, .agg #[.bool a.cost.neg, .slice ad2 len2 cap2, .slice ae2 le2 ce2, .slice nx a.next.length cx]]) Try.func31 rfl rfl rfl kr (fun a0 A0 => ?_)
 have A0 : Fr 62 a0 [(0, .agg #[.bool d.neg, .slice ad len cap, .slice ae le ce, .slice st ls cs]), (1, .slice av v.length cv), (2, .agg #[.bool a.cost.neg, .slice ad2 len2 cap2, .slice ae2 le2 ce2, .slice nx a.next.length cx])] := A0
 have j0 : St E0 w X w X [] := St.start hX
 refine zD (fun K1 C1 => ?_)
 refine zC ?_
 refine wplI A0 kr (zN (d := 3) (fun b => .pointer (some ⟨b, 0, none⟩)) (.cells #[.bool d.neg, .slice ad len cap, .slice ae le ce, .slice st ls cs] 28 (0, 0)) A0 kr j0 kw ?_)
 intro b2 w2 Y2 j2 q2 hu2 a3 A3
 refine wplI A3 kr (zN (d := 5) (fun b => .pointer (some ⟨b, 0, none⟩)) (.cells #[.bool a.cost.neg, .slice ad2 len2 cap2, .slice ae2 le2 ce2, .slice nx a.next.length cx] 55 (0, 0)) A3 kr j2 kw ?_)
 intro b4 w4 Y4 j4 q4 hu4 a5 A5
 refine wplI A5 kr (zN (d := 6) (fun b => .pointer (some ⟨b, 0, none⟩)) (.cells #[.bool false, .slice none 0 0, .slice none 0 0] 25 (0, 0)) A5 kr j4 kw ?_)
 intro b6 w6 Y6 j6 q6 hu6 a7 A7
 refine zB 1 [(7, .int .i64 0)] A7 kr kr (fun a8 A8 => ?_)
 refine zE ?_
 refine zA (C1 _ _ ?_)
 refine zD (fun K9 C9 => ?_)
 refine zC ?_
 refine zB 2 [(9, .slice none 0 0), (8, .slice none 0 0)] A8 kr kr (fun a10 A10 => ?_)
 refine zE ?_
 refine zA (C9 _ _ ?_)
 refine zD (fun K11 C11 => ?_)
 refine zD (fun K12 C12 => ?_)
 refine zC ?_
 refine zB 1 [(14, .pointer (some ⟨b4, 3, none⟩))] A10 kr kr (fun a13 A13 => ?_)
 refine wplI A13 kr (zJ (d := 15) (v := .slice nx a.next.length cx) A13 kr (zF (t := 53) (g := false) (vs := [.slice nx a.next.length cx]) (ad := ⟨b4, 3, none⟩) rfl kr kr ir (j6.cells 1 rfl rfl)) ?_)
 intro a14 A14
 refine zB 2 [(17, .int .i64 0), (16, .int .i64 (a.next.length : Int))] A14 kr kr (fun a15 A15 => ?_)
 refine zE ?_
 refine zA (C12 _ _ ?_)
 refine zV ?_
 refine qC (fun (k : Nat) ac w1 => ∃ (Y1 : Hid) (rb1 : List (Nat × Obj)) (ad8 : Option Addr) (cap8 : Nat) (es1 : List RE) (rb2 : List (Nat × Obj)) (ad9 : Option Addr) (cap9 : Nat) (es2 : List RE), Fr 62 ac [(1, .slice av v.length cv), (3, .pointer (some ⟨b2, 0, none⟩)), (5, .pointer (some ⟨b4, 0, none⟩)), (6, .pointer (some ⟨b6, 0, none⟩)), (8, .slice ad8 k cap8), (9, .slice ad9 k cap9), (15, .slice nx a.next.length cx), (16, .int .i64 (a.next.length : Int)), (17, .int .i64 (k : Int))] ∧ St E0 w X w1 Y1 ((b6, .cells #[.bool false, .slice none 0 0, .slice none 0 0] 25 (0, 0)) :: (b4, .cells #[.bool a.cost.neg, .slice ad2 len2 cap2, .slice ae2 le2 ce2, .slice nx a.next.length cx] 55 (0, 0)) :: (b2, .cells #[.bool d.neg, .slice ad len cap, .slice ae le ce, .slice st ls cs] 28 (0, 0)) :: (rb1 ++ rb2)) ∧ Le (rd w6 Y6) (rd w1 Y1) ∧ (TRow 25 3 rb1 ad8 k cap8 (flat es1)) ∧ (es1.map (·.x) = (a.next.map (·.p)).take k) ∧ (∀ e ∈ es1, e.ok (rd w1 Y1)) ∧ (TRow 25 3 rb2 ad9 k cap9 (flat es2)) ∧ (es2.map (·.x) = (a.next.map (pick v)).take k) ∧ (∀ e ∈ es2, e.ok (rd w1 Y1)) ∧ (k ≤ a.next.length)) (fun (k : Nat) => a.next.length - k) 0 ?_ ?_
 ·
  refine ⟨_, [], none, 0, [], [], none, 0, [], A15.as [1, 3, 5, 6, 8, 9, 15, 16, 17] kr kr, j6, Le.refl _, TRow.nil _ _, rfl, fun _ h => absurd h (by simp), TRow.nil _ _, rfl, fun _ h => absurd h (by simp), Nat.zero_le _⟩
 rintro k a16 w16 ⟨Y16, rb1, ad8, cap8, es1, rb2, ad9, cap9, es2, A16, j16, q16, hp16_0, hp16_1, hp16_2, hp16_3, hp16_4, hp16_5, hp16_6⟩
 have hr1 := hp16_0
 have hq1 := hp16_1
 have hk1 := hp16_2
 have hr2 := hp16_3
 have hq2 := hp16_4
 have hk2 := hp16_5
 have hkl := hp16_6
 refine zD (fun K17 C17 => ?_)
 refine zC ?_
 refine zB 1 [(18, .bool (decide ((k : Int) < (a.next.length : Int))))] A16 kr kr (fun a18 A18 => ?_)
 refine zE ?_
 refine zA (C17 _ _ ?_)
 refine zD (fun K19 C19 => ?_)
 refine zS (decide ((k : Int) < (a.next.length : Int))) A18 kr kr (fun hc20 => ?_) (fun hc20 => ?_)
 ·
  have A21 := A18.set 18 (v' := .bool true) kr rfl (zG hc20)
  have ht22 : (k : Int) < (a.next.length : Int) := of_decide_eq_true hc20
  obtain ⟨b0, off0, rfl⟩ := hx.addr (by omega)
  obtain ⟨ox, anx, lnx, cnx, amx, lmx, cmx, hxx, hAx, hLx, hMx⟩ := hx.at (k := k) (by omega)
  have hto0 := hto ox (List.mem_of_getElem? hxx)
  obtain ⟨bz, offz, xz, anz, lnz, cnz, amz, lmz, cmz, rfl, hxz, hAz, hLz, hMz⟩ := hv.cell (k := ox.to.toNat) (by omega)
  have hmx : (a.next.map (·.p))[k]? = some ox.p := by rw [List.getElem?_map, hxx]; rfl
  have hmv : (a.next.map (pick v))[k]? = some xz := by rw [List.getElem?_map, hxx]; show some (v.getD _ _) = _; rw [List.getD_eq_getElem?_getD, hxz]; rfl
  refine i_skip ?_
  refine zA (C19 _ _ ?_)
  refine zD (fun K23 C23 => ?_)
  refine zV ?_
  refine zD (fun K24 C24 => ?_)
  refine zC ?_
  refine wplI A21 kr (zJ (d := 19) (v := .pointer (some ⟨b0, off0 + k * 4, none⟩)) A21 kr (zP (t := 53) (e := 57) (b := b0) (off := off0) (len := a.next.length) (cap := cx) (kd := .i64) (i := (k : Int)) (g := true) (m := 4) (off' := off0 + k * 4) rfl kr kr kr kr (by omega) (by omega) (by first | rfl | omega | (simp; done) | (simp; omega)) _) ?_)
  intro a25 A25
  refine wplI A25 kr (zJ (d := 20) (v := .agg #[.int .i64 ox.to, .bool ox.p.neg, .slice anx lnx cnx, .slice amx lmx cmx]) A25 kr (zF (t := 57) (g := true) (vs := [.int .i64 ox.to, .bool ox.p.neg, .slice anx lnx cnx, .slice amx lmx cmx]) (ad := ⟨b0, off0 + k * 4, none⟩) rfl kr kr ir ((hAx.mono (Le4 q2 q4 q6 q16))).cells) ?_)
  intro a26 A26
  refine wplI A26 kr (zN (d := 11) (fun b => .pointer (some ⟨b, 0, none⟩)) (.cells #[.int .i64 0, .bool false, .slice none 0 0, .slice none 0 0] 57 (0, 0)) A26 kr j16 kw ?_)
  intro b27 w27 Y27 j27 q27 hu27 a28 A28
  refine wplI A28 kr (zO (t := 57) (b := b27) (off := 0) (c' := #[.int .i64 ox.to, .bool ox.p.neg, .slice anx lnx cnx, .slice amx lmx cmx]) (g := true) (m := 4) 0 _ A28 kr j27 rfl kr rfl kr kr kr rfl (by first | decide | (simp; done)) kr rfl ?_)
  intro w29 j29 q29
  refine zE ?_
  refine zA (C24 _ _ ?_)
  refine qD (N := 15) (Held [(⟨b27, 1, none⟩, [.bool ox.p.neg, .slice anx lnx cnx, .slice amx lmx cmx]), (⟨b27, 0, none⟩, [.int .i64 ox.to]), (⟨bz, offz + ox.to.toNat * 3, none⟩, [.bool xz.neg, .slice anz lnz cnz, .slice amz lmz cmz])]) [] kr kr kr j29 ?_
  intro w30 j30 q30 hu30
  refine zX (Held.cons (j30.cells 0 rfl rfl) (Held.cons (j30.cells 0 rfl rfl) (Held.cons ((hAz.mono (Le7 q2 q4 q6 q16 q27 q29 q30))).cells (Held.nil _)))) (fun hH30 => ?_)
  refine zH (d := 21) (v := .slice ad8 k cap8) 0 A28 rfl kr kr kw (fun _ => hH30) ?_
  intro a31 A31
  refine zH (d := 22) (v := .pointer (some ⟨b27, 1, none⟩)) 1 A31 rfl kr kr kw (fun _ => hH30) ?_
  intro a32 A32
  refine zY (d := 23) (v := .agg #[.bool ox.p.neg, .slice anx lnx cnx, .slice amx lmx cmx]) 2 A32 rfl kr kr kr (fun w hw => zF (t := 25) (g := true) (vs := [.bool ox.p.neg, .slice anx lnx cnx, .slice amx lmx cmx]) (ad := ⟨b27, 1, none⟩) rfl kr kr ir (hw.get 0 kr)) hH30 ?_
  intro a33 A33
  refine zH (d := 26) (v := .slice ad9 k cap9) 5 A33 rfl kr kr kw (fun _ => hH30) ?_
  intro a34 A34
  refine zH (d := 27) (v := .slice (some ⟨bz, offz, none⟩) v.length cv) 6 A34 rfl kr kr kw (fun _ => hH30) ?_
  intro a35 A35
  refine zH (d := 28) (v := .pointer (some ⟨b27, 0, none⟩)) 7 A35 rfl kr kr kw (fun _ => hH30) ?_
  intro a36 A36
  refine zY (d := 29) (v := .int .i64 ox.to) 8 A36 rfl kr kr kr (fun w hw => zF (t := 3) (g := false) (vs := [.int .i64 ox.to]) (ad := ⟨b27, 0, none⟩) rfl kr kr ir (hw.get 1 kr)) hH30 ?_
  intro a37 A37
  refine zH (d := 30) (v := .pointer (some ⟨bz, offz + ox.to.toNat * 3, none⟩)) 9 A37 rfl kr kr (fun w => zP (t := 29) (e := 25) (b := bz) (off := offz) (len := v.length) (cap := cv) (kd := .i64) (i := ox.to) (g := true) (m := 3) (off' := offz + ox.to.toNat * 3) rfl kr kr kr kr (by omega) (by omega) (by first | rfl | omega | (simp; done) | (simp; omega)) w) (fun _ => hH30) ?_
  intro a38 A38
  refine zY (d := 31) (v := .agg #[.bool xz.neg, .slice anz lnz cnz, .slice amz lmz cmz]) 10 A38 rfl kr kr kr (fun w hw => zF (t := 25) (g := true) (vs := [.bool xz.neg, .slice anz lnz cnz, .slice amz lmz cmz]) (ad := ⟨bz, offz + ox.to.toNat * 3, none⟩) rfl kr kr ir (hw.get 2 kr)) hH30 ?_
  intro a39 A39
  refine zM [3, 11] kr rfl ?_
  refine ForkT.cons (i := 3) A39 rfl kr ?_ ?_
  ·
   refine zN (d := 24) (fun b => .slice (some ⟨b, 0, none⟩) 1 1) (.cells #[.bool ox.p.neg, .slice anx lnx cnx, .slice amx lmx cmx] 25 (0, 0)) A39 kr j30 kw ?_
   intro b40 w40 Y40 j40 q40 hu40 a41 A41
   refine zI (hH30.up hu40) (fun hH40 => ?_)
   refine zM [4, 11] kr rfl ?_
   refine ForkT.cons (i := 4) A41 rfl kr ?_ ?_
   ·
    refine qF (d := 25) (t := 29) (e := 25) (size := 3) (m := 1) (c := 1) (nn := k) (cap := cap8) (ad0 := ad8) (xs := (flat es1)) (news := [.bool ox.p.neg, .slice anx lnx cnx, .slice amx lmx cmx]) (ad := ⟨b40, 0, none⟩) (z := .agg #[.bool false, .slice none 0 0, .slice none 0 0]) (i0 := Try.t25) (rb := rb1) (R1 := []) (B := rb2) 5 A41 kr j40 rfl rfl kr kr kr kr kr kr kr hr1 (j40.cells 0 rfl rfl) kr kr (by omega) (by simp only [maxLen]; omega) (by show (_ + 1) * 56 ≤ _; omega) ?_
    intro rb42 ad42 cap42 w42 Y42 hrow42 j42 q42 a43 A43
    have hrw42 : TRow 25 3 rb42 ad42 (k + 1) cap42 (flat (es1 ++ [(RE.mk ox.p anx lnx cnx amx lmx cmx)])) := by rw [flat_snoc]; exact hrow42
    refine zI (Held.cons (j42.cells 1 rfl rfl) (Held.cons (j42.cells 1 rfl rfl) (Held.cons ((hAz.mono (Le9 q2 q4 q6 q16 q27 q29 q30 q40 q42))).cells (Held.nil _)))) (fun hH42 => ?_)
    refine zM [11] kr rfl ?_
    refine ForkT.cons (i := 11) A43 rfl kr (zN (d := 32) (fun b => .slice (some ⟨b, 0, none⟩) 1 1) (.cells #[.bool xz.neg, .slice anz lnz cnz, .slice amz lmz cmz] 25 (0, 0)) A43 kr j42 kw ?_) ForkT.nil
    intro b44 w44 Y44 j44 q44 hu44 a45 A45
    refine zI (hH42.up hu44) (fun hH44 => ?_)
    refine zM [12] kr rfl ?_
    refine ForkT.cons (i := 12) A45 rfl kr (op_appE (d := 33) (t := 29) (e := 25) (size := 3) (m := 1) (c := 1) (nn := k) (cap := cap9) (ad0 := ad9) (xs := (flat es2)) (news := [.bool xz.neg, .slice anz lnz cnz, .slice amz lmz cmz]) (ad := ⟨b44, 0, none⟩) (z := .agg #[.bool false, .slice none 0 0, .slice none 0 0]) (i0 := Try.t25) (rb := rb2) (R1 := rb42) 6 A45 kr j44 rfl rfl kr kr kr kr kr kr kr hr2 (j44.cells 0 rfl rfl) kr kr (by omega) (by simp only [maxLen]; omega) (by show (_ + 1) * 56 ≤ _; omega) ?_) ForkT.nil
    intro rb46 ad46 cap46 w46 Y46 hrow46 j46 q46 a47 A47
    have hrw46 : TRow 25 3 rb46 ad46 (k + 1) cap46 (flat (es2 ++ [(RE.mk xz anz lnz cnz amz lmz cmz)])) := by rw [flat_snoc]; exact hrow46
    refine zI (Held.cons (j46.cells 2 rfl rfl) (Held.cons (j46.cells 2 rfl rfl) (Held.cons ((hAz.mono (Le11 q2 q4 q6 q16 q27 q29 q30 q40 q42 q44 q46))).cells (Held.nil _)))) (fun hH46 => ?_)
    refine zH (d := 8) (v := .slice ad42 (k + 1) cap42) 13 A47 rfl kr kr kw (fun _ => hH46) ?_
    intro a48 A48
    refine zH (d := 9) (v := .slice ad46 (k + 1) cap46) 14 A48 rfl kr kr kw (fun _ => hH46) ?_
    intro a49 A49
    refine qB kr (nrm ?_)
    refine zW ?_
    refine zA (C23 _ _ ?_)
    refine zC ?_
    refine zB 1 [(34, .int .i64 (IntKind.i64.wrap ((k : Int) + 1)))] A49 kr kr (fun a50 A50 => ?_)
    have A51 := A50.set 34 (v' := .int .i64 ((k : Int) + 1)) kr rfl (vint (wi64 (by omega) (by omega)))
    refine zB 1 [(17, .int .i64 ((k : Int) + 1))] A51 kr kr (fun a52 A52 => ?_)
    refine zE ?_
    refine zA ?_
    refine ⟨k + 1, ⟨_, rb42, ad42, cap42, (es1 ++ [(RE.mk ox.p anx lnx cnx amx lmx cmx)]), rb46, ad46, cap46, (es2 ++ [(RE.mk xz anz lnz cnz amz lmz cmz)]), A52.as [1, 3, 5, 6, 8, 9, 15, 16, 17] kr kr, j46.tail.tail.tail, (Le8 q16 q27 q29 q30 q40 q42 q44 q46), hrw42, by rw [List.map_append, hq1, take_snoc hmx]; rfl, fun e he => by rcases List.mem_append.1 he with h1 | h1; exact (hk1 e h1).mono (Le7 q27 q29 q30 q40 q42 q44 q46); obtain rfl := List.mem_singleton.1 h1; exact ⟨(hLx.mono (Le11 q2 q4 q6 q16 q27 q29 q30 q40 q42 q44 q46)), (hMx.mono (Le11 q2 q4 q6 q16 q27 q29 q30 q40 q42 q44 q46))⟩, hrw46, by rw [List.map_append, hq2, take_snoc hmv]; rfl, fun e he => by rcases List.mem_append.1 he with h1 | h1; exact (hk2 e h1).mono (Le7 q27 q29 q30 q40 q42 q44 q46); obtain rfl := List.mem_singleton.1 h1; exact ⟨(hLz.mono (Le11 q2 q4 q6 q16 q27 q29 q30 q40 q42 q44 q46)), (hMz.mono (Le11 q2 q4 q6 q16 q27 q29 q30 q40 q42 q44 q46))⟩, by omega⟩, ?_⟩
    first | omega | (simp; omega)
   refine ForkT.cons (i := 11) A41 rfl kr (zN (d := 32) (fun b => .slice (some ⟨b, 0, none⟩) 1 1) (.cells #[.bool xz.neg, .slice anz lnz cnz, .slice amz lmz cmz] 25 (0, 0)) A41 kr j40 kw ?_) ForkT.nil
   intro b53 w53 Y53 j53 q53 hu53 a54 A54
   refine zI (hH40.up hu53) (fun hH53 => ?_)
   refine zM [4] kr rfl ?_
   refine ForkT.cons (i := 4) A54 rfl kr (qF (d := 25) (t := 29) (e := 25) (size := 3) (m := 1) (c := 1) (nn := k) (cap := cap8) (ad0 := ad8) (xs := (flat es1)) (news := [.bool ox.p.neg, .slice anx lnx cnx, .slice amx lmx cmx]) (ad := ⟨b40, 0, none⟩) (z := .agg #[.bool false, .slice none 0 0, .slice none 0 0]) (i0 := Try.t25) (rb := rb1) (R1 := []) (B := rb2) 6 A54 kr j53 rfl rfl kr kr kr kr kr kr kr hr1 (j53.cells 1 rfl rfl) kr kr (by omega) (by simp only [maxLen]; omega) (by show (_ + 1) * 56 ≤ _; omega) ?_) ForkT.nil
   intro rb55 ad55 cap55 w55 Y55 hrow55 j55 q55 a56 A56
   have hrw55 : TRow 25 3 rb55 ad55 (k + 1) cap55 (flat (es1 ++ [(RE.mk ox.p anx lnx cnx amx lmx cmx)])) := by rw [flat_snoc]; exact hrow55
   refine zI (Held.cons (j55.cells 2 rfl rfl) (Held.cons (j55.cells 2 rfl rfl) (Held.cons ((hAz.mono (Le10 q2 q4 q6 q16 q27 q29 q30 q40 q53 q55))).cells (Held.nil _)))) (fun hH55 => ?_)
   refine zM [12] kr rfl ?_
   refine ForkT.cons (i := 12) A56 rfl kr (op_appE (d := 33) (t := 29) (e := 25) (size := 3) (m := 1) (c := 1) (nn := k) (cap := cap9) (ad0 := ad9) (xs := (flat es2)) (news := [.bool xz.neg, .slice anz lnz cnz, .slice amz lmz cmz]) (ad := ⟨b53, 0, none⟩) (z := .agg #[.bool false, .slice none 0 0, .slice none 0 0]) (i0 := Try.t25) (rb := rb2) (R1 := rb55) 6 A56 kr j55 rfl rfl kr kr kr kr kr kr kr hr2 (j55.cells 0 rfl rfl) kr kr (by omega) (by simp only [maxLen]; omega) (by show (_ + 1) * 56 ≤ _; omega) ?_) ForkT.nil
   intro rb57 ad57 cap57 w57 Y57 hrow57 j57 q57 a58 A58
   have hrw57 : TRow 25 3 rb57 ad57 (k + 1) cap57 (flat (es2 ++ [(RE.mk xz anz lnz cnz amz lmz cmz)])) := by rw [flat_snoc]; exact hrow57
   refine zI (Held.cons (j57.cells 2 rfl rfl) (Held.cons (j57.cells 2 rfl rfl) (Held.cons ((hAz.mono (Le11 q2 q4 q6 q16 q27 q29 q30 q40 q53 q55 q57))).cells (Held.nil _)))) (fun hH57 => ?_)
   refine zH (d := 8) (v := .slice ad55 (k + 1) cap55) 13 A58 rfl kr kr kw (fun _ => hH57) ?_
   intro a59 A59
   refine zH (d := 9) (v := .slice ad57 (k + 1) cap57) 14 A59 rfl kr kr kw (fun _ => hH57) ?_
   intro a60 A60
   refine qB kr (nrm ?_)
   refine zW ?_
   refine zA (C23 _ _ ?_)
   refine zC ?_
   refine zB 1 [(34, .int .i64 (IntKind.i64.wrap ((k : Int) + 1)))] A60 kr kr (fun a61 A61 => ?_)
   have A62 := A61.set 34 (v' := .int .i64 ((k : Int) + 1)) kr rfl (vint (wi64 (by omega) (by omega)))
   refine zB 1 [(17, .int .i64 ((k : Int) + 1))] A62 kr kr (fun a63 A63 => ?_)
   refine zE ?_
   refine zA ?_
   refine ⟨k + 1, ⟨_, rb55, ad55, cap55, (es1 ++ [(RE.mk ox.p anx lnx cnx amx lmx cmx)]), rb57, ad57, cap57, (es2 ++ [(RE.mk xz anz lnz cnz amz lmz cmz)]), A63.as [1, 3, 5, 6, 8, 9, 15, 16, 17] kr kr, j57.tail.tail.tail, (Le8 q16 q27 q29 q30 q40 q53 q55 q57), hrw55, by rw [List.map_append, hq1, take_snoc hmx]; rfl, fun e he => by rcases List.mem_append.1 he with h1 | h1; exact (hk1 e h1).mono (Le7 q27 q29 q30 q40 q53 q55 q57); obtain rfl := List.mem_singleton.1 h1; exact ⟨(hLx.mono (Le11 q2 q4 q6 q16 q27 q29 q30 q40 q53 q55 q57)), (hMx.mono (Le11 q2 q4 q6 q16 q27 q29 q30 q40 q53 q55 q57))⟩, hrw57, by rw [List.map_append, hq2, take_snoc hmv]; rfl, fun e he => by rcases List.mem_append.1 he with h1 | h1; exact (hk2 e h1).mono (Le7 q27 q29 q30 q40 q53 q55 q57); obtain rfl := List.mem_singleton.1 h1; exact ⟨(hLz.mono (Le11 q2 q4 q6 q16 q27 q29 q30 q40 q53 q55 q57)), (hMz.mono (Le11 q2 q4 q6 q16 q27 q29 q30 q40 q53 q55 q57))⟩, by omega⟩, ?_⟩
   first | omega | (simp; omega)
  refine ForkT.cons (i := 11) A39 rfl kr (zN (d := 32) (fun b => .slice (some ⟨b, 0, none⟩) 1 1) (.cells #[.bool xz.neg, .slice anz lnz cnz, .slice amz lmz cmz] 25 (0, 0)) A39 kr j30 kw ?_) ForkT.nil
  intro b64 w64 Y64 j64 q64 hu64 a65 A65
  refine zI (hH30.up hu64) (fun hH64 => ?_)
  refine zM [3] kr rfl ?_
  refine ForkT.cons (i := 3) A65 rfl kr (zN (d := 24) (fun b => .slice (some ⟨b, 0, none⟩) 1 1) (.cells #[.bool ox.p.neg, .slice anx lnx cnx, .slice amx lmx cmx] 25 (0, 0)) A65 kr j64 kw ?_) ForkT.nil
  intro b66 w66 Y66 j66 q66 hu66 a67 A67
  refine zI (hH64.up hu66) (fun hH66 => ?_)
  refine zM [4] kr rfl ?_
  refine ForkT.cons (i := 4) A67 rfl kr (qF (d := 25) (t := 29) (e := 25) (size := 3) (m := 1) (c := 1) (nn := k) (cap := cap8) (ad0 := ad8) (xs := (flat es1)) (news := [.bool ox.p.neg, .slice anx lnx cnx, .slice amx lmx cmx]) (ad := ⟨b66, 0, none⟩) (z := .agg #[.bool false, .slice none 0 0, .slice none 0 0]) (i0 := Try.t25) (rb := rb1) (R1 := []) (B := rb2) 6 A67 kr j66 rfl rfl kr kr kr kr kr kr kr hr1 (j66.cells 0 rfl rfl) kr kr (by omega) (by simp only [maxLen]; omega) (by show (_ + 1) * 56 ≤ _; omega) ?_) ForkT.nil
  intro rb68 ad68 cap68 w68 Y68 hrow68 j68 q68 a69 A69
  have hrw68 : TRow 25 3 rb68 ad68 (k + 1) cap68 (flat (es1 ++ [(RE.mk ox.p anx lnx cnx amx lmx cmx)])) := by rw [flat_snoc]; exact hrow68
  refine zI (Held.cons (j68.cells 2 rfl rfl) (Held.cons (j68.cells 2 rfl rfl) (Held.cons ((hAz.mono (Le10 q2 q4 q6 q16 q27 q29 q30 q64 q66 q68))).cells (Held.nil _)))) (fun hH68 => ?_)
  refine zM [12] kr rfl ?_
  refine ForkT.cons (i := 12) A69 rfl kr (op_appE (d := 33) (t := 29) (e := 25) (size := 3) (m := 1) (c := 1) (nn := k) (cap := cap9) (ad0 := ad9) (xs := (flat es2)) (news := [.bool xz.neg, .slice anz lnz cnz, .slice amz lmz cmz]) (ad := ⟨b64, 0, none⟩) (z := .agg #[.bool false, .slice none 0 0, .slice none 0 0]) (i0 := Try.t25) (rb := rb2) (R1 := rb68) 6 A69 kr j68 rfl rfl kr kr kr kr kr kr kr hr2 (j68.cells 1 rfl rfl) kr kr (by omega) (by simp only [maxLen]; omega) (by show (_ + 1) * 56 ≤ _; omega) ?_) ForkT.nil
  intro rb70 ad70 cap70 w70 Y70 hrow70 j70 q70 a71 A71
  have hrw70 : TRow 25 3 rb70 ad70 (k + 1) cap70 (flat (es2 ++ [(RE.mk xz anz lnz cnz amz lmz cmz)])) := by rw [flat_snoc]; exact hrow70
  refine zI (Held.cons (j70.cells 2 rfl rfl) (Held.cons (j70.cells 2 rfl rfl) (Held.cons ((hAz.mono (Le11 q2 q4 q6 q16 q27 q29 q30 q64 q66 q68 q70))).cells (Held.nil _)))) (fun hH70 => ?_)
  refine zH (d := 8) (v := .slice ad68 (k + 1) cap68) 13 A71 rfl kr kr kw (fun _ => hH70) ?_
  intro a72 A72
  refine zH (d := 9) (v := .slice ad70 (k + 1) cap70) 14 A72 rfl kr kr kw (fun _ => hH70) ?_
  intro a73 A73
  refine qB kr (nrm ?_)
  refine zW ?_
  refine zA (C23 _ _ ?_)
  refine zC ?_
  refine zB 1 [(34, .int .i64 (IntKind.i64.wrap ((k : Int) + 1)))] A73 kr kr (fun a74 A74 => ?_)
  have A75 := A74.set 34 (v' := .int .i64 ((k : Int) + 1)) kr rfl (vint (wi64 (by omega) (by omega)))
  refine zB 1 [(17, .int .i64 ((k : Int) + 1))] A75 kr kr (fun a76 A76 => ?_)
  refine zE ?_
  refine zA ?_
  refine ⟨k + 1, ⟨_, rb68, ad68, cap68, (es1 ++ [(RE.mk ox.p anx lnx cnx amx lmx cmx)]), rb70, ad70, cap70, (es2 ++ [(RE.mk xz anz lnz cnz amz lmz cmz)]), A76.as [1, 3, 5, 6, 8, 9, 15, 16, 17] kr kr, j70.tail.tail.tail, (Le8 q16 q27 q29 q30 q64 q66 q68 q70), hrw68, by rw [List.map_append, hq1, take_snoc hmx]; rfl, fun e he => by rcases List.mem_append.1 he with h1 | h1; exact (hk1 e h1).mono (Le7 q27 q29 q30 q64 q66 q68 q70); obtain rfl := List.mem_singleton.1 h1; exact ⟨(hLx.mono (Le11 q2 q4 q6 q16 q27 q29 q30 q64 q66 q68 q70)), (hMx.mono (Le11 q2 q4 q6 q16 q27 q29 q30 q64 q66 q68 q70))⟩, hrw70, by rw [List.map_append, hq2, take_snoc hmv]; rfl, fun e he => by rcases List.mem_append.1 he with h1 | h1; exact (hk2 e h1).mono (Le7 q27 q29 q30 q64 q66 q68 q70); obtain rfl := List.mem_singleton.1 h1; exact ⟨(hLz.mono (Le11 q2 q4 q6 q16 q27 q29 q30 q64 q66 q68 q70)), (hMz.mono (Le11 q2 q4 q6 q16 q27 q29 q30 q64 q66 q68 q70))⟩, by omega⟩, ?_⟩
  first | omega | (simp; omega)
 have A77 := A18.set 18 (v' := .bool false) kr rfl (zG hc20)
 have ht78 : ¬ ((k : Int) < (a.next.length : Int)) := of_decide_eq_false hc20
 refine i_exit ?_
 refine zT ?_
 refine zT ?_
 refine qA ?_
 refine zA (C11 _ _ ?_)
 refine zD (fun K79 C79 => ?_)
 refine zC ?_
 refine zB 2 [(37, .slice ad9 k cap9), (36, .slice ad8 k cap8)] A77 kr kr (fun a80 A80 => ?_)
 have hke : k = a.next.length := by omega
 have e1 : es1.map (·.x) = a.next.map (·.p) := hq1.trans (List.take_of_length_le (by rw [List.length_map]; omega))
 have e2 : es2.map (·.x) = a.next.map (pick v) := hq2.trans (List.take_of_length_le (by rw [List.length_map]; omega))
 obtain ⟨Y81, hSx81, q81, hRx81⟩ := St.pubRats (A := [(b6, .cells #[.bool false, .slice none 0 0, .slice none 0 0] 25 (0, 0)), (b4, .cells #[.bool a.cost.neg, .slice ad2 len2 cap2, .slice ae2 le2 ce2, .slice nx a.next.length cx] 55 (0, 0)), (b2, .cells #[.bool d.neg, .slice ad len cap, .slice ae le ce, .slice st ls cs] 28 (0, 0))]) (B := rb2) (fun rb => ((b6, .cells #[.bool false, .slice none 0 0, .slice none 0 0] 25 (0, 0)) :: (b4, .cells #[.bool a.cost.neg, .slice ad2 len2 cap2, .slice ae2 le2 ce2, .slice nx a.next.length cx] 55 (0, 0)) :: (b2, .cells #[.bool d.neg, .slice ad len cap, .slice ae le ce, .slice st ls cs] 28 (0, 0)) :: (rb ++ rb2))) j16 (fun _ => by simp only [List.append_assoc, List.cons_append, List.nil_append, List.append_nil]) hr1 (row_len hq1 (by rw [List.length_map]; omega)) (fun e he => (hk1 e he).mono (Le.refl _))
 have j81 : St E0 w X w16 Y81 ((b6, .cells #[.bool false, .slice none 0 0, .slice none 0 0] 25 (0, 0)) :: (b4, .cells #[.bool a.cost.neg, .slice ad2 len2 cap2, .slice ae2 le2 ce2, .slice nx a.next.length cx] 55 (0, 0)) :: (b2, .cells #[.bool d.neg, .slice ad len cap, .slice ae le ce, .slice st ls cs] 28 (0, 0)) :: rb2) := hSx81
 have hR81 : Rats (rd w16 Y81) ad8 k cap8 (a.next.map (·.p)) := by have h9 := hRx81; rwa [e1] at h9
 obtain ⟨Y82, hSx82, q82, hRx82⟩ := St.pubRats (A := [(b6, .cells #[.bool false, .slice none 0 0, .slice none 0 0] 25 (0, 0)), (b4, .cells #[.bool a.cost.neg, .slice ad2 len2 cap2, .slice ae2 le2 ce2, .slice nx a.next.length cx] 55 (0, 0)), (b2, .cells #[.bool d.neg, .slice ad len cap, .slice ae le ce, .slice st ls cs] 28 (0, 0))]) (B := []) (fun rb => ((b6, .cells #[.bool false, .slice none 0 0, .slice none 0 0] 25 (0, 0)) :: (b4, .cells #[.bool a.cost.neg, .slice ad2 len2 cap2, .slice ae2 le2 ce2, .slice nx a.next.length cx] 55 (0, 0)) :: (b2, .cells #[.bool d.neg, .slice ad len cap, .slice ae le ce, .slice st ls cs] 28 (0, 0)) :: rb)) j81 (fun _ => by simp only [List.append_assoc, List.cons_append, List.nil_append, List.append_nil]) hr2 (row_len hq2 (by rw [List.length_map]; omega)) (fun e he => (hk2 e he).mono q81)
 have j82 : St E0 w X w16 Y82 [(b6, .cells #[.bool false, .slice none 0 0, .slice none 0 0] 25 (0, 0)), (b4, .cells #[.bool a.cost.neg, .slice ad2 len2 cap2, .slice ae2 le2 ce2, .slice nx a.next.length cx] 55 (0, 0)), (b2, .cells #[.bool d.neg, .slice ad len cap, .slice ae le ce, .slice st ls cs] 28 (0, 0))] := hSx82
 have hR82 : Rats (rd w16 Y82) ad9 k cap9 (a.next.map (pick v)) := by have h9 := hRx82; rwa [e2] at h9
 refine wplI A80 kr (zK (d := 38) (f := 49) (cap := #[]) (vs := #[.slice ad8 k cap8, .slice ad9 k cap9]) A80 kr j82 rfl kr kr (fun w => Try.call49 _ w) (rDot_g _ _ j82.lt _ _ _ _ (hR81.mono q82) _ _ _ _ hR82 (by omega) (by omega)) ?_)
 rintro v83 w83 j83 q83 hu83 ⟨D, hDv, u83, rfl, ⟨ad83, len83, cap83, ae83, le83, ce83, rfl, hN83, hD83⟩⟩ a84 A84
 refine zB 3 [(40, .int .i64 D.2), (39, .agg #[.bool D.1.neg, .slice ad83 len83 cap83, .slice ae83 le83 ce83]), (35, .tuple #[.agg #[.bool D.1.neg, .slice ad83 len83 cap83, .slice ae83 le83 ce83], .int .i64 D.2])] A84 kr kr (fun a85 A85 => ?_)
 refine wplI A85 kr (zN (d := 12) (fun b => .pointer (some ⟨b, 0, none⟩)) (.cells #[.bool false, .slice none 0 0, .slice none 0 0] 25 (0, 0)) A85 kr j83 kw ?_)
 intro b86 w86 Y86 j86 q86 hu86 a87 A87
 refine wplI A87 kr (zO (t := 25) (b := b86) (off := 0) (c' := #[.bool D.1.neg, .slice ad83 len83 cap83, .slice ae83 le83 ce83]) (g := true) (m := 3) 0 _ A87 kr j86 rfl kr rfl kr kr kr rfl (by first | decide | (simp; done)) kr rfl ?_)
 intro w88 j88 q88
 refine zB 1 [(13, .int .i64 D.2)] A87 kr kr (fun a89 A89 => ?_)
 refine zE ?_
 refine zA (C79 _ _ ?_)
 refine zD (fun K90 C90 => ?_)
 refine zD (fun K91 C91 => ?_)
 refine zC ?_
 refine zB 2 [(42, .bool ((D.2) != 0)), (41, .int .i64 D.2)] A89 kr kr (fun a92 A92 => ?_)
 refine zE ?_
 refine zA (C91 _ _ ?_)
 refine zS ((D.2) != 0) A92 kr kr (fun hc93 => ?_) (fun hc93 => ?_)
 ·
  have A94 := A92.set 42 (v' := .bool true) kr rfl (zG hc93)
  have ht95 : (D.2) ≠ 0 := by simpa using hc93
  refine zD (fun K96 C96 => ?_)
  refine zC ?_
  refine zB 2 [(44, .int .i64 D.2), (43, .agg #[.bool false, .slice none 0 0, .slice none 0 0])] A94 kr kr (fun a97 A97 => ?_)
  refine wplI A97 kr (zO (t := 25) (b := b6) (off := 0) (c' := #[.bool false, .slice none 0 0, .slice none 0 0]) (g := true) (m := 3) 1 _ A97 kr j88 rfl kr rfl kr kr kr rfl (by first | decide | (simp; done)) kr rfl ?_)
  intro w98 j98 q98
  refine zB 1 [(7, .int .i64 D.2)] A97 kr kr (fun a99 A99 => ?_)
  refine zE ?_
  refine zA (C96 _ _ ?_)
  refine zQ ?_
  refine zL ?_
  refine zR (v := .tuple #[.agg #[.bool false, .slice none 0 0, .slice none 0 0], .int .i64 D.2]) (rs := [.cell 6 25, .tmp 7]) A99 kr (Res.cell (ad := ⟨b6, 0, none⟩) (cs := [.bool false, .slice none 0 0, .slice none 0 0]) (g := true) kr kr kr ir (j98.cells 1 rfl rfl) (Res.tmp kr Res.nil)) kr ?_
  have hend := (sc_dot hDv ht95 : scoreV d v a = _)
  exact ⟨j98.upd, _, rfl, _, by rw [hend], by rw [hend]; exact raw_zero⟩
 have A100 := A92.set 42 (v' := .bool false) kr rfl (zG hc93)
 have ht101 : (D.2) = 0 := by simpa using hc93
 refine i_skip ?_
 refine zA (C90 _ _ ?_)
 refine zD (fun K102 C102 => ?_)
 refine zD (fun K103 C103 => ?_)
 refine zC ?_
 refine zB 1 [(46, .pointer (some ⟨b2, 0, none⟩))] A100 kr kr (fun a104 A104 => ?_)
 refine wplI A104 kr (zJ (d := 47) (v := .agg #[.bool d.neg, .slice ad len cap, .slice ae le ce]) A104 kr (zF (t := 25) (g := true) (vs := [.bool d.neg, .slice ad len cap, .slice ae le ce]) (ad := ⟨b2, 0, none⟩) rfl kr kr ir (j88.cells 3 rfl rfl)) ?_)
 intro a105 A105
 refine wplI A105 kr (zJ (d := 48) (v := .agg #[.bool D.1.neg, .slice ad83 len83 cap83, .slice ae83 le83 ce83]) A105 kr (zF (t := 25) (g := true) (vs := [.bool D.1.neg, .slice ad83 len83 cap83, .slice ae83 le83 ce83]) (ad := ⟨b86, 0, none⟩) rfl kr kr ir (j88.cells 0 rfl rfl)) ?_)
 intro a106 A106
 refine wplI A106 kr (zK (d := 49) (f := 17) (cap := #[]) (vs := #[.agg #[.bool d.neg, .slice ad len cap, .slice ae le ce], .agg #[.bool D.1.neg, .slice ad83 len83 cap83, .slice ae83 le83 ce83]]) A106 kr j88 rfl kr kr (fun w => Try.call17 _ w) (rMul_c _ _ j88.lt d _ _ _ (h.mono (Le9 q2 q4 q6 q16 q81 q82 q83 q86 q88)) _ _ _ (h2.mono (Le9 q2 q4 q6 q16 q81 q82 q83 q86 q88)) D.1 _ _ _ (hN83.mono (Le2 q86 q88)) _ _ _ (hD83.mono (Le2 q86 q88))) ?_)
 rintro v107 w107 j107 q107 hu107 ⟨u107, rfl, ⟨ad107, len107, cap107, ae107, le107, ce107, rfl, hN107, hD107⟩⟩ a108 A108
 refine zB 3 [(51, .int .i64 (opE d D.1 (d.rat * D.1.rat))), (50, .agg #[.bool ((opR d D.1 (d.rat * D.1.rat)).neg), .slice ad107 len107 cap107, .slice ae107 le107 ce107]), (45, .tuple #[.agg #[.bool ((opR d D.1 (d.rat * D.1.rat)).neg), .slice ad107 len107 cap107, .slice ae107 le107 ce107], .int .i64 (opE d D.1 (d.rat * D.1.rat))])] A108 kr kr (fun a109 A109 => ?_)
 refine wplI A109 kr (zO (t := 25) (b := b86) (off := 0) (c' := #[.bool ((opR d D.1 (d.rat * D.1.rat)).neg), .slice ad107 len107 cap107, .slice ae107 le107 ce107]) (g := true) (m := 3) 0 _ A109 kr j107 rfl kr rfl kr kr kr rfl (by first | decide | (simp; done)) kr rfl ?_)
 intro w110 j110 q110
 refine zB 1 [(13, .int .i64 (opE d D.1 (d.rat * D.1.rat)))] A109 kr kr (fun a111 A111 => ?_)
 refine zE ?_
 refine zA (C103 _ _ ?_)
 refine zD (fun K112 C112 => ?_)
 refine zC ?_
 refine zB 2 [(53, .bool ((opE d D.1 (d.rat * D.1.rat)) != 0)), (52, .int .i64 (opE d D.1 (d.rat * D.1.rat)))] A111 kr kr (fun a113 A113 => ?_)
 refine zE ?_
 refine zA (C112 _ _ ?_)
 refine zS ((opE d D.1 (d.rat * D.1.rat)) != 0) A113 kr kr (fun hc114 => ?_) (fun hc114 => ?_)
 ·
  have A115 := A113.set 53 (v' := .bool true) kr rfl (zG hc114)
  have ht116 : (opE d D.1 (d.rat * D.1.rat)) ≠ 0 := by simpa using hc114
  refine zD (fun K117 C117 => ?_)
  refine zC ?_
  refine zB 2 [(55, .int .i64 (opE d D.1 (d.rat * D.1.rat))), (54, .agg #[.bool false, .slice none 0 0, .slice none 0 0])] A115 kr kr (fun a118 A118 => ?_)
  refine wplI A118 kr (zO (t := 25) (b := b6) (off := 0) (c' := #[.bool false, .slice none 0 0, .slice none 0 0]) (g := true) (m := 3) 1 _ A118 kr j110 rfl kr rfl kr kr kr rfl (by first | decide | (simp; done)) kr rfl ?_)
  intro w119 j119 q119
  refine zB 1 [(7, .int .i64 (opE d D.1 (d.rat * D.1.rat)))] A118 kr kr (fun a120 A120 => ?_)
  refine zE ?_
  refine zA (C117 _ _ ?_)
  refine zQ ?_
  refine zL ?_
  refine zR (v := .tuple #[.agg #[.bool false, .slice none 0 0, .slice none 0 0], .int .i64 (opE d D.1 (d.rat * D.1.rat))]) (rs := [.cell 6 25, .tmp 7]) A120 kr (Res.cell (ad := ⟨b6, 0, none⟩) (cs := [.bool false, .slice none 0 0, .slice none 0 0]) (g := true) kr kr kr ir (j119.cells 1 rfl rfl) (Res.tmp kr Res.nil)) kr ?_
  have hend := (sc_mul hDv (by simpa using ht101) ht116 : scoreV d v a = _)
  exact ⟨j119.upd, _, rfl, _, by rw [hend], by rw [hend]; exact raw_zero⟩
 have A121 := A113.set 53 (v' := .bool false) kr rfl (zG hc114)
 have ht122 : (opE d D.1 (d.rat * D.1.rat)) = 0 := by simpa using hc114
 refine i_skip ?_
 refine zA (C102 _ _ ?_)
 refine zD (fun K123 C123 => ?_)
 refine zC ?_
 refine zB 1 [(56, .pointer (some ⟨b4, 0, none⟩))] A121 kr kr (fun a124 A124 => ?_)
 refine wplI A124 kr (zJ (d := 57) (v := .agg #[.bool a.cost.neg, .slice ad2 len2 cap2, .slice ae2 le2 ce2]) A124 kr (zF (t := 25) (g := true) (vs := [.bool a.cost.neg, .slice ad2 len2 cap2, .slice ae2 le2 ce2]) (ad := ⟨b4, 0, none⟩) rfl kr kr ir (j110.cells 2 rfl rfl)) ?_)
 intro a125 A125
 refine wplI A125 kr (zJ (d := 58) (v := .agg #[.bool ((opR d D.1 (d.rat * D.1.rat)).neg), .slice ad107 len107 cap107, .slice ae107 le107 ce107]) A125 kr (zF (t := 25) (g := true) (vs := [.bool ((opR d D.1 (d.rat * D.1.rat)).neg), .slice ad107 len107 cap107, .slice ae107 le107 ce107]) (ad := ⟨b86, 0, none⟩) rfl kr kr ir (j110.cells 0 rfl rfl)) ?_)
 intro a126 A126
 refine wplI A126 kr (zK (d := 59) (f := 16) (cap := #[]) (vs := #[.agg #[.bool a.cost.neg, .slice ad2 len2 cap2, .slice ae2 le2 ce2], .agg #[.bool ((opR d D.1 (d.rat * D.1.rat)).neg), .slice ad107 len107 cap107, .slice ae107 le107 ce107]]) A126 kr j110 rfl kr kr (fun w => Try.call16 _ w) (rAdd_c _ _ j110.lt a.cost _ _ _ (h3.mono (Le11 q2 q4 q6 q16 q81 q82 q83 q86 q88 q107 q110)) _ _ _ (h4.mono (Le11 q2 q4 q6 q16 q81 q82 q83 q86 q88 q107 q110)) (opR d D.1 (d.rat * D.1.rat)) _ _ _ (hN107.mono q110) _ _ _ (hD107.mono q110)) ?_)
 rintro v127 w127 j127 q127 hu127 ⟨u127, rfl, ⟨ad127, len127, cap127, ae127, le127, ce127, rfl, hN127, hD127⟩⟩ a128 A128
 refine zB 2 [(61, .int .i64 (opE a.cost (opR d D.1 (d.rat * D.1.rat)) (a.cost.rat + (opR d D.1 (d.rat * D.1.rat)).rat))), (60, .agg #[.bool ((opR a.cost (opR d D.1 (d.rat * D.1.rat)) (a.cost.rat + (opR d D.1 (d.rat * D.1.rat)).rat)).neg), .slice ad127 len127 cap127, .slice ae127 le127 ce127])] A128 kr kr (fun a129 A129 => ?_)
 refine wplI A129 kr (zO (t := 25) (b := b6) (off := 0) (c' := #[.bool ((opR a.cost (opR d D.1 (d.rat * D.1.rat)) (a.cost.rat + (opR d D.1 (d.rat * D.1.rat)).rat)).neg), .slice ad127 len127 cap127, .slice ae127 le127 ce127]) (g := true) (m := 3) 1 _ A129 kr j127 rfl kr rfl kr kr kr rfl (by first | decide | (simp; done)) kr rfl ?_)
 intro w130 j130 q130
 refine zB 1 [(7, .int .i64 (opE a.cost (opR d D.1 (d.rat * D.1.rat)) (a.cost.rat + (opR d D.1 (d.rat * D.1.rat)).rat)))] A129 kr kr (fun a131 A131 => ?_)
 refine zE ?_
 refine zA (C123 _ _ ?_)
 refine zQ ?_
 refine zR (v := .tuple #[.agg #[.bool ((opR a.cost (opR d D.1 (d.rat * D.1.rat)) (a.cost.rat + (opR d D.1 (d.rat * D.1.rat)).rat)).neg), .slice ad127 len127 cap127, .slice ae127 le127 ce127], .int .i64 (opE a.cost (opR d D.1 (d.rat * D.1.rat)) (a.cost.rat + (opR d D.1 (d.rat * D.1.rat)).rat))]) (rs := [.cell 6 25, .tmp 7]) A131 kr (Res.cell (ad := ⟨b6, 0, none⟩) (cs := [.bool ((opR a.cost (opR d D.1 (d.rat * D.1.rat)) (a.cost.rat + (opR d D.1 (d.rat * D.1.rat)).rat)).neg), .slice ad127 len127 cap127, .slice ae127 le127 ce127]) (g := true) kr kr kr ir (j130.cells 1 rfl rfl) (Res.tmp kr Res.nil)) kr ?_
 have hend := (sc_add hDv (by simpa using ht101) (by simpa using ht122) : scoreV d v a = _)
 exact ⟨j130.upd, _, rfl, _, by rw [hend], by rw [hend]; exact ⟨_, _, _, _, _, _, rfl, (hN127.mono q130).mono j130.le, (hD127.mono q130).mono j130.le⟩⟩
end Go.Proofs.Ytoocgllbbihoaaa
namespace Go.Proofs.Ytoocgllbbihoaaa
open Go Go.Gv Go.RowKit
set_option maxRecDepth 100000
set_option maxHeartbeats 1000000
theorem scores_c (w : World) (X : Hid) (hX : ∀ k o, X k o → k < w.heap.size) (d : Bool) (ad : Option Addr) (len cap : Nat) (ae : Option Addr) (le ce : Nat) (st : Option Addr) (ls cs : Nat) (av : Option Addr) (lv cv : Nat) (aa : Option Addr) (la ca : Nat) : Calls Try.prog 28 #[.agg #[.bool d, .slice ad len cap, .slice ae le ce, .slice st ls cs], .slice av lv cv, .slice aa la ca] w (Ret E0 w fun w' u => ∃ b1 b2 b3, u = .func (.func 48) #[] #[.pointer (some ⟨b1, 0, none⟩), .pointer (some ⟨b2, 0, none⟩), .pointer (some ⟨b3, 0, none⟩)] ∧ At (rd w' X) ⟨b1, 0, none⟩ [.slice aa la ca] ∧ At (rd w' X) ⟨b2, 0, none⟩ [.bool d, .slice ad len cap, .slice ae le ce, .slice st ls cs] ∧ At (rd w' X) ⟨b3, 0, none⟩ [.slice av lv cv]) := by
 refine zZ (n := 8) (vs := [.agg #[.bool d, .slice ad len cap, .slice ae le ce, .slice st ls cs], .slice av lv cv, .slice aa la ca]) Try.func28 rfl rfl rfl kr (fun a0 A0 => ?_)
 have A0 : Fr 8 a0 [(0, .agg #[.bool d, .slice ad len cap, .slice ae le ce, .slice st ls cs]), (1, .slice av lv cv), (2, .slice aa la ca)] := A0
 have j0 : St E0 w X w X [] := St.start hX
 refine zD (fun K1 C1 => ?_)
 refine zC ?_
 refine wplI A0 kr (zN (d := 3) (fun b => .pointer (some ⟨b, 0, none⟩)) (.cells #[.bool d, .slice ad len cap, .slice ae le ce, .slice st ls cs] 28 (0, 0)) A0 kr j0 kw ?_)
 intro b2 w2 Y2 j2 q2 hu2 a3 A3
 refine wplI A3 kr (zN (d := 4) (fun b => .pointer (some ⟨b, 0, none⟩)) (.cells #[.slice av lv cv] 29 (0, 0)) A3 kr j2 kw ?_)
 intro b4 w4 Y4 j4 q4 hu4 a5 A5
 refine wplI A5 kr (zN (d := 5) (fun b => .pointer (some ⟨b, 0, none⟩)) (.cells #[.slice aa la ca] 40 (0, 0)) A5 kr j4 kw ?_)
 intro b6 w6 Y6 j6 q6 hu6 a7 A7
 refine zB 1 [(6, .nilFunc)] A7 kr kr (fun a8 A8 => ?_)
 refine zE ?_
 refine zA (C1 _ _ ?_)
 refine zD (fun K9 C9 => ?_)
 refine zC ?_
 refine zB 2 [(6, .func (.func 48) #[] #[.pointer (some ⟨b6, 0, none⟩), .pointer (some ⟨b2, 0, none⟩), .pointer (some ⟨b4, 0, none⟩)]), (7, .func (.func 48) #[] #[.pointer (some ⟨b6, 0, none⟩), .pointer (some ⟨b2, 0, none⟩), .pointer (some ⟨b4, 0, none⟩)])] A8 kr kr (fun a10 A10 => ?_)
 refine zE ?_
 refine zA (C9 _ _ ?_)
 refine zQ ?_
 refine zR (v := .func (.func 48) #[] #[.pointer (some ⟨b6, 0, none⟩), .pointer (some ⟨b2, 0, none⟩), .pointer (some ⟨b4, 0, none⟩)]) (rs := [.tmp 6]) A10 kr (Res.tmp kr Res.nil) kr ?_
 obtain ⟨j11, q11, hat11⟩ := St.publish j6 (j6.own_ge 0 rfl)
 obtain ⟨j12, q12, hat12⟩ := St.publish j11 (j11.own_ge 0 rfl)
 obtain ⟨j13, q13, hat13⟩ := St.publish j12 (j12.own_ge 0 rfl)
 exact ⟨j13.upd, _, rfl, b6, b2, b4, rfl, (hat11.mono (Le2 q12 q13)).mono j13.le, (hat13.mono (Le.refl _)).mono j13.le, (hat12.mono q13).mono j13.le⟩
theorem scores1_c (l b1 b2 b3 : Nat) (r : Rd) (d : Raw) (ad : Option Addr) (len cap : Nat) (hd1 : Limbs r ad len cap d.ln) (ae : Option Addr) (le ce : Nat) (hd2 : Limbs r ae le ce d.ld) (st : Option Addr) (ls cs : Nat) (v : List Raw) (av : Option Addr) (lv cv : Nat) (hv : Rats r av lv cv v) (hlv : lv ≤ 1099511627776) (acts : List Actn) (aa : Option Addr) (la ca : Nat) (ha : ActsR r aa la ca acts) (hla : la ≤ 1000000) (hacts : ∀ a ∈ acts, a.next.length ≤ 1000000 ∧ ∀ o ∈ a.next, 0 ≤ o.to ∧ o.to < v.length)
    (h1 : At r ⟨b1, 0, none⟩ [.slice aa la ca]) (h2 : At r ⟨b2, 0, none⟩ [.bool d.neg, .slice ad len cap, .slice ae le ce, .slice st ls cs]) (h3 : At r ⟨b3, 0, none⟩ [.slice av lv cv]) (J : Nat → World → Hid → Prop) (R : World → Prop)
    (hread : ∀ k w Z, J k w Z → (∀ b o, Z b o → b < w.heap.size) ∧ Le r (rd w Z)) (hup : ∀ k w Z, J k w Z → ∀ w', Upd E0 w w' → J k w' Z)
    (hY : ∀ k w Z, k < acts.length → J k w Z → ∀ a u, acts[k]? = some a → RawX Z w u (scoreV d v a).1 → YieldAt (FF none) 0 Try.prog l #[u, .int .i64 (scoreV d v a).2] w (Rounds (fun w => if (scoreV d v a).2 = 0 then ∃ Z, J (k + 1) w Z else R w) R))
    (h0 : ∀ w Z, J acts.length w Z → R w) (w : World) (Z : Hid) (hJ : J 0 w Z) : Calls Try.prog 48 #[.func (.yield l) #[] #[], .pointer (some ⟨b1, 0, none⟩), .pointer (some ⟨b2, 0, none⟩), .pointer (some ⟨b3, 0, none⟩)] w (fun e w' => (∃ v, e = .returned v) ∧ R w') := by
 obtain rfl := hv.hlen
 obtain rfl := ha.hlen
 have hcapa := ha.hcap
 have hbiga := ha.hbig
 have hcapv := hv.hcap
 have hbigv := hv.hbig
 refine zZ (n := 32) (vs := [.func (.yield l) #[] #[], .pointer (some ⟨b1, 0, none⟩), .pointer (some ⟨b2, 0, none⟩), .pointer (some ⟨b3, 0, none⟩)]) Try.func48 rfl rfl rfl kr (fun a0 A0 => ?_)
 have A0 : Fr 32 a0 [(0, .func (.yield l) #[] #[]), (1, .pointer (some ⟨b1, 0, none⟩)), (2, .pointer (some ⟨b2, 0, none⟩)), (3, .pointer (some ⟨b3, 0, none⟩))] := A0
 have j0 : St E0 w Z w Z [] := St.start (hread _ _ _ hJ).1
 have q0 := (hread _ _ _ hJ).2
 refine zD (fun K1 C1 => ?_)
 refine zC ?_
 refine wplI A0 kr (zJ (d := 9) (v := .slice aa acts.length ca) A0 kr (zF (t := 40) (g := false) (vs := [.slice aa acts.length ca]) (ad := ⟨b1, 0, none⟩) rfl kr kr ir ((h1.mono q0)).cells) ?_)
 intro a2 A2
 refine zB 2 [(11, .int .i64 0), (10, .int .i64 (acts.length : Int))] A2 kr kr (fun a3 A3 => ?_)
 refine zE ?_
 refine zA (C1 _ _ ?_)
 refine zV ?_
 refine qC (fun (k : Nat) ac w1 => Fr 32 ac [(0, .func (.yield l) #[] #[]), (2, .pointer (some ⟨b2, 0, none⟩)), (3, .pointer (some ⟨b3, 0, none⟩)), (9, .slice aa acts.length ca), (10, .int .i64 (acts.length : Int)), (11, .int .i64 (k : Int))] ∧ (∃ Z, J k w1 Z) ∧ k ≤ acts.length) (fun k => acts.length - k) 0 ?_ ?_
 ·
  exact ⟨A3.as [0, 2, 3, 9, 10, 11] kr kr, ⟨_, hJ⟩, Nat.zero_le _⟩
 rintro k a4 w4 ⟨A4, ⟨Z4, hJ4⟩, hk⟩
 have j4 : St E0 w4 Z4 w4 Z4 [] := St.start (hread _ _ _ hJ4).1
 have q4 := (hread _ _ _ hJ4).2
 refine zD (fun K5 C5 => ?_)
 refine zC ?_
 refine zB 1 [(12, .bool (decide ((k : Int) < (acts.length : Int))))] A4 kr kr (fun a6 A6 => ?_)
 refine zE ?_
 refine zA (C5 _ _ ?_)
 refine zD (fun K7 C7 => ?_)
 refine zS (decide ((k : Int) < (acts.length : Int))) A6 kr kr (fun hc8 => ?_) (fun hc8 => ?_)
 ·
  have A9 := A6.set 12 (v' := .bool true) kr rfl (zG hc8)
  have ht10 : (k : Int) < (acts.length : Int) := of_decide_eq_true hc8
  obtain ⟨b9a, off9a, rfl⟩ := ha.addr (by omega)
  obtain ⟨xa, a1a, a2a, a3a, a4a, a5a, a6a, a7a, a8a, a9a, hxa, hAa, hLa, hMa, hOa⟩ := ha.at (k := k) (by omega)
  have hin := hacts xa (List.mem_of_getElem? hxa)
  refine i_skip ?_
  refine zA (C7 _ _ ?_)
  refine zD (fun K11 C11 => ?_)
  refine zV ?_
  refine zD (fun K12 C12 => ?_)
  refine zC ?_
  refine wplI A9 kr (zJ (d := 13) (v := .pointer (some ⟨b9a, off9a + k * 4, none⟩)) A9 kr (zP (t := 40) (e := 55) (b := b9a) (off := off9a) (len := acts.length) (cap := ca) (kd := .i64) (i := (k : Int)) (g := true) (m := 4) (off' := off9a + k * 4) rfl kr kr kr kr (by omega) (by omega) (by first | rfl | omega | (simp; done) | (simp; omega)) _) ?_)
  intro a13 A13
  refine wplI A13 kr (zJ (d := 14) (v := .agg #[.bool xa.cost.neg, .slice a1a a2a a3a, .slice a4a a5a a6a, .slice a7a a8a a9a]) A13 kr (zF (t := 55) (g := true) (vs := [.bool xa.cost.neg, .slice a1a a2a a3a, .slice a4a a5a a6a, .slice a7a a8a a9a]) (ad := ⟨b9a, off9a + k * 4, none⟩) rfl kr kr ir ((hAa.mono q4)).cells) ?_)
  intro a14 A14
  refine wplI A14 kr (zN (d := 6) (fun b => .pointer (some ⟨b, 0, none⟩)) (.cells #[.bool false, .slice none 0 0, .slice none 0 0, .slice none 0 0] 55 (0, 0)) A14 kr j4 kw ?_)
  intro b15 w15 Y15 j15 q15 hu15 a16 A16
  refine wplI A16 kr (zO (t := 55) (b := b15) (off := 0) (c' := #[.bool xa.cost.neg, .slice a1a a2a a3a, .slice a4a a5a a6a, .slice a7a a8a a9a]) (g := true) (m := 4) 0 _ A16 kr j15 rfl kr rfl kr kr kr rfl (by first | decide | (simp; done)) kr rfl ?_)
  intro w17 j17 q17
  refine zE ?_
  refine zA (C12 _ _ ?_)
  refine zD (fun K18 C18 => ?_)
  refine zC ?_
  refine wplI A16 kr (zJ (d := 16) (v := .agg #[.bool d.neg, .slice ad len cap, .slice ae le ce, .slice st ls cs]) A16 kr (zF (t := 28) (g := true) (vs := [.bool d.neg, .slice ad len cap, .slice ae le ce, .slice st ls cs]) (ad := ⟨b2, 0, none⟩) rfl kr kr ir ((h2.mono (Le3 q4 q15 q17))).cells) ?_)
  intro a19 A19
  refine wplI A19 kr (zJ (d := 17) (v := .slice av v.length cv) A19 kr (zF (t := 29) (g := false) (vs := [.slice av v.length cv]) (ad := ⟨b3, 0, none⟩) rfl kr kr ir ((h3.mono (Le3 q4 q15 q17))).cells) ?_)
  intro a20 A20
  refine wplI A20 kr (zJ (d := 18) (v := .agg #[.bool xa.cost.neg, .slice a1a a2a a3a, .slice a4a a5a a6a, .slice a7a a8a a9a]) A20 kr (zF (t := 55) (g := true) (vs := [.bool xa.cost.neg, .slice a1a a2a a3a, .slice a4a a5a a6a, .slice a7a a8a a9a]) (ad := ⟨b15, 0, none⟩) rfl kr kr ir (j17.cells 0 rfl rfl)) ?_)
  intro a21 A21
  refine wplI A21 kr (zK (d := 19) (f := 31) (cap := #[]) (vs := #[.agg #[.bool d.neg, .slice ad len cap, .slice ae le ce, .slice st ls cs], .slice av v.length cv, .agg #[.bool xa.cost.neg, .slice a1a a2a a3a, .slice a4a a5a a6a, .slice a7a a8a a9a]]) A21 kr j17 rfl kr kr (fun w => Try.call31 _ w) (score_c _ _ j17.lt d _ _ _ (hd1.mono (Le3 q4 q15 q17)) _ _ _ (hd2.mono (Le3 q4 q15 q17)) _ _ _ v _ _ _ (hv.mono (Le3 q4 q15 q17)) (by omega) xa _ _ _ (hLa.mono (Le3 q4 q15 q17)) _ _ _ (hMa.mono (Le3 q4 q15 q17)) _ _ _ (hOa.mono (Le3 q4 q15 q17)) hin.1 hin.2) ?_)
  rintro v22 w22 j22 q22 hu22 ⟨u22, rfl, ⟨ad22, len22, cap22, ae22, le22, ce22, rfl, hN22, hD22⟩⟩ a23 A23
  refine zB 3 [(21, .int .i64 ((scoreV d v xa).2)), (20, .agg #[.bool ((scoreV d v xa).1.neg), .slice ad22 len22 cap22, .slice ae22 le22 ce22]), (15, .tuple #[.agg #[.bool ((scoreV d v xa).1.neg), .slice ad22 len22 cap22, .slice ae22 le22 ce22], .int .i64 ((scoreV d v xa).2)])] A23 kr kr (fun a24 A24 => ?_)
  refine wplI A24 kr (zN (d := 7) (fun b => .pointer (some ⟨b, 0, none⟩)) (.cells #[.bool false, .slice none 0 0, .slice none 0 0] 25 (0, 0)) A24 kr j22 kw ?_)
  intro b25 w25 Y25 j25 q25 hu25 a26 A26
  refine wplI A26 kr (zO (t := 25) (b := b25) (off := 0) (c' := #[.bool ((scoreV d v xa).1.neg), .slice ad22 len22 cap22, .slice ae22 le22 ce22]) (g := true) (m := 3) 0 _ A26 kr j25 rfl kr rfl kr kr kr rfl (by first | decide | (simp; done)) kr rfl ?_)
  intro w27 j27 q27
  refine zB 1 [(8, .int .i64 ((scoreV d v xa).2))] A26 kr kr (fun a28 A28 => ?_)
  refine zE ?_
  refine zA (C18 _ _ ?_)
  refine zD (fun K29 C29 => ?_)
  refine zC ?_
  refine zB 1 [(22, .func (.yield l) #[] #[])] A28 kr kr (fun a30 A30 => ?_)
  refine wplI A30 kr (zJ (d := 23) (v := .agg #[.bool ((scoreV d v xa).1.neg), .slice ad22 len22 cap22, .slice ae22 le22 ce22]) A30 kr (zF (t := 25) (g := true) (vs := [.bool ((scoreV d v xa).1.neg), .slice ad22 len22 cap22, .slice ae22 le22 ce22]) (ad := ⟨b25, 0, none⟩) rfl kr kr ir (j27.cells 0 rfl rfl)) ?_)
  intro a31 A31
  refine zB 1 [(24, .int .i64 ((scoreV d v xa).2))] A31 kr kr (fun a32 A32 => ?_)
  refine wpl_yield (d := 25) (l := l) (vs := #[.agg #[.bool ((scoreV d v xa).1.neg), .slice ad22 len22 cap22, .slice ae22 le22 ce22], .int .i64 ((scoreV d v xa).2)]) A32 kr rfl kr kr (hY k _ _ (by omega) (hup _ _ _ hJ4 _ j27.upd) xa _ hxa ⟨_, _, _, _, _, _, rfl, (hN22.mono (Le2 q25 q27)).mono j27.le, (hD22.mono (Le2 q25 q27)).mono j27.le⟩) (fun _ _ h => h.ret) ?_
  rintro v33 w33 ⟨bb33, hv33, hJ33, hR33⟩ a34 A34
  cases hv33
  have j33 : St E0 w33 X0 w33 X0 [] := St.start (X0_lt _)
  refine zB 2 [(27, .bool (!bb33)), (26, .bool (!bb33))] A34 kr kr (fun a35 A35 => ?_)
  rcases Bool.eq_false_or_eq_true (!bb33) with hc36 | hc36
  ·
   have A37 := A35.set 27 (v' := .bool true) kr rfl (zG hc36)
   have ht38 : bb33 = false := by simpa using hc36
   refine zB 3 [(30, .bool true), (29, undef), (28, undef)] A37 kr kr (fun a39 A39 => ?_)
   refine zE ?_
   refine zA (C29 _ _ ?_)
   refine qG A39 kr kr ?_
   refine zQ ?_
   refine zU ?_
   refine zL ?_
   refine zL ?_
   refine zU ?_
   refine zR (v := .tuple #[]) (rs := []) A39 kr Res.nil kr ?_
   exact ⟨⟨_, rfl⟩, (hR33 ht38)⟩
  have A40 := A35.set 27 (v' := .bool false) kr rfl (zG hc36)
  have ht41 : bb33 = true := by simpa using hc36
  refine zB 3 [(30, .bool (((scoreV d v xa).2) != 0)), (29, .bool (((scoreV d v xa).2) != 0)), (28, .int .i64 ((scoreV d v xa).2))] A40 kr kr (fun a42 A42 => ?_)
  refine zE ?_
  refine zA (C29 _ _ ?_)
  refine zS (((scoreV d v xa).2) != 0) A42 kr kr (fun hc43 => ?_) (fun hc43 => ?_)
  ·
   have A44 := A42.set 30 (v' := .bool true) kr rfl (zG hc43)
   have ht45 : ((scoreV d v xa).2) ≠ 0 := by simpa using hc43
   refine zQ ?_
   refine zU ?_
   refine zL ?_
   refine zL ?_
   refine zU ?_
   refine zR (v := .tuple #[]) (rs := []) A44 kr Res.nil kr ?_
   exact ⟨⟨_, rfl⟩, (by have h9 := hJ33 ht41; simp only [if_neg ht45] at h9; exact h9)⟩
  have A46 := A42.set 30 (v' := .bool false) kr rfl (zG hc43)
  have ht47 : ((scoreV d v xa).2) = 0 := by simpa using hc43
  refine i_skip ?_
  refine zW ?_
  refine zA (C11 _ _ ?_)
  refine zC ?_
  refine zB 1 [(31, .int .i64 (IntKind.i64.wrap ((k : Int) + 1)))] A46 kr kr (fun a48 A48 => ?_)
  have A49 := A48.set 31 (v' := .int .i64 ((k : Int) + 1)) kr rfl (vint (wi64 (by omega) (by omega)))
  refine zB 1 [(11, .int .i64 ((k : Int) + 1))] A49 kr kr (fun a50 A50 => ?_)
  refine zE ?_
  refine zA ?_
  exact ⟨k + 1, ⟨A50.as [0, 2, 3, 9, 10, 11] kr kr, (by have h9 := hJ33 ht41; simp only [if_pos ht47] at h9; exact h9), by omega⟩, by omega⟩
 have A51 := A6.set 12 (v' := .bool false) kr rfl (zG hc8)
 have ht52 : ¬ ((k : Int) < (acts.length : Int)) := of_decide_eq_false hc8
 refine i_exit ?_
 refine zT ?_
 refine zT ?_
 refine qA ?_
 refine c_end (v := .tuple #[]) (rs := []) A51 kr Res.nil kr ?_
 exact ⟨⟨_, rfl⟩, (h0 _ _ ((show k = acts.length by omega) ▸ hJ4))⟩
end Go.Proofs.Ytoocgllbbihoaaa
namespace Go.Proofs.Ytoocgllbbihoaaa
open Go Go.Gv Go.RowKit
set_option maxRecDepth 100000
set_option maxHeartbeats 1000000
section
variable {m : Mdp} {v : List Raw} {s a : Int} {sx : List Actn} {xa : Actn}
theorem score_range (h : ¬ m.chkV v ≠ 0) (hs : sx ∈ m.states) (ha : xa ∈ sx) : xa.next.length ≤ 1000000 ∧ ∀ o ∈ xa.next, 0 ≤ o.to ∧ o.to < v.length := by
  obtain ⟨hk, hl⟩ := Mdp.chkV_ok (Classical.not_not.1 h)
  obtain ⟨_, _, _, _, _, hst⟩ := Mdp.chk_ok hk
  obtain ⟨_, c2, _, c4⟩ := chkAct_ok ((hst sx hs).2.2 xa ha)
  exact ⟨by omega, fun o ho => ⟨(c2 o ho).1, by have := (c2 o ho).2.1; omega⟩⟩
theorem chkV_pos (h : ¬ m.chkV v ≠ 0) : 0 < m.states.length ∧ m.states.length ≤ 200 ∧ v.length = m.states.length := by
  obtain ⟨hk, hl⟩ := Mdp.chkV_ok (Classical.not_not.1 h)
  obtain ⟨_, _, _, h1, h2, _⟩ := Mdp.chk_ok hk
  exact ⟨h1, h2, hl⟩
theorem sa_chk (h : m.chkV v ≠ 0) : m.scoreAt v s a = (.zero, m.chkV v) := if_pos h
theorem sa_range (h : ¬ m.chkV v ≠ 0) (h2 : s < 0 ∨ (m.states.length : Int) ≤ s ∨ a < 0 ∨ ((m.states.getD s.toNat []).length : Int) ≤ a) : m.scoreAt v s a = (.zero, 8) := (if_neg h).trans (if_pos h2)
theorem sa_ok (h : ¬ m.chkV v ≠ 0) (h1 : 0 ≤ s) (h2 : s < m.states.length) (hx : m.states[s.toNat]? = some sx) (h3 : 0 ≤ a) (h4 : a < sx.length) (ha : sx[a.toNat]? = some xa) : m.scoreAt v s a = scoreV m.disc v xa := by
  unfold Mdp.scoreAt
  have e : m.states.getD s.toNat [] = sx := getD_get hx
  have e2 : actAt (m.states.getD s.toNat []) a = xa := by rw [e]; exact getD_get ha
  rw [if_neg h, if_neg (by rw [e]; omega), e2]
end
theorem Score_c (w : World) (X : Hid) (hX : ∀ k o, X k o → k < w.heap.size) (m : Mdp) (ad : Option Addr) (len cap : Nat) (h : Limbs (rd w X) ad len cap m.disc.ln) (ae : Option Addr) (le ce : Nat) (h2 : Limbs (rd w X) ae le ce m.disc.ld) (st : Option Addr) (ls cs : Nat) (hst : StatesR (rd w X) st ls cs m.states) (v : List Raw) (av : Option Addr) (lv cv : Nat) (hv : Rats (rd w X) av lv cv v) (hlv : lv ≤ 1099511627776) (i j : Int) : Calls Try.prog 13 #[.agg #[.bool m.disc.neg, .slice ad len cap, .slice ae le ce, .slice st ls cs], .slice av lv cv, .int .i64 i, .int .i64 j] w (Ret E0 w fun w' u => ∃ x, u = .tuple #[x, .int .i64 (m.scoreAt v i j).2] ∧ RawX X w' x (m.scoreAt v i j).1) := by
 obtain rfl := hv.hlen
 have hcapv := hv.hcap
 have hbigv := hv.hbig
 obtain rfl := hst.hlen
 have hcaps := hst.hcap
 have hbigs := hst.hbig
 refine zZ (n := 57) (vs := [.agg #[.bool m.disc.neg, .slice ad len cap, .slice ae le ce, .slice st m.states.length cs], .slice av v.length cv, .int .i64 i, .int .i64 j]) Try.func13 rfl rfl rfl kr (fun a0 A0 => ?_)
 have A0 : Fr 57 a0 [(0, .agg #[.bool m.disc.neg, .slice ad len cap, .slice ae le ce, .slice st m.states.length cs]), (1, .slice av v.length cv), (2, .int .i64 i), (3, .int .i64 j)] := A0
 have j0 : St E0 w X w X [] := St.start hX
 refine zD (fun K1 C1 => ?_)
 refine zC ?_
 refine wplI A0 kr (zN (d := 4) (fun b => .pointer (some ⟨b, 0, none⟩)) (.cells #[.bool m.disc.neg, .slice ad len cap, .slice ae le ce, .slice st m.states.length cs] 28 (0, 0)) A0 kr j0 kw ?_)
 intro b2 w2 Y2 j2 q2 hu2 a3 A3
 refine wplI A3 kr (zN (d := 8) (fun b => .pointer (some ⟨b, 0, none⟩)) (.cells #[.bool false, .slice none 0 0, .slice none 0 0] 25 (0, 0)) A3 kr j2 kw ?_)
 intro b4 w4 Y4 j4 q4 hu4 a5 A5
 refine zB 1 [(9, .int .i64 0)] A5 kr kr (fun a6 A6 => ?_)
 refine zE ?_
 refine zA (C1 _ _ ?_)
 refine zD (fun K7 C7 => ?_)
 refine zD (fun K8 C8 => ?_)
 refine zC ?_
 refine wplI A6 kr (zJ (d := 11) (v := .agg #[.bool m.disc.neg, .slice ad len cap, .slice ae le ce, .slice st m.states.length cs]) A6 kr (zF (t := 28) (g := true) (vs := [.bool m.disc.neg, .slice ad len cap, .slice ae le ce, .slice st m.states.length cs]) (ad := ⟨b2, 0, none⟩) rfl kr kr ir (j4.cells 1 rfl rfl)) ?_)
 intro a9 A9
 refine zB 1 [(12, .slice av v.length cv)] A9 kr kr (fun a10 A10 => ?_)
 refine wplI A10 kr (zK (d := 13) (f := 27) (cap := #[]) (vs := #[.agg #[.bool m.disc.neg, .slice ad len cap, .slice ae le ce, .slice st m.states.length cs], .slice av v.length cv]) A10 kr j4 rfl kr kr (fun w => Try.call27 _ w) (mcheck_c _ _ j4.lt m _ _ _ (h.mono (Le2 q2 q4)) _ _ _ (h2.mono (Le2 q2 q4)) _ _ _ (hst.mono (Le2 q2 q4)) _ _ _ v rfl (by omega)) ?_)
 rintro v11 w11 j11 q11 hu11 rfl a12 A12
 refine zB 1 [(10, .int .i64 (m.chkV v))] A12 kr kr (fun a13 A13 => ?_)
 refine zE ?_
 refine zA (C8 _ _ ?_)
 refine zV ?_
 refine zD (fun K14 C14 => ?_)
 refine zC ?_
 refine zB 3 [(14, .bool ((m.chkV v) != 0)), (16, .bool ((m.chkV v) != 0)), (15, .int .i64 (m.chkV v))] A13 kr kr (fun a15 A15 => ?_)
 refine zE ?_
 refine zA (C14 _ _ ?_)
 refine zS ((m.chkV v) != 0) A15 kr kr (fun hc16 => ?_) (fun hc16 => ?_)
 ·
  have A17 := A15.set 14 (v' := .bool true) kr rfl (zG hc16)
  have ht18 : (m.chkV v) ≠ 0 := by simpa using hc16
  refine zD (fun K19 C19 => ?_)
  refine zC ?_
  refine zB 2 [(18, .int .i64 (m.chkV v)), (17, .agg #[.bool false, .slice none 0 0, .slice none 0 0])] A17 kr kr (fun a20 A20 => ?_)
  refine wplI A20 kr (zO (t := 25) (b := b4) (off := 0) (c' := #[.bool false, .slice none 0 0, .slice none 0 0]) (g := true) (m := 3) 0 _ A20 kr j11 rfl kr rfl kr kr kr rfl (by first | decide | (simp; done)) kr rfl ?_)
  intro w21 j21 q21
  refine zB 1 [(9, .int .i64 (m.chkV v))] A20 kr kr (fun a22 A22 => ?_)
  refine zE ?_
  refine zA (C19 _ _ ?_)
  refine zQ ?_
  refine zU ?_
  refine zL ?_
  refine zR (v := .tuple #[.agg #[.bool false, .slice none 0 0, .slice none 0 0], .int .i64 (m.chkV v)]) (rs := [.cell 8 25, .tmp 9]) A22 kr (Res.cell (ad := ⟨b4, 0, none⟩) (cs := [.bool false, .slice none 0 0, .slice none 0 0]) (g := true) kr kr kr ir (j21.cells 0 rfl rfl) (Res.tmp kr Res.nil)) kr ?_
  have hend := (sa_chk ht18 : m.scoreAt v i j = _)
  exact ⟨j21.upd, _, rfl, _, by rw [hend], by rw [hend]; exact raw_zero⟩
 have A23 := A15.set 14 (v' := .bool false) kr rfl (zG hc16)
 have ht24 : (m.chkV v) = 0 := by simpa using hc16
 have hm0 : ¬ m.chkV v ≠ 0 := by simpa using ht24
 have hpos := chkV_pos hm0
 refine zD (fun K25 C25 => ?_)
 refine zC ?_
 refine zB 3 [(22, .bool (decide ((i) < 0))), (21, .bool (decide ((i) < 0))), (20, .int .i64 i)] A23 kr kr (fun a26 A26 => ?_)
 rcases Bool.eq_false_or_eq_true (decide ((i) < 0)) with hc27 | hc27
 ·
  have A28 := A26.set 22 (v' := .bool true) kr rfl (zG hc27)
  have ht29 : (i) < 0 := of_decide_eq_true hc27
  refine zB 21 [(19, .bool true), (42, .bool true), (41, undef), (40, undef), (39, undef), (38, undef), (37, undef), (36, undef), (35, undef), (34, undef), (33, .bool true), (32, .bool true), (31, undef), (30, undef), (29, .bool true), (28, .bool true), (27, undef), (26, undef), (25, undef), (24, undef), (23, undef)] A28 kr kr (fun a30 A30 => ?_)
  refine zE ?_
  refine zA (C25 _ _ ?_)
  refine qG A30 kr kr ?_
  refine zD (fun K31 C31 => ?_)
  refine zC ?_
  refine zB 1 [(43, .agg #[.bool false, .slice none 0 0, .slice none 0 0])] A30 kr kr (fun a32 A32 => ?_)
  refine wplI A32 kr (zO (t := 25) (b := b4) (off := 0) (c' := #[.bool false, .slice none 0 0, .slice none 0 0]) (g := true) (m := 3) 0 _ A32 kr j11 rfl kr rfl kr kr kr rfl (by first | decide | (simp; done)) kr rfl ?_)
  intro w33 j33 q33
  refine zB 1 [(9, .int .i64 8)] A32 kr kr (fun a34 A34 => ?_)
  refine zE ?_
  refine zA (C31 _ _ ?_)
  refine zQ ?_
  refine zU ?_
  refine zL ?_
  refine zR (v := .tuple #[.agg #[.bool false, .slice none 0 0, .slice none 0 0], .int .i64 8]) (rs := [.cell 8 25, .tmp 9]) A34 kr (Res.cell (ad := ⟨b4, 0, none⟩) (cs := [.bool false, .slice none 0 0, .slice none 0 0]) (g := true) kr kr kr ir (j33.cells 0 rfl rfl) (Res.tmp kr Res.nil)) kr ?_
  have hend := (sa_range hm0 (.inl ht29) : m.scoreAt v i j = _)
  exact ⟨j33.upd, _, rfl, _, by rw [hend], by rw [hend]; exact raw_zero⟩
 have A35 := A26.set 22 (v' := .bool false) kr rfl (zG hc27)
 have ht36 : ¬ ((i) < 0) := of_decide_eq_false hc27
 refine zB 2 [(24, .pointer (some ⟨b2, 3, none⟩)), (23, .int .i64 i)] A35 kr kr (fun a37 A37 => ?_)
 refine wplI A37 kr (zJ (d := 25) (v := .slice st m.states.length cs) A37 kr (zF (t := 26) (g := false) (vs := [.slice st m.states.length cs]) (ad := ⟨b2, 3, none⟩) rfl kr kr ir (j11.cells 1 rfl rfl)) ?_)
 intro a38 A38
 refine zB 4 [(29, .bool (decide ((i) ≥ (m.states.length : Int)))), (28, .bool (decide ((i) ≥ (m.states.length : Int)))), (27, .bool (decide ((i) ≥ (m.states.length : Int)))), (26, .int .i64 (m.states.length : Int))] A38 kr kr (fun a39 A39 => ?_)
 rcases Bool.eq_false_or_eq_true (decide ((i) ≥ (m.states.length : Int))) with hc40 | hc40
 ·
  have A41 := A39.set 29 (v' := .bool true) kr rfl (zG hc40)
  have ht42 : (i) ≥ (m.states.length : Int) := of_decide_eq_true hc40
  refine zB 14 [(19, .bool true), (42, .bool true), (41, undef), (40, undef), (39, undef), (38, undef), (37, undef), (36, undef), (35, undef), (34, undef), (33, .bool true), (32, .bool true), (31, undef), (30, undef)] A41 kr kr (fun a43 A43 => ?_)
  refine zE ?_
  refine zA (C25 _ _ ?_)
  refine qG A43 kr kr ?_
  refine zD (fun K44 C44 => ?_)
  refine zC ?_
  refine zB 1 [(43, .agg #[.bool false, .slice none 0 0, .slice none 0 0])] A43 kr kr (fun a45 A45 => ?_)
  refine wplI A45 kr (zO (t := 25) (b := b4) (off := 0) (c' := #[.bool false, .slice none 0 0, .slice none 0 0]) (g := true) (m := 3) 0 _ A45 kr j11 rfl kr rfl kr kr kr rfl (by first | decide | (simp; done)) kr rfl ?_)
  intro w46 j46 q46
  refine zB 1 [(9, .int .i64 8)] A45 kr kr (fun a47 A47 => ?_)
  refine zE ?_
  refine zA (C44 _ _ ?_)
  refine zQ ?_
  refine zU ?_
  refine zL ?_
  refine zR (v := .tuple #[.agg #[.bool false, .slice none 0 0, .slice none 0 0], .int .i64 8]) (rs := [.cell 8 25, .tmp 9]) A47 kr (Res.cell (ad := ⟨b4, 0, none⟩) (cs := [.bool false, .slice none 0 0, .slice none 0 0]) (g := true) kr kr kr ir (j46.cells 0 rfl rfl) (Res.tmp kr Res.nil)) kr ?_
  have hend := (sa_range hm0 (.inr (.inl (by omega))) : m.scoreAt v i j = _)
  exact ⟨j46.upd, _, rfl, _, by rw [hend], by rw [hend]; exact raw_zero⟩
 have A48 := A39.set 29 (v' := .bool false) kr rfl (zG hc40)
 have ht49 : ¬ ((i) ≥ (m.states.length : Int)) := of_decide_eq_false hc40
 obtain ⟨b0, off0, rfl⟩ := hst.addr (by omega)
 obtain ⟨sx, ax, lx, cx, hxs, hAs, hacts⟩ := hst.at (k := i.toNat) (by omega)
 obtain rfl := hacts.hlen
 have hcapx := hacts.hcap
 have hbigx := hacts.hbig
 have hAs1 : At (rd w X) ⟨b0, off0 + i.toNat, none⟩ [.slice ax sx.length cx] := by simpa using hAs
 refine zB 4 [(33, .bool (decide ((j) < 0))), (32, .bool (decide ((j) < 0))), (31, .bool (decide ((j) < 0))), (30, .int .i64 j)] A48 kr kr (fun a50 A50 => ?_)
 rcases Bool.eq_false_or_eq_true (decide ((j) < 0)) with hc51 | hc51
 ·
  have A52 := A50.set 33 (v' := .bool true) kr rfl (zG hc51)
  have ht53 : (j) < 0 := of_decide_eq_true hc51
  refine zB 10 [(19, .bool true), (42, .bool true), (41, undef), (40, undef), (39, undef), (38, undef), (37, undef), (36, undef), (35, undef), (34, undef)] A52 kr kr (fun a54 A54 => ?_)
  refine zE ?_
  refine zA (C25 _ _ ?_)
  refine qG A54 kr kr ?_
  refine zD (fun K55 C55 => ?_)
  refine zC ?_
  refine zB 1 [(43, .agg #[.bool false, .slice none 0 0, .slice none 0 0])] A54 kr kr (fun a56 A56 => ?_)
  refine wplI A56 kr (zO (t := 25) (b := b4) (off := 0) (c' := #[.bool false, .slice none 0 0, .slice none 0 0]) (g := true) (m := 3) 0 _ A56 kr j11 rfl kr rfl kr kr kr rfl (by first | decide | (simp; done)) kr rfl ?_)
  intro w57 j57 q57
  refine zB 1 [(9, .int .i64 8)] A56 kr kr (fun a58 A58 => ?_)
  refine zE ?_
  refine zA (C55 _ _ ?_)
  refine zQ ?_
  refine zU ?_
  refine zL ?_
  refine zR (v := .tuple #[.agg #[.bool false, .slice none 0 0, .slice none 0 0], .int .i64 8]) (rs := [.cell 8 25, .tmp 9]) A58 kr (Res.cell (ad := ⟨b4, 0, none⟩) (cs := [.bool false, .slice none 0 0, .slice none 0 0]) (g := true) kr kr kr ir (j57.cells 0 rfl rfl) (Res.tmp kr Res.nil)) kr ?_
  have hend := (sa_range hm0 (.inr (.inr (.inl ht53))) : m.scoreAt v i j = _)
  exact ⟨j57.upd, _, rfl, _, by rw [hend], by rw [hend]; exact raw_zero⟩
 have A59 := A50.set 33 (v' := .bool false) kr rfl (zG hc51)
 have ht60 : ¬ ((j) < 0) := of_decide_eq_false hc51
 refine zB 2 [(35, .pointer (some ⟨b2, 3, none⟩)), (34, .int .i64 j)] A59 kr kr (fun a61 A61 => ?_)
 refine wplI A61 kr (zJ (d := 36) (v := .slice (some ⟨b0, off0, none⟩) m.states.length cs) A61 kr (zF (t := 26) (g := false) (vs := [.slice (some ⟨b0, off0, none⟩) m.states.length cs]) (ad := ⟨b2, 3, none⟩) rfl kr kr ir (j11.cells 1 rfl rfl)) ?_)
 intro a62 A62
 refine zB 1 [(37, .int .i64 i)] A62 kr kr (fun a63 A63 => ?_)
 refine wplI A63 kr (zJ (d := 38) (v := .pointer (some ⟨b0, off0 + i.toNat, none⟩)) A63 kr (zP (t := 26) (e := 40) (b := b0) (off := off0) (len := m.states.length) (cap := cs) (kd := .i64) (i := i) (g := false) (m := 1) (off' := off0 + i.toNat) rfl kr kr kr kr (by omega) (by omega) (by first | rfl | omega | (simp; done) | (simp; omega)) _) ?_)
 intro a64 A64
 refine wplI A64 kr (zJ (d := 39) (v := .slice ax sx.length cx) A64 kr (zF (t := 40) (g := false) (vs := [.slice ax sx.length cx]) (ad := ⟨b0, off0 + i.toNat, none⟩) rfl kr kr ir ((hAs1.mono (Le3 q2 q4 q11))).cells) ?_)
 intro a65 A65
 refine zB 4 [(19, .bool (decide ((j) ≥ (sx.length : Int)))), (42, .bool (decide ((j) ≥ (sx.length : Int)))), (41, .bool (decide ((j) ≥ (sx.length : Int)))), (40, .int .i64 (sx.length : Int))] A65 kr kr (fun a66 A66 => ?_)
 refine zE ?_
 refine zA (C25 _ _ ?_)
 refine zS (decide ((j) ≥ (sx.length : Int))) A66 kr kr (fun hc67 => ?_) (fun hc67 => ?_)
 ·
  have A68 := A66.set 19 (v' := .bool true) kr rfl (zG hc67)
  have ht69 : (j) ≥ (sx.length : Int) := of_decide_eq_true hc67
  refine zD (fun K70 C70 => ?_)
  refine zC ?_
  refine zB 1 [(43, .agg #[.bool false, .slice none 0 0, .slice none 0 0])] A68 kr kr (fun a71 A71 => ?_)
  refine wplI A71 kr (zO (t := 25) (b := b4) (off := 0) (c' := #[.bool false, .slice none 0 0, .slice none 0 0]) (g := true) (m := 3) 0 _ A71 kr j11 rfl kr rfl kr kr kr rfl (by first | decide | (simp; done)) kr rfl ?_)
  intro w72 j72 q72
  refine zB 1 [(9, .int .i64 8)] A71 kr kr (fun a73 A73 => ?_)
  refine zE ?_
  refine zA (C70 _ _ ?_)
  refine zQ ?_
  refine zU ?_
  refine zL ?_
  refine zR (v := .tuple #[.agg #[.bool false, .slice none 0 0, .slice none 0 0], .int .i64 8]) (rs := [.cell 8 25, .tmp 9]) A73 kr (Res.cell (ad := ⟨b4, 0, none⟩) (cs := [.bool false, .slice none 0 0, .slice none 0 0]) (g := true) kr kr kr ir (j72.cells 0 rfl rfl) (Res.tmp kr Res.nil)) kr ?_
  have hend := (sa_range hm0 (.inr (.inr (.inr (by rw [getD_get hxs]; omega)))) : m.scoreAt v i j = _)
  exact ⟨j72.upd, _, rfl, _, by rw [hend], by rw [hend]; exact raw_zero⟩
 have A74 := A66.set 19 (v' := .bool false) kr rfl (zG hc67)
 have ht75 : ¬ ((j) ≥ (sx.length : Int)) := of_decide_eq_false hc67
 obtain ⟨b9a, off9a, rfl⟩ := hacts.addr (by omega)
 obtain ⟨xa, a1a, a2a, a3a, a4a, a5a, a6a, a7a, a8a, a9a, hxa, hAa, hLa, hMa, hOa⟩ := hacts.at (k := j.toNat) (by omega)
 have hin := score_range hm0 (List.mem_of_getElem? hxs) (List.mem_of_getElem? hxa)
 refine i_skip ?_
 refine zW ?_
 refine zA (C7 _ _ ?_)
 refine zD (fun K76 C76 => ?_)
 refine qD (N := 15) (Held [(⟨b2, 0, none⟩, [.bool m.disc.neg, .slice ad len cap, .slice ae le ce, .slice (some ⟨b0, off0, none⟩) m.states.length cs]), (⟨b2, 3, none⟩, [.slice (some ⟨b0, off0, none⟩) m.states.length cs]), (⟨b0, off0 + i.toNat, none⟩, [.slice (some ⟨b9a, off9a, none⟩) sx.length cx]), (⟨b9a, off9a + j.toNat * 4, none⟩, [.bool xa.cost.neg, .slice a1a a2a a3a, .slice a4a a5a a6a, .slice a7a a8a a9a])]) [13] kr kr kr j11 ?_
 intro w77 j77 q77 hu77
 refine zX (Held.cons (j77.cells 1 rfl rfl) (Held.cons (j77.cells 1 rfl rfl) (Held.cons ((hAs1.mono (Le4 q2 q4 q11 q77))).cells (Held.cons ((hAa.mono (Le4 q2 q4 q11 q77))).cells (Held.nil _))))) (fun hH77 => ?_)
 refine zY (d := 44) (v := .agg #[.bool m.disc.neg, .slice ad len cap, .slice ae le ce, .slice (some ⟨b0, off0, none⟩) m.states.length cs]) 0 A74 rfl kr kr kr (fun w hw => zF (t := 28) (g := true) (vs := [.bool m.disc.neg, .slice ad len cap, .slice ae le ce, .slice (some ⟨b0, off0, none⟩) m.states.length cs]) (ad := ⟨b2, 0, none⟩) rfl kr kr ir (hw.get 0 kr)) hH77 ?_
 intro a78 A78
 refine zH (d := 45) (v := .slice av v.length cv) 1 A78 rfl kr kr kw (fun _ => hH77) ?_
 intro a79 A79
 refine zH (d := 46) (v := .pointer (some ⟨b2, 3, none⟩)) 2 A79 rfl kr kr kw (fun _ => hH77) ?_
 intro a80 A80
 refine zY (d := 47) (v := .slice (some ⟨b0, off0, none⟩) m.states.length cs) 3 A80 rfl kr kr kr (fun w hw => zF (t := 26) (g := false) (vs := [.slice (some ⟨b0, off0, none⟩) m.states.length cs]) (ad := ⟨b2, 3, none⟩) rfl kr kr ir (hw.get 1 kr)) hH77 ?_
 intro a81 A81
 refine zH (d := 48) (v := .int .i64 i) 4 A81 rfl kr kr kw (fun _ => hH77) ?_
 intro a82 A82
 refine zH (d := 49) (v := .pointer (some ⟨b0, off0 + i.toNat, none⟩)) 5 A82 rfl kr kr (fun w => zP (t := 26) (e := 40) (b := b0) (off := off0) (len := m.states.length) (cap := cs) (kd := .i64) (i := i) (g := false) (m := 1) (off' := off0 + i.toNat) rfl kr kr kr kr (by omega) (by omega) (by first | rfl | omega | (simp; done) | (simp; omega)) w) (fun _ => hH77) ?_
 intro a83 A83
 refine zY (d := 50) (v := .slice (some ⟨b9a, off9a, none⟩) sx.length cx) 6 A83 rfl kr kr kr (fun w hw => zF (t := 40) (g := false) (vs := [.slice (some ⟨b9a, off9a, none⟩) sx.length cx]) (ad := ⟨b0, off0 + i.toNat, none⟩) rfl kr kr ir (hw.get 2 kr)) hH77 ?_
 intro a84 A84
 refine zH (d := 51) (v := .int .i64 j) 7 A84 rfl kr kr kw (fun _ => hH77) ?_
 intro a85 A85
 refine zH (d := 52) (v := .pointer (some ⟨b9a, off9a + j.toNat * 4, none⟩)) 8 A85 rfl kr kr (fun w => zP (t := 40) (e := 55) (b := b9a) (off := off9a) (len := sx.length) (cap := cx) (kd := .i64) (i := j) (g := true) (m := 4) (off' := off9a + j.toNat * 4) rfl kr kr kr kr (by omega) (by omega) (by first | rfl | omega | (simp; done) | (simp; omega)) w) (fun _ => hH77) ?_
 intro a86 A86
 refine zY (d := 53) (v := .agg #[.bool xa.cost.neg, .slice a1a a2a a3a, .slice a4a a5a a6a, .slice a7a a8a a9a]) 9 A86 rfl kr kr kr (fun w hw => zF (t := 55) (g := true) (vs := [.bool xa.cost.neg, .slice a1a a2a a3a, .slice a4a a5a a6a, .slice a7a a8a a9a]) (ad := ⟨b9a, off9a + j.toNat * 4, none⟩) rfl kr kr ir (hw.get 3 kr)) hH77 ?_
 intro a87 A87
 refine zM [10] kr rfl ?_
 refine ForkT.cons (i := 10) A87 rfl kr (zK (d := 54) (f := 31) (cap := #[]) (vs := #[.agg #[.bool m.disc.neg, .slice ad len cap, .slice ae le ce, .slice (some ⟨b0, off0, none⟩) m.states.length cs], .slice av v.length cv, .agg #[.bool xa.cost.neg, .slice a1a a2a a3a, .slice a4a a5a a6a, .slice a7a a8a a9a]]) A87 kr j77 rfl kr kr (fun w => Try.call31 _ w) (score_c _ _ j77.lt m.disc _ _ _ (h.mono (Le4 q2 q4 q11 q77)) _ _ _ (h2.mono (Le4 q2 q4 q11 q77)) _ _ _ v _ _ _ (hv.mono (Le4 q2 q4 q11 q77)) (by omega) xa _ _ _ (hLa.mono (Le4 q2 q4 q11 q77)) _ _ _ (hMa.mono (Le4 q2 q4 q11 q77)) _ _ _ (hOa.mono (Le4 q2 q4 q11 q77)) hin.1 hin.2) ?_) ForkT.nil
 rintro v88 w88 j88 q88 hu88 ⟨u88, rfl, ⟨ad88, len88, cap88, ae88, le88, ce88, rfl, hN88, hD88⟩⟩ a89 A89
 refine zI (hH77.up hu88) (fun hH88 => ?_)
 refine zH (d := 55) (v := .agg #[.bool ((scoreV m.disc v xa).1.neg), .slice ad88 len88 cap88, .slice ae88 le88 ce88]) 11 A89 rfl kr kr kw (fun _ => hH88) ?_
 intro a90 A90
 refine zH (d := 56) (v := .int .i64 ((scoreV m.disc v xa).2)) 12 A90 rfl kr kr kw (fun _ => hH88) ?_
 intro a91 A91
 refine zM [13] kr rfl ?_
 refine ForkT.cons (i := 13) A91 rfl kr (zO (t := 25) (b := b4) (off := 0) (c' := #[.bool ((scoreV m.disc v xa).1.neg), .slice ad88 len88 cap88, .slice ae88 le88 ce88]) (g := true) (m := 3) 0 _ A91 kr j88 rfl kr rfl kr kr kr rfl (by first | decide | (simp; done)) kr rfl ?_) ForkT.nil
 intro w92 j92 q92
 refine ⟨begun_tt kr, ?_⟩
 refine zH (d := 9) (v := .int .i64 ((scoreV m.disc v xa).2)) 14 A91 rfl kr kr kw (begun_tt kr) ?_
 intro a93 A93
 refine qB kr (nrm ?_)
 refine zA (C76 _ _ ?_)
 refine zQ ?_
 refine zR (v := .tuple #[.agg #[.bool ((scoreV m.disc v xa).1.neg), .slice ad88 len88 cap88, .slice ae88 le88 ce88], .int .i64 ((scoreV m.disc v xa).2)]) (rs := [.cell 8 25, .tmp 9]) A93 kr (Res.cell (ad := ⟨b4, 0, none⟩) (cs := [.bool ((scoreV m.disc v xa).1.neg), .slice ad88 len88 cap88, .slice ae88 le88 ce88]) (g := true) kr kr kr ir (j92.cells 0 rfl rfl) (Res.tmp kr Res.nil)) kr ?_
 have hend := (sa_ok hm0 (by omega) (by omega) hxs (by omega) (by omega) hxa : m.scoreAt v i j = _)
 exact ⟨j92.upd, _, rfl, _, by rw [hend], by rw [hend]; exact ⟨_, _, _, _, _, _, rfl, (hN88.mono q92).mono j92.le, (hD88.mono q92).mono j92.le⟩⟩
end Go.Proofs.Ytoocgllbbihoaaa
namespace Go.Proofs.Ytoocgllbbihoaaa
open Go Go.Gv Go.RowKit
set_option maxRecDepth 100000
set_option maxHeartbeats 1000000
section
variable {m : Mdp} {v : List Raw} {p : List Int}
theorem un_chk (h : m.chkV v ≠ 0) : m.underV p v = ([], m.chkV v) := if_pos h
theorem un_len (h : ¬ m.chkV v ≠ 0) (h2 : p.length ≠ m.states.length) : m.underV p v = ([], 16) := (if_neg h).trans (if_pos h2)
theorem un_go (h : ¬ m.chkV v ≠ 0) (h2 : p.length = m.states.length) : m.underV p v = underGo m.disc v [] m.states p := (if_neg h).trans (if_neg (by simpa using h2))
theorem rats_nil {r : Rd} : Rats r none 0 0 [] := ⟨rfl, Nat.le_refl _, by omega, .inl rfl⟩
theorem ints_nil {r : Rd} : Ints r none 0 0 [] := ⟨rfl, Nat.le_refl _, by omega, .inl rfl⟩
end
theorem Under_c (w : World) (X : Hid) (hX : ∀ k o, X k o → k < w.heap.size) (m : Mdp) (ad : Option Addr) (len cap : Nat) (h : Limbs (rd w X) ad len cap m.disc.ln) (ae : Option Addr) (le ce : Nat) (h2 : Limbs (rd w X) ae le ce m.disc.ld) (st : Option Addr) (ls cs : Nat) (hst : StatesR (rd w X) st ls cs m.states) (v : List Raw) (av : Option Addr) (lv cv : Nat) (hv : Rats (rd w X) av lv cv v) (hlv : lv ≤ 1099511627776) (p : List Int) (ap : Option Addr) (lp cp : Nat) (hp : Ints (rd w X) ap lp cp p) (hlp : lp ≤ 1099511627776) : Calls Try.prog 11 #[.agg #[.bool m.disc.neg, .slice ad len cap, .slice ae le ce, .slice st ls cs], .slice ap lp cp, .slice av lv cv] w (Ret E0 w fun w' u => ∃ ad len cap, u = .tuple #[.slice ad len cap, .int .i64 (m.underV p v).2] ∧ Rats (rd w' X) ad len cap (m.underV p v).1) := by
 obtain rfl := hv.hlen
 have hcapv := hv.hcap
 have hbigv := hv.hbig
 obtain rfl := hst.hlen
 have hcaps := hst.hcap
 have hbigs := hst.hbig
 obtain rfl := hp.hlen
 have hcapp := hp.hcap
 have hbigp := hp.hbig
 refine zZ (n := 69) (vs := [.agg #[.bool m.disc.neg, .slice ad len cap, .slice ae le ce, .slice st m.states.length cs], .slice ap p.length cp, .slice av v.length cv]) Try.func11 rfl rfl rfl kr (fun a0 A0 => ?_)
 have A0 : Fr 69 a0 [(0, .agg #[.bool m.disc.neg, .slice ad len cap, .slice ae le ce, .slice st m.states.length cs]), (1, .slice ap p.length cp), (2, .slice av v.length cv)] := A0
 have j0 : St E0 w X w X [] := St.start hX
 refine zD (fun K1 C1 => ?_)
 refine zC ?_
 refine wplI A0 kr (zN (d := 3) (fun b => .pointer (some ⟨b, 0, none⟩)) (.cells #[.bool m.disc.neg, .slice ad len cap, .slice ae le ce, .slice st m.states.length cs] 28 (0, 0)) A0 kr j0 kw ?_)
 intro b2 w2 Y2 j2 q2 hu2 a3 A3
 refine zB 2 [(7, .int .i64 0), (6, .slice none 0 0)] A3 kr kr (fun a4 A4 => ?_)
 refine zE ?_
 refine zA (C1 _ _ ?_)
 refine zD (fun K5 C5 => ?_)
 refine zD (fun K6 C6 => ?_)
 refine zC ?_
 refine wplI A4 kr (zJ (d := 13) (v := .agg #[.bool m.disc.neg, .slice ad len cap, .slice ae le ce, .slice st m.states.length cs]) A4 kr (zF (t := 28) (g := true) (vs := [.bool m.disc.neg, .slice ad len cap, .slice ae le ce, .slice st m.states.length cs]) (ad := ⟨b2, 0, none⟩) rfl kr kr ir (j2.cells 0 rfl rfl)) ?_)
 intro a7 A7
 refine zB 1 [(14, .slice av v.length cv)] A7 kr kr (fun a8 A8 => ?_)
 refine wplI A8 kr (zK (d := 15) (f := 27) (cap := #[]) (vs := #[.agg #[.bool m.disc.neg, .slice ad len cap, .slice ae le ce, .slice st m.states.length cs], .slice av v.length cv]) A8 kr j2 rfl kr kr (fun w => Try.call27 _ w) (mcheck_c _ _ j2.lt m _ _ _ (h.mono q2) _ _ _ (h2.mono q2) _ _ _ (hst.mono q2) _ _ _ v rfl (by omega)) ?_)
 rintro v9 w9 j9 q9 hu9 rfl a10 A10
 refine zB 1 [(8, .int .i64 (m.chkV v))] A10 kr kr (fun a11 A11 => ?_)
 refine zE ?_
 refine zA (C6 _ _ ?_)
 refine zV ?_
 refine zD (fun K12 C12 => ?_)
 refine zC ?_
 refine zB 3 [(16, .bool ((m.chkV v) != 0)), (18, .bool ((m.chkV v) != 0)), (17, .int .i64 (m.chkV v))] A11 kr kr (fun a13 A13 => ?_)
 refine zE ?_
 refine zA (C12 _ _ ?_)
 refine zS ((m.chkV v) != 0) A13 kr kr (fun hc14 => ?_) (fun hc14 => ?_)
 ·
  have A15 := A13.set 16 (v' := .bool true) kr rfl (zG hc14)
  have ht16 : (m.chkV v) ≠ 0 := by simpa using hc14
  refine zD (fun K17 C17 => ?_)
  refine zC ?_
  refine zB 3 [(7, .int .i64 (m.chkV v)), (6, .slice none 0 0), (19, .int .i64 (m.chkV v))] A15 kr kr (fun a18 A18 => ?_)
  refine zE ?_
  refine zA (C17 _ _ ?_)
  refine zQ ?_
  refine zU ?_
  refine zL ?_
  refine zR (v := .tuple #[.slice none 0 0, .int .i64 (m.chkV v)]) (rs := [.tmp 6, .tmp 7]) A18 kr (Res.tmp kr (Res.tmp kr Res.nil)) kr ?_
  have hend : m.underV p v = _ := un_chk ht16
  exact ⟨j9.upd, _, rfl, _, _, _, by rw [hend], by rw [hend]; exact rats_nil⟩
 have A19 := A13.set 16 (v' := .bool false) kr rfl (zG hc14)
 have ht20 : (m.chkV v) = 0 := by simpa using hc14
 have hm0 : ¬ m.chkV v ≠ 0 := by simpa using ht20
 have hpos := chkV_pos hm0
 refine zD (fun K21 C21 => ?_)
 refine zC ?_
 refine zB 3 [(23, .pointer (some ⟨b2, 3, none⟩)), (22, .int .i64 (p.length : Int)), (21, .slice ap p.length cp)] A19 kr kr (fun a22 A22 => ?_)
 refine wplI A22 kr (zJ (d := 24) (v := .slice st m.states.length cs) A22 kr (zF (t := 26) (g := false) (vs := [.slice st m.states.length cs]) (ad := ⟨b2, 3, none⟩) rfl kr kr ir (j9.cells 0 rfl rfl)) ?_)
 intro a23 A23
 refine zB 3 [(20, .bool ((p.length : Int) != (m.states.length : Int))), (26, .bool ((p.length : Int) != (m.states.length : Int))), (25, .int .i64 (m.states.length : Int))] A23 kr kr (fun a24 A24 => ?_)
 refine zE ?_
 refine zA (C21 _ _ ?_)
 refine zS ((p.length : Int) != (m.states.length : Int)) A24 kr kr (fun hc25 => ?_) (fun hc25 => ?_)
 ·
  have A26 := A24.set 20 (v' := .bool true) kr rfl (zG hc25)
  have ht27 : (p.length : Int) ≠ (m.states.length : Int) := by simpa using hc25
  refine zD (fun K28 C28 => ?_)
  refine zC ?_
  refine zB 2 [(7, .int .i64 16), (6, .slice none 0 0)] A26 kr kr (fun a29 A29 => ?_)
  refine zE ?_
  refine zA (C28 _ _ ?_)
  refine zQ ?_
  refine zU ?_
  refine zL ?_
  refine zR (v := .tuple #[.slice none 0 0, .int .i64 16]) (rs := [.tmp 6, .tmp 7]) A29 kr (Res.tmp kr (Res.tmp kr Res.nil)) kr ?_
  have hend : m.underV p v = _ := un_len hm0 (by omega)
  exact ⟨j9.upd, _, rfl, _, _, _, by rw [hend], by rw [hend]; exact rats_nil⟩
 have A30 := A24.set 20 (v' := .bool false) kr rfl (zG hc25)
 have ht31 : (p.length : Int) = (m.states.length : Int) := by simpa using hc25
 have hpl : p.length = m.states.length := by omega
 have hug := un_go hm0 hpl
 refine i_skip ?_
 refine zW ?_
 refine zA (C5 _ _ ?_)
 refine zD (fun K32 C32 => ?_)
 refine zD (fun K33 C33 => ?_)
 refine zC ?_
 refine zB 3 [(29, .int .i64 0), (28, .int .i64 (p.length : Int)), (27, .slice ap p.length cp)] A30 kr kr (fun a34 A34 => ?_)
 refine zE ?_
 refine zA (C33 _ _ ?_)
 refine zV ?_
 refine qC (fun (k : Nat) ac w1 => ∃ (Y1 : Hid) (rb1 : List (Nat × Obj)) (adr : Option Addr) (capr : Nat) (es : List RE), Fr 69 ac [(2, .slice av v.length cv), (3, .pointer (some ⟨b2, 0, none⟩)), (6, .slice adr k capr), (27, .slice ap p.length cp), (28, .int .i64 (p.length : Int)), (29, .int .i64 (k : Int))] ∧ St E0 w X w1 Y1 ((b2, .cells #[.bool m.disc.neg, .slice ad len cap, .slice ae le ce, .slice st m.states.length cs] 28 (0, 0)) :: rb1) ∧ Le (rd w9 Y2) (rd w1 Y1) ∧ (TRow 25 3 rb1 adr k capr (flat es)) ∧ (underGo m.disc v (es.map (·.x)) (m.states.drop k) (p.drop k) = underGo m.disc v [] m.states p) ∧ (∀ e ∈ es, e.ok (rd w1 Y1)) ∧ (k = es.length) ∧ (k ≤ p.length)) (fun (k : Nat) => p.length - k) 0 ?_ ?_
 ·
  refine ⟨_, [], none, 0, [], A34.as [2, 3, 6, 27, 28, 29] kr kr, j9, Le.refl _, TRow.nil _ _, rfl, fun _ h => absurd h (by simp), rfl, Nat.zero_le _⟩
 rintro k a35 w35 ⟨Y35, rb1, adr, capr, es, A35, j35, q35, hp35_0, hp35_1, hp35_2, hp35_3, hp35_4⟩
 have hr1 := hp35_0
 have hgo := hp35_1
 have hk1 := hp35_2
 have hke := hp35_3
 have hkl := hp35_4
 refine zD (fun K36 C36 => ?_)
 refine zC ?_
 refine zB 1 [(30, .bool (decide ((k : Int) < (p.length : Int))))] A35 kr kr (fun a37 A37 => ?_)
 refine zE ?_
 refine zA (C36 _ _ ?_)
 refine zD (fun K38 C38 => ?_)
 refine zS (decide ((k : Int) < (p.length : Int))) A37 kr kr (fun hc39 => ?_) (fun hc39 => ?_)
 ·
  have A40 := A37.set 30 (v' := .bool true) kr rfl (zG hc39)
  have ht41 : (k : Int) < (p.length : Int) := of_decide_eq_true hc39
  obtain ⟨bp, offp, rfl⟩ := hp.addr (by omega)
  obtain ⟨ip, hxp, hAp⟩ := hp.at (k := k) (by omega)
  have hAp1 : At (rd w X) ⟨bp, offp + k, none⟩ [.int .i64 ip] := by have h9 := hAp; unfold IntAt at h9; simpa using h9
  refine i_skip ?_
  refine zA (C38 _ _ ?_)
  refine zD (fun K42 C42 => ?_)
  refine zV ?_
  refine zD (fun K43 C43 => ?_)
  refine zC ?_
  refine zB 1 [(31, .int .i64 (k : Int))] A40 kr kr (fun a44 A44 => ?_)
  refine wplI A44 kr (zJ (d := 32) (v := .pointer (some ⟨bp, offp + k, none⟩)) A44 kr (zP (t := 30) (e := 3) (b := bp) (off := offp) (len := p.length) (cap := cp) (kd := .i64) (i := (k : Int)) (g := false) (m := 1) (off' := offp + k) rfl kr kr kr kr (by omega) (by omega) (by first | rfl | omega | (simp; done) | (simp; omega)) _) ?_)
  intro a45 A45
  refine wplI A45 kr (zJ (d := 33) (v := .int .i64 ip) A45 kr (zF (t := 3) (g := false) (vs := [.int .i64 ip]) (ad := ⟨bp, offp + k, none⟩) rfl kr kr ir ((hAp1.mono (Le3 q2 q9 q35))).cells) ?_)
  intro a46 A46
  refine zB 2 [(10, .int .i64 ip), (9, .int .i64 (k : Int))] A46 kr kr (fun a47 A47 => ?_)
  refine zE ?_
  refine zA (C43 _ _ ?_)
  refine zD (fun K48 C48 => ?_)
  refine zD (fun K49 C49 => ?_)
  refine zC ?_
  refine zB 3 [(36, .bool (decide ((ip) < 0))), (35, .bool (decide ((ip) < 0))), (34, .int .i64 ip)] A47 kr kr (fun a50 A50 => ?_)
  rcases Bool.eq_false_or_eq_true (decide ((ip) < 0)) with hc51 | hc51
  ·
   have A52 := A50.set 36 (v' := .bool true) kr rfl (zG hc51)
   have ht53 : (ip) < 0 := of_decide_eq_true hc51
   obtain ⟨sx, hxs⟩ : ∃ sx, m.states[k]? = some sx := ⟨m.states[k]'(by omega), List.getElem?_eq_getElem _⟩
   refine zB 9 [(45, .bool true), (44, undef), (43, undef), (42, undef), (41, undef), (40, undef), (39, undef), (38, undef), (37, undef)] A52 kr kr (fun a54 A54 => ?_)
   refine zE ?_
   refine zA (C49 _ _ ?_)
   refine qG A54 kr kr ?_
   refine zD (fun K55 C55 => ?_)
   refine zC ?_
   refine zB 2 [(7, .int .i64 8), (6, .slice none 0 0)] A54 kr kr (fun a56 A56 => ?_)
   refine zE ?_
   refine zA (C55 _ _ ?_)
   refine zQ ?_
   refine zL ?_
   refine zU ?_
   refine zL ?_
   refine zL ?_
   refine zU ?_
   refine zL ?_
   refine zR (v := .tuple #[.slice none 0 0, .int .i64 8]) (rs := [.tmp 6, .tmp 7]) A56 kr (Res.tmp kr (Res.tmp kr Res.nil)) kr ?_
   have hend : m.underV p v = _ := hug.trans (hgo.symm.trans (underGo_range hxs hxp (.inl ht53)))
   exact ⟨j35.upd, _, rfl, _, _, _, by rw [hend], by rw [hend]; exact rats_nil⟩
  have A57 := A50.set 36 (v' := .bool false) kr rfl (zG hc51)
  have ht58 : ¬ ((ip) < 0) := of_decide_eq_false hc51
  obtain ⟨b0, off0, rfl⟩ := hst.addr (by omega)
  obtain ⟨sx, ax, lx, cx, hxs, hAs, hacts⟩ := hst.at (k := k) (by omega)
  obtain rfl := hacts.hlen
  have hcapx := hacts.hcap
  have hbigx := hacts.hbig
  have hAs1 : At (rd w X) ⟨b0, off0 + k, none⟩ [.slice ax sx.length cx] := by simpa using hAs
  refine zB 2 [(38, .pointer (some ⟨b2, 3, none⟩)), (37, .int .i64 ip)] A57 kr kr (fun a59 A59 => ?_)
  refine wplI A59 kr (zJ (d := 39) (v := .slice (some ⟨b0, off0, none⟩) m.states.length cs) A59 kr (zF (t := 26) (g := false) (vs := [.slice (some ⟨b0, off0, none⟩) m.states.length cs]) (ad := ⟨b2, 3, none⟩) rfl kr kr ir (j35.cells 0 rfl rfl)) ?_)
  intro a60 A60
  refine zB 1 [(40, .int .i64 (k : Int))] A60 kr kr (fun a61 A61 => ?_)
  refine wplI A61 kr (zJ (d := 41) (v := .pointer (some ⟨b0, off0 + k, none⟩)) A61 kr (zP (t := 26) (e := 40) (b := b0) (off := off0) (len := m.states.length) (cap := cs) (kd := .i64) (i := (k : Int)) (g := false) (m := 1) (off' := off0 + k) rfl kr kr kr kr (by omega) (by omega) (by first | rfl | omega | (simp; done) | (simp; omega)) _) ?_)
  intro a62 A62
  refine wplI A62 kr (zJ (d := 42) (v := .slice ax sx.length cx) A62 kr (zF (t := 40) (g := false) (vs := [.slice ax sx.length cx]) (ad := ⟨b0, off0 + k, none⟩) rfl kr kr ir ((hAs1.mono (Le3 q2 q9 q35))).cells) ?_)
  intro a63 A63
  refine zB 3 [(45, .bool (decide ((ip) ≥ (sx.length : Int)))), (44, .bool (decide ((ip) ≥ (sx.length : Int)))), (43, .int .i64 (sx.length : Int))] A63 kr kr (fun a64 A64 => ?_)
  refine zE ?_
  refine zA (C49 _ _ ?_)
  refine zS (decide ((ip) ≥ (sx.length : Int))) A64 kr kr (fun hc65 => ?_) (fun hc65 => ?_)
  ·
   have A66 := A64.set 45 (v' := .bool true) kr rfl (zG hc65)
   have ht67 : (ip) ≥ (sx.length : Int) := of_decide_eq_true hc65
   refine zD (fun K68 C68 => ?_)
   refine zC ?_
   refine zB 2 [(7, .int .i64 8), (6, .slice none 0 0)] A66 kr kr (fun a69 A69 => ?_)
   refine zE ?_
   refine zA (C68 _ _ ?_)
   refine zQ ?_
   refine zL ?_
   refine zU ?_
   refine zL ?_
   refine zL ?_
   refine zU ?_
   refine zL ?_
   refine zR (v := .tuple #[.slice none 0 0, .int .i64 8]) (rs := [.tmp 6, .tmp 7]) A69 kr (Res.tmp kr (Res.tmp kr Res.nil)) kr ?_
   have hend : m.underV p v = _ := hug.trans (hgo.symm.trans (underGo_range hxs hxp (.inr (by omega))))
   exact ⟨j35.upd, _, rfl, _, _, _, by rw [hend], by rw [hend]; exact rats_nil⟩
  have A70 := A64.set 45 (v' := .bool false) kr rfl (zG hc65)
  have ht71 : ¬ ((ip) ≥ (sx.length : Int)) := of_decide_eq_false hc65
  obtain ⟨b9a, off9a, rfl⟩ := hacts.addr (by omega)
  obtain ⟨xa, a1a, a2a, a3a, a4a, a5a, a6a, a7a, a8a, a9a, hxa, hAa, hLa, hMa, hOa⟩ := hacts.at (k := ip.toNat) (by omega)
  have hin := score_range hm0 (List.mem_of_getElem? hxs) (List.mem_of_getElem? hxa)
  have hact : actAt sx ip = xa := getD_get hxa
  refine i_skip ?_
  refine zA (C48 _ _ ?_)
  refine zD (fun K72 C72 => ?_)
  have hJ9001 : ∀ a9001 w9001, (∃ (Y9001 : Hid) (b89 : Nat) (ad84 : Option Addr) (len84 : Nat) (cap84 : Nat) (ae84 : Option Addr) (le84 : Nat) (ce84 : Nat), Fr 69 a9001 [(2, .slice av v.length cv), (3, .pointer (some ⟨b2, 0, none⟩)), (6, .slice adr k capr), (11, .pointer (some ⟨b89, 0, none⟩)), (12, .int .i64 ((scoreV m.disc v xa).2)), (27, .slice (some ⟨bp, offp, none⟩) p.length cp), (28, .int .i64 (p.length : Int)), (29, .int .i64 (k : Int))] ∧ St E0 w X w9001 Y9001 ((b89, .cells #[.bool ((scoreV m.disc v xa).1.neg), .slice ad84 len84 cap84, .slice ae84 le84 ce84] 25 (0, 0)) :: (b2, .cells #[.bool m.disc.neg, .slice ad len cap, .slice ae le ce, .slice (some ⟨b0, off0, none⟩) m.states.length cs] 28 (0, 0)) :: rb1) ∧ Le (rd w35 Y35) (rd w9001 Y9001) ∧ (Limbs (rd w9001 Y9001) ad84 len84 cap84 ((scoreV m.disc v xa).1.ln)) ∧ (Limbs (rd w9001 Y9001) ae84 le84 ce84 ((scoreV m.disc v xa).1.ld))) → K72 a9001 w9001 := by
   rintro a9001 w9001 ⟨Y9001, b89, ad84, len84, cap84, ae84, le84, ce84, A9001, j9001, q9001, hN84, hD84⟩
   refine C72 _ _ ?_
   refine zD (fun K93 C93 => ?_)
   refine zD (fun K94 C94 => ?_)
   refine zC ?_
   refine zB 2 [(61, .bool (((scoreV m.disc v xa).2) != 0)), (60, .int .i64 ((scoreV m.disc v xa).2))] A9001 kr kr (fun a95 A95 => ?_)
   refine zE ?_
   refine zA (C94 _ _ ?_)
   refine zS (((scoreV m.disc v xa).2) != 0) A95 kr kr (fun hc96 => ?_) (fun hc96 => ?_)
   ·
    have A97 := A95.set 61 (v' := .bool true) kr rfl (zG hc96)
    have ht98 : ((scoreV m.disc v xa).2) ≠ 0 := by simpa using hc96
    have hstop := underGo_stop (d := m.disc) (v := v) (xs := es.map (·.x)) hxs hxp (by omega) (by rw [hact]; exact ht98)
    rw [hact] at hstop
    refine zD (fun K99 C99 => ?_)
    refine zC ?_
    refine zB 3 [(7, .int .i64 ((scoreV m.disc v xa).2)), (6, .slice none 0 0), (62, .int .i64 ((scoreV m.disc v xa).2))] A97 kr kr (fun a100 A100 => ?_)
    refine zE ?_
    refine zA (C99 _ _ ?_)
    refine zQ ?_
    refine zL ?_
    refine zU ?_
    refine zL ?_
    refine zL ?_
    refine zU ?_
    refine zL ?_
    refine zR (v := .tuple #[.slice none 0 0, .int .i64 ((scoreV m.disc v xa).2)]) (rs := [.tmp 6, .tmp 7]) A100 kr (Res.tmp kr (Res.tmp kr Res.nil)) kr ?_
    have hend : m.underV p v = _ := hug.trans (hgo.symm.trans hstop)
    exact ⟨j9001.upd, _, rfl, _, _, _, by rw [hend], by rw [hend]; exact rats_nil⟩
   have A101 := A95.set 61 (v' := .bool false) kr rfl (zG hc96)
   have ht102 : ((scoreV m.disc v xa).2) = 0 := by simpa using hc96
   have hstep := underGo_step (d := m.disc) (v := v) (xs := es.map (·.x)) hxs hxp (by omega) (by rw [hact]; exact ht102)
   rw [hact] at hstep
   refine i_skip ?_
   refine zA (C93 _ _ ?_)
   refine zC ?_
   refine zB 1 [(63, .slice adr k capr)] A101 kr kr (fun a103 A103 => ?_)
   refine wplI A103 kr (zJ (d := 64) (v := .agg #[.bool ((scoreV m.disc v xa).1.neg), .slice ad84 len84 cap84, .slice ae84 le84 ce84]) A103 kr (zF (t := 25) (g := true) (vs := [.bool ((scoreV m.disc v xa).1.neg), .slice ad84 len84 cap84, .slice ae84 le84 ce84]) (ad := ⟨b89, 0, none⟩) rfl kr kr ir (j9001.cells 0 rfl rfl)) ?_)
   intro a104 A104
   refine wplI A104 kr (zN (d := 65) (fun b => .slice (some ⟨b, 0, none⟩) 1 1) (.cells #[.bool ((scoreV m.disc v xa).1.neg), .slice ad84 len84 cap84, .slice ae84 le84 ce84] 25 (0, 0)) A104 kr j9001 kw ?_)
   intro b105 w105 Y105 j105 q105 hu105 a106 A106
   refine wplI A106 kr (op_appE (d := 66) (t := 29) (e := 25) (size := 3) (m := 1) (c := 1) (nn := k) (cap := capr) (ad0 := adr) (xs := (flat es)) (news := [.bool ((scoreV m.disc v xa).1.neg), .slice ad84 len84 cap84, .slice ae84 le84 ce84]) (ad := ⟨b105, 0, none⟩) (z := .agg #[.bool false, .slice none 0 0, .slice none 0 0]) (i0 := Try.t25) (rb := rb1) (R1 := []) 3 A106 kr j105 rfl rfl kr kr kr kr kr kr kr hr1 (j105.cells 0 rfl rfl) kr kr (by omega) (by simp only [maxLen]; omega) (by show (_ + 1) * 56 ≤ _; omega) ?_)
   intro rb107 ad107 cap107 w107 Y107 hrow107 j107 q107 a108 A108
   have hrw107 : TRow 25 3 rb107 ad107 (k + 1) cap107 (flat (es ++ [(RE.mk (scoreV m.disc v xa).1 ad84 len84 cap84 ae84 le84 ce84)])) := by rw [flat_snoc]; exact hrow107
   refine zB 1 [(6, .slice ad107 (k + 1) cap107)] A108 kr kr (fun a109 A109 => ?_)
   refine zE ?_
   refine zW ?_
   refine zA (C42 _ _ ?_)
   refine zC ?_
   refine zB 1 [(67, .int .i64 (IntKind.i64.wrap ((k : Int) + 1)))] A109 kr kr (fun a110 A110 => ?_)
   have A111 := A110.set 67 (v' := .int .i64 ((k : Int) + 1)) kr rfl (vint (wi64 (by omega) (by omega)))
   refine zB 1 [(29, .int .i64 ((k : Int) + 1))] A111 kr kr (fun a112 A112 => ?_)
   refine zE ?_
   refine zA ?_
   refine ⟨k + 1, ⟨_, rb107, ad107, cap107, (es ++ [(RE.mk (scoreV m.disc v xa).1 ad84 len84 cap84 ae84 le84 ce84)]), A112.as [2, 3, 6, 27, 28, 29] kr kr, j107.tail.tail, (Le4 q35 q9001 q105 q107), hrw107, by rw [List.map_append]; exact hstep.symm.trans hgo, fun e he => by rcases List.mem_append.1 he with h1 | h1; exact (hk1 e h1).mono (Le3 q9001 q105 q107); obtain rfl := List.mem_singleton.1 h1; exact ⟨(hN84.mono (Le2 q105 q107)), (hD84.mono (Le2 q105 q107))⟩, by rw [List.length_append, ← hke]; rfl, by omega⟩, ?_⟩
   first | omega | (simp; omega)
  refine qD (N := 17) (Held [(⟨b2, 0, none⟩, [.bool m.disc.neg, .slice ad len cap, .slice ae le ce, .slice (some ⟨b0, off0, none⟩) m.states.length cs]), (⟨b2, 3, none⟩, [.slice (some ⟨b0, off0, none⟩) m.states.length cs]), (⟨b0, off0 + k, none⟩, [.slice (some ⟨b9a, off9a, none⟩) sx.length cx]), (⟨b9a, off9a + ip.toNat * 4, none⟩, [.bool xa.cost.neg, .slice a1a a2a a3a, .slice a4a a5a a6a, .slice a7a a8a a9a])]) [15] kr kr kr j35 ?_
  intro w73 j73 q73 hu73
  refine zX (Held.cons (j73.cells 0 rfl rfl) (Held.cons (j73.cells 0 rfl rfl) (Held.cons ((hAs1.mono (Le4 q2 q9 q35 q73))).cells (Held.cons ((hAa.mono (Le4 q2 q9 q35 q73))).cells (Held.nil _))))) (fun hH73 => ?_)
  refine zY (d := 47) (v := .agg #[.bool m.disc.neg, .slice ad len cap, .slice ae le ce, .slice (some ⟨b0, off0, none⟩) m.states.length cs]) 0 A70 rfl kr kr kr (fun w hw => zF (t := 28) (g := true) (vs := [.bool m.disc.neg, .slice ad len cap, .slice ae le ce, .slice (some ⟨b0, off0, none⟩) m.states.length cs]) (ad := ⟨b2, 0, none⟩) rfl kr kr ir (hw.get 0 kr)) hH73 ?_
  intro a74 A74
  refine zH (d := 48) (v := .slice av v.length cv) 1 A74 rfl kr kr kw (fun _ => hH73) ?_
  intro a75 A75
  refine zH (d := 49) (v := .pointer (some ⟨b2, 3, none⟩)) 2 A75 rfl kr kr kw (fun _ => hH73) ?_
  intro a76 A76
  refine zY (d := 50) (v := .slice (some ⟨b0, off0, none⟩) m.states.length cs) 3 A76 rfl kr kr kr (fun w hw => zF (t := 26) (g := false) (vs := [.slice (some ⟨b0, off0, none⟩) m.states.length cs]) (ad := ⟨b2, 3, none⟩) rfl kr kr ir (hw.get 1 kr)) hH73 ?_
  intro a77 A77
  refine zH (d := 51) (v := .int .i64 (k : Int)) 4 A77 rfl kr kr kw (fun _ => hH73) ?_
  intro a78 A78
  refine zH (d := 52) (v := .pointer (some ⟨b0, off0 + k, none⟩)) 5 A78 rfl kr kr (fun w => zP (t := 26) (e := 40) (b := b0) (off := off0) (len := m.states.length) (cap := cs) (kd := .i64) (i := (k : Int)) (g := false) (m := 1) (off' := off0 + k) rfl kr kr kr kr (by omega) (by omega) (by first | rfl | omega | (simp; done) | (simp; omega)) w) (fun _ => hH73) ?_
  intro a79 A79
  refine zY (d := 53) (v := .slice (some ⟨b9a, off9a, none⟩) sx.length cx) 6 A79 rfl kr kr kr (fun w hw => zF (t := 40) (g := false) (vs := [.slice (some ⟨b9a, off9a, none⟩) sx.length cx]) (ad := ⟨b0, off0 + k, none⟩) rfl kr kr ir (hw.get 2 kr)) hH73 ?_
  intro a80 A80
  refine zH (d := 54) (v := .int .i64 ip) 7 A80 rfl kr kr kw (fun _ => hH73) ?_
  intro a81 A81
  refine zH (d := 55) (v := .pointer (some ⟨b9a, off9a + ip.toNat * 4, none⟩)) 8 A81 rfl kr kr (fun w => zP (t := 40) (e := 55) (b := b9a) (off := off9a) (len := sx.length) (cap := cx) (kd := .i64) (i := ip) (g := true) (m := 4) (off' := off9a + ip.toNat * 4) rfl kr kr kr kr (by omega) (by omega) (by first | rfl | omega | (simp; done) | (simp; omega)) w) (fun _ => hH73) ?_
  intro a82 A82
  refine zY (d := 56) (v := .agg #[.bool xa.cost.neg, .slice a1a a2a a3a, .slice a4a a5a a6a, .slice a7a a8a a9a]) 9 A82 rfl kr kr kr (fun w hw => zF (t := 55) (g := true) (vs := [.bool xa.cost.neg, .slice a1a a2a a3a, .slice a4a a5a a6a, .slice a7a a8a a9a]) (ad := ⟨b9a, off9a + ip.toNat * 4, none⟩) rfl kr kr ir (hw.get 3 kr)) hH73 ?_
  intro a83 A83
  refine zM [10, 14] kr rfl ?_
  refine ForkT.cons (i := 10) A83 rfl kr ?_ ?_
  ·
   refine zK (d := 57) (f := 31) (cap := #[]) (vs := #[.agg #[.bool m.disc.neg, .slice ad len cap, .slice ae le ce, .slice (some ⟨b0, off0, none⟩) m.states.length cs], .slice av v.length cv, .agg #[.bool xa.cost.neg, .slice a1a a2a a3a, .slice a4a a5a a6a, .slice a7a a8a a9a]]) A83 kr j73 rfl kr kr (fun w => Try.call31 _ w) (score_c _ _ j73.lt m.disc _ _ _ (h.mono (Le4 q2 q9 q35 q73)) _ _ _ (h2.mono (Le4 q2 q9 q35 q73)) _ _ _ v _ _ _ (hv.mono (Le4 q2 q9 q35 q73)) (by omega) xa _ _ _ (hLa.mono (Le4 q2 q9 q35 q73)) _ _ _ (hMa.mono (Le4 q2 q9 q35 q73)) _ _ _ (hOa.mono (Le4 q2 q9 q35 q73)) hin.1 hin.2) ?_
   rintro v84 w84 j84 q84 hu84 ⟨u84, rfl, ⟨ad84, len84, cap84, ae84, le84, ce84, rfl, hN84, hD84⟩⟩ a85 A85
   refine zI (hH73.up hu84) (fun hH84 => ?_)
   refine zH (d := 46) (v := .tuple #[.agg #[.bool ((scoreV m.disc v xa).1.neg), .slice ad84 len84 cap84, .slice ae84 le84 ce84], .int .i64 ((scoreV m.disc v xa).2)]) 11 A85 rfl kr kr kw (fun _ => hH84) ?_
   intro a86 A86
   refine zH (d := 58) (v := .agg #[.bool ((scoreV m.disc v xa).1.neg), .slice ad84 len84 cap84, .slice ae84 le84 ce84]) 12 A86 rfl kr kr kw (fun _ => hH84) ?_
   intro a87 A87
   refine zH (d := 59) (v := .int .i64 ((scoreV m.disc v xa).2)) 13 A87 rfl kr kr kw (fun _ => hH84) ?_
   intro a88 A88
   refine zM [14] kr rfl ?_
   refine ForkT.cons (i := 14) A88 rfl kr (zN (d := 11) (fun b => .pointer (some ⟨b, 0, none⟩)) (.cells #[.bool false, .slice none 0 0, .slice none 0 0] 25 (0, 0)) A88 kr j84 kw ?_) ForkT.nil
   intro b89 w89 Y89 j89 q89 hu89 a90 A90
   refine zI (hH84.up hu89) (fun hH89 => ?_)
   refine zM [15] kr rfl ?_
   refine ForkT.cons (i := 15) A90 rfl kr (zO (t := 25) (b := b89) (off := 0) (c' := #[.bool ((scoreV m.disc v xa).1.neg), .slice ad84 len84 cap84, .slice ae84 le84 ce84]) (g := true) (m := 3) 0 _ A90 kr j89 rfl kr rfl kr kr kr rfl (by first | decide | (simp; done)) kr rfl ?_) ForkT.nil
   intro w91 j91 q91
   refine ⟨begun_tt kr, ?_⟩
   refine zH (d := 12) (v := .int .i64 ((scoreV m.disc v xa).2)) 16 A90 rfl kr kr kw (begun_tt kr) ?_
   intro a92 A92
   refine qB kr (nrm ?_)
   exact zA (hJ9001 _ _ ⟨_, b89, ad84, len84, cap84, ae84, le84, ce84, A92.as [2, 3, 6, 11, 12, 27, 28, 29] kr kr, j91, (Le4 q73 q84 q89 q91), (hN84.mono (Le2 q89 q91)), (hD84.mono (Le2 q89 q91))⟩)
  refine ForkT.cons (i := 14) A83 rfl kr (zN (d := 11) (fun b => .pointer (some ⟨b, 0, none⟩)) (.cells #[.bool false, .slice none 0 0, .slice none 0 0] 25 (0, 0)) A83 kr j73 kw ?_) ForkT.nil
  intro b93 w93 Y93 j93 q93 hu93 a94 A94
  refine zI (hH73.up hu93) (fun hH93 => ?_)
  refine zM [10] kr rfl ?_
  refine ForkT.cons (i := 10) A94 rfl kr (zK (d := 57) (f := 31) (cap := #[]) (vs := #[.agg #[.bool m.disc.neg, .slice ad len cap, .slice ae le ce, .slice (some ⟨b0, off0, none⟩) m.states.length cs], .slice av v.length cv, .agg #[.bool xa.cost.neg, .slice a1a a2a a3a, .slice a4a a5a a6a, .slice a7a a8a a9a]]) A94 kr j93 rfl kr kr (fun w => Try.call31 _ w) (score_c _ _ j93.lt m.disc _ _ _ (h.mono (Le5 q2 q9 q35 q73 q93)) _ _ _ (h2.mono (Le5 q2 q9 q35 q73 q93)) _ _ _ v _ _ _ (hv.mono (Le5 q2 q9 q35 q73 q93)) (by omega) xa _ _ _ (hLa.mono (Le5 q2 q9 q35 q73 q93)) _ _ _ (hMa.mono (Le5 q2 q9 q35 q73 q93)) _ _ _ (hOa.mono (Le5 q2 q9 q35 q73 q93)) hin.1 hin.2) ?_) ForkT.nil
  rintro v95 w95 j95 q95 hu95 ⟨u95, rfl, ⟨ad95, len95, cap95, ae95, le95, ce95, rfl, hN95, hD95⟩⟩ a96 A96
  refine zI (hH93.up hu95) (fun hH95 => ?_)
  refine zH (d := 46) (v := .tuple #[.agg #[.bool ((scoreV m.disc v xa).1.neg), .slice ad95 len95 cap95, .slice ae95 le95 ce95], .int .i64 ((scoreV m.disc v xa).2)]) 11 A96 rfl kr kr kw (fun _ => hH95) ?_
  intro a97 A97
  refine zH (d := 58) (v := .agg #[.bool ((scoreV m.disc v xa).1.neg), .slice ad95 len95 cap95, .slice ae95 le95 ce95]) 12 A97 rfl kr kr kw (fun _ => hH95) ?_
  intro a98 A98
  refine zH (d := 59) (v := .int .i64 ((scoreV m.disc v xa).2)) 13 A98 rfl kr kr kw (fun _ => hH95) ?_
  intro a99 A99
  refine zM [15] kr rfl ?_
  refine ForkT.cons (i := 15) A99 rfl kr (zO (t := 25) (b := b93) (off := 0) (c' := #[.bool ((scoreV m.disc v xa).1.neg), .slice ad95 len95 cap95, .slice ae95 le95 ce95]) (g := true) (m := 3) 0 _ A99 kr j95 rfl kr rfl kr kr kr rfl (by first | decide | (simp; done)) kr rfl ?_) ForkT.nil
  intro w100 j100 q100
  refine ⟨begun_tt kr, ?_⟩
  refine zH (d := 12) (v := .int .i64 ((scoreV m.disc v xa).2)) 16 A99 rfl kr kr kw (begun_tt kr) ?_
  intro a101 A101
  refine qB kr (nrm ?_)
  exact zA (hJ9001 _ _ ⟨_, b93, ad95, len95, cap95, ae95, le95, ce95, A101.as [2, 3, 6, 11, 12, 27, 28, 29] kr kr, j100, (Le4 q73 q93 q95 q100), (hN95.mono q100), (hD95.mono q100)⟩)
 have A102 := A37.set 30 (v' := .bool false) kr rfl (zG hc39)
 have ht103 : ¬ ((k : Int) < (p.length : Int)) := of_decide_eq_false hc39
 refine i_exit ?_
 refine zT ?_
 refine zT ?_
 refine qA ?_
 refine zA (C32 _ _ ?_)
 refine zD (fun K104 C104 => ?_)
 refine zC ?_
 refine zB 3 [(7, .int .i64 0), (6, .slice adr k capr), (68, .slice adr k capr)] A102 kr kr (fun a105 A105 => ?_)
 refine zE ?_
 refine zA (C104 _ _ ?_)
 refine zQ ?_
 refine zR (v := .tuple #[.slice adr k capr, .int .i64 0]) (rs := [.tmp 6, .tmp 7]) A105 kr (Res.tmp kr (Res.tmp kr Res.nil)) kr ?_
 have hend : m.underV p v = _ := hug.trans (hgo.symm.trans (underGo_end (by omega)))
 obtain ⟨Y106, hSx106, q106, hRx106⟩ := St.pubRats (A := [(b2, .cells #[.bool m.disc.neg, .slice ad len cap, .slice ae le ce, .slice st m.states.length cs] 28 (0, 0))]) (B := []) (fun rb => ((b2, .cells #[.bool m.disc.neg, .slice ad len cap, .slice ae le ce, .slice st m.states.length cs] 28 (0, 0)) :: rb)) j35 (fun _ => by simp only [List.append_assoc, List.cons_append, List.nil_append, List.append_nil]) hr1 hke (fun e he => (hk1 e he).mono (Le.refl _))
 have j106 : St E0 w X w35 Y106 [(b2, .cells #[.bool m.disc.neg, .slice ad len cap, .slice ae le ce, .slice st m.states.length cs] 28 (0, 0))] := hSx106
 have hR106 : Rats (rd w35 Y106) adr k capr (es.map (·.x)) := by have h9 := hRx106; exact h9
 exact ⟨j106.upd, _, rfl, _, _, _, by rw [hend], by rw [hend]; exact hR106.mono j106.le⟩
end Go.Proofs.Ytoocgllbbihoaaa
namespace Go.Proofs.Ytoocgllbbihoaaa
open Go Go.Gv Go.RowKit
set_option maxRecDepth 100000
set_option maxHeartbeats 1000000
section
variable {m : Mdp} {v : List Raw} {sx : List Actn}
theorem bk_chk (h : m.chkV v ≠ 0) : m.backV v = ([], [], m.chkV v) := if_pos h
theorem bk_go (h : ¬ m.chkV v ≠ 0) : m.backV v = backGo m.disc v [] [] m.states := if_neg h
theorem state_len (h : ¬ m.chkV v ≠ 0) (hs : sx ∈ m.states) : 0 < sx.length ∧ sx.length ≤ 6 := by
  obtain ⟨hk, hl⟩ := Mdp.chkV_ok (Classical.not_not.1 h)
  obtain ⟨_, _, _, _, _, hst⟩ := Mdp.chk_ok hk
  exact ⟨(hst sx hs).1, (hst sx hs).2.1⟩
theorem smaller_lessB : LessC 30 lessB := smaller_less
end
theorem Backup_c (w : World) (X : Hid) (hX : ∀ k o, X k o → k < w.heap.size) (m : Mdp) (ad : Option Addr) (len cap : Nat) (h : Limbs (rd w X) ad len cap m.disc.ln) (ae : Option Addr) (le ce : Nat) (h2 : Limbs (rd w X) ae le ce m.disc.ld) (st : Option Addr) (ls cs : Nat) (hst : StatesR (rd w X) st ls cs m.states) (v : List Raw) (av : Option Addr) (lv cv : Nat) (hv : Rats (rd w X) av lv cv v) (hlv : lv ≤ 1099511627776) : Calls Try.prog 10 #[.agg #[.bool m.disc.neg, .slice ad len cap, .slice ae le ce, .slice st ls cs], .slice av lv cv] w (Ret E0 w fun w' u => ∃ ad len cap ad2 len2 cap2, u = .tuple #[.slice ad len cap, .slice ad2 len2 cap2, .int .i64 (m.backV v).2.2] ∧ Rats (rd w' X) ad len cap (m.backV v).1 ∧ Ints (rd w' X) ad2 len2 cap2 (m.backV v).2.1) := by
 obtain rfl := hv.hlen
 have hcapv := hv.hcap
 have hbigv := hv.hbig
 obtain rfl := hst.hlen
 have hcaps := hst.hcap
 have hbigs := hst.hbig
 refine m_enter (n := 56) (vs := [.agg #[.bool m.disc.neg, .slice ad len cap, .slice ae le ce, .slice st m.states.length cs], .slice av v.length cv]) Try.func10 rfl rfl rfl kr (fun a0 A0 => ?_)
 have A0 : Fr 56 a0 [(0, .agg #[.bool m.disc.neg, .slice ad len cap, .slice ae le ce, .slice st m.states.length cs]), (1, .slice av v.length cv)] := A0
 have j0 : St E0 w X w X [] := St.start hX
 refine zD (fun K1 C1 => ?_)
 refine zC ?_
 refine wplI A0 kr (zN (d := 2) (fun b => .pointer (some ⟨b, 0, none⟩)) (.cells #[.bool m.disc.neg, .slice ad len cap, .slice ae le ce, .slice st m.states.length cs] 28 (0, 0)) A0 kr j0 kw ?_)
 intro b2 w2 Y2 j2 q2 hu2 a3 A3
 refine wplI A3 kr (zN (d := 4) (fun b => .pointer (some ⟨b, 0, none⟩)) (.cells #[.slice none 0 0] 29 (0, 0)) A3 kr j2 kw ?_)
 intro b4 w4 Y4 j4 q4 hu4 a5 A5
 refine wplI A5 kr (zN (d := 5) (fun b => .pointer (some ⟨b, 0, none⟩)) (.cells #[.slice none 0 0] 30 (0, 0)) A5 kr j4 kw ?_)
 intro b6 w6 Y6 j6 q6 hu6 a7 A7
 refine wplI A7 kr (zN (d := 6) (fun b => .pointer (some ⟨b, 0, none⟩)) (.cells #[.int .i64 0] 34 (0, 0)) A7 kr j6 kw ?_)
 intro b8 w8 Y8 j8 q8 hu8 a9 A9
 refine zE ?_
 refine zA (C1 _ _ ?_)
 refine zD (fun K10 C10 => ?_)
 refine zD (fun K11 C11 => ?_)
 refine zC ?_
 refine wplI A9 kr (zJ (d := 14) (v := .agg #[.bool m.disc.neg, .slice ad len cap, .slice ae le ce, .slice st m.states.length cs]) A9 kr (zF (t := 28) (g := true) (vs := [.bool m.disc.neg, .slice ad len cap, .slice ae le ce, .slice st m.states.length cs]) (ad := ⟨b2, 0, none⟩) rfl kr kr ir (j8.cells 3 rfl rfl)) ?_)
 intro a12 A12
 refine zB 1 [(15, .slice av v.length cv)] A12 kr kr (fun a13 A13 => ?_)
 refine wplI A13 kr (zK (d := 16) (f := 27) (cap := #[]) (vs := #[.agg #[.bool m.disc.neg, .slice ad len cap, .slice ae le ce, .slice st m.states.length cs], .slice av v.length cv]) A13 kr j8 rfl kr kr (fun w => Try.call27 _ w) (mcheck_c _ _ j8.lt m _ _ _ (h.mono (Le4 q2 q4 q6 q8)) _ _ _ (h2.mono (Le4 q2 q4 q6 q8)) _ _ _ (hst.mono (Le4 q2 q4 q6 q8)) _ _ _ v rfl (by omega)) ?_)
 rintro v14 w14 j14 q14 hu14 rfl a15 A15
 refine zB 1 [(7, .int .i64 (m.chkV v))] A15 kr kr (fun a16 A16 => ?_)
 refine zE ?_
 refine zA (C11 _ _ ?_)
 refine zD (fun K17 C17 => ?_)
 refine zC ?_
 refine zB 2 [(18, .bool ((m.chkV v) != 0)), (17, .int .i64 (m.chkV v))] A16 kr kr (fun a18 A18 => ?_)
 refine zE ?_
 refine zA (C17 _ _ ?_)
 refine zS ((m.chkV v) != 0) A18 kr kr (fun hc19 => ?_) (fun hc19 => ?_)
 ·
  have A20 := A18.set 18 (v' := .bool true) kr rfl (zG hc19)
  have ht21 : (m.chkV v) ≠ 0 := by simpa using hc19
  refine zD (fun K22 C22 => ?_)
  refine zC ?_
  refine zB 1 [(19, .int .i64 (m.chkV v))] A20 kr kr (fun a23 A23 => ?_)
  refine wplI A23 kr (zO (t := 29) (b := b4) (off := 0) (c' := #[.slice none 0 0]) (g := false) (m := 1) 2 _ A23 kr j14 rfl kr rfl kr kr kr rfl (by first | decide | (simp; done)) kr rfl ?_)
  intro w24 j24 q24
  refine wplI A23 kr (zO (t := 30) (b := b6) (off := 0) (c' := #[.slice none 0 0]) (g := false) (m := 1) 1 _ A23 kr j24 rfl kr rfl kr kr kr rfl (by first | decide | (simp; done)) kr rfl ?_)
  intro w25 j25 q25
  refine wplI A23 kr (zO (t := 34) (b := b8) (off := 0) (c' := #[.int .i64 (m.chkV v)]) (g := false) (m := 1) 0 _ A23 kr j25 rfl kr rfl kr kr kr rfl (by first | decide | (simp; done)) kr rfl ?_)
  intro w26 j26 q26
  refine zE ?_
  refine zA (C22 _ _ ?_)
  refine zQ ?_
  refine zL ?_
  refine m_ret0 (v := .tuple #[.slice none 0 0, .slice none 0 0, .int .i64 (m.chkV v)]) (rs := [.cell 4 29, .cell 5 30, .cell 6 34]) A23 kr (Res.cell (ad := ⟨b4, 0, none⟩) (cs := [.slice none 0 0]) (g := false) kr kr kr ir (j26.cells 2 rfl rfl) (Res.cell (ad := ⟨b6, 0, none⟩) (cs := [.slice none 0 0]) (g := false) kr kr kr ir (j26.cells 1 rfl rfl) (Res.cell (ad := ⟨b8, 0, none⟩) (cs := [.int .i64 (m.chkV v)]) (g := false) kr kr kr ir (j26.cells 0 rfl rfl) Res.nil))) kr ?_
  have hend : m.backV v = _ := bk_chk ht21
  exact ⟨j26.upd, _, rfl, _, _, _, _, _, _, by rw [hend], by rw [hend]; exact rats_nil, by rw [hend]; exact ints_nil⟩
 have A27 := A18.set 18 (v' := .bool false) kr rfl (zG hc19)
 have ht28 : (m.chkV v) = 0 := by simpa using hc19
 have hm0 : ¬ m.chkV v ≠ 0 := by simpa using ht28
 have hpos := chkV_pos hm0
 have hbg := bk_go hm0
 refine i_skip ?_
 refine zA (C10 _ _ ?_)
 refine zD (fun K29 C29 => ?_)
 refine zD (fun K30 C30 => ?_)
 refine zC ?_
 refine zB 1 [(20, .pointer (some ⟨b2, 3, none⟩))] A27 kr kr (fun a31 A31 => ?_)
 refine wplI A31 kr (zJ (d := 21) (v := .slice st m.states.length cs) A31 kr (zF (t := 26) (g := false) (vs := [.slice st m.states.length cs]) (ad := ⟨b2, 3, none⟩) rfl kr kr ir (j14.cells 3 rfl rfl)) ?_)
 intro a32 A32
 refine zB 2 [(23, .int .i64 0), (22, .int .i64 (m.states.length : Int))] A32 kr kr (fun a33 A33 => ?_)
 refine zE ?_
 refine zA (C30 _ _ ?_)
 refine zV ?_
 refine qC (fun (k : Nat) ac w1 => ∃ (Y1 : Hid) (bs : List Nat) (rbv : List (Nat × Obj)) (adv : Option Addr) (capv : Nat) (es : List RE) (rbi : List (Nat × Obj)) (adi : Option Addr) (capi : Nat) (is : List Int), Fr 56 ac [(1, .slice av v.length cv), (2, .pointer (some ⟨b2, 0, none⟩)), (4, .pointer (some ⟨b4, 0, none⟩)), (5, .pointer (some ⟨b6, 0, none⟩)), (6, .pointer (some ⟨b8, 0, none⟩)), (21, .slice st m.states.length cs), (22, .int .i64 (m.states.length : Int)), (23, .int .i64 (k : Int))] (bs.map Go.Gv.mark) ∧ St E0 w X w1 Y1 ((b8, .cells #[.int .i64 0] 34 (0, 0)) :: (b6, .cells #[.slice adi k capi] 30 (0, 0)) :: (b4, .cells #[.slice adv k capv] 29 (0, 0)) :: (b2, .cells #[.bool m.disc.neg, .slice ad len cap, .slice ae le ce, .slice st m.states.length cs] 28 (0, 0)) :: (rbv ++ (rbi ++ marks bs))) ∧ Le (rd w14 Y8) (rd w1 Y1) ∧ (TRow 25 3 rbv adv k capv (flat es)) ∧ (TRow 3 1 rbi adi k capi (ivals is)) ∧ (backGo m.disc v (es.map (·.x)) is (m.states.drop k) = backGo m.disc v [] [] m.states) ∧ (∀ e ∈ es, e.ok (rd w1 Y1)) ∧ (k = es.length) ∧ (k = is.length) ∧ (k ≤ m.states.length)) (fun (k : Nat) => m.states.length - k) 0 ?_ ?_
 ·
  refine ⟨_, [], [], none, 0, [], [], none, 0, [], A33.as [1, 2, 4, 5, 6, 21, 22, 23] kr kr, j14, Le.refl _, TRow.nil _ _, TRow.nil _ _, rfl, fun _ h => absurd h (by simp), rfl, rfl, Nat.zero_le _⟩
 rintro k a34 w34 ⟨Y34, bs, rbv, adv, capv, es, rbi, adi, capi, is, A34, j34, q34, hp34_0, hp34_1, hp34_2, hp34_3, hp34_4, hp34_5, hp34_6⟩
 have hr1 := hp34_0
 have hr2 := hp34_1
 have hgo := hp34_2
 have hk1 := hp34_3
 have hke := hp34_4
 have hki := hp34_5
 have hkl := hp34_6
 refine zD (fun K35 C35 => ?_)
 refine zC ?_
 refine zB 1 [(24, .bool (decide ((k : Int) < (m.states.length : Int))))] A34 kr kr (fun a36 A36 => ?_)
 refine zE ?_
 refine zA (C35 _ _ ?_)
 refine zD (fun K37 C37 => ?_)
 refine zS (decide ((k : Int) < (m.states.length : Int))) A36 kr kr (fun hc38 => ?_) (fun hc38 => ?_)
 ·
  have A39 := A36.set 24 (v' := .bool true) kr rfl (zG hc38)
  have ht40 : (k : Int) < (m.states.length : Int) := of_decide_eq_true hc38
  obtain ⟨b0, off0, rfl⟩ := hst.addr (by omega)
  obtain ⟨sx, ax, lx, cx, hxs, hAs, hacts⟩ := hst.at (k := k) (by omega)
  obtain rfl := hacts.hlen
  have hcapx := hacts.hcap
  have hbigx := hacts.hbig
  have hAs1 : At (rd w X) ⟨b0, off0 + k, none⟩ [.slice ax sx.length cx] := by simpa using hAs
  have hsx := List.mem_of_getElem? hxs
  have hlen6 := state_len hm0 hsx
  refine i_skip ?_
  refine zA (C37 _ _ ?_)
  refine zD (fun K41 C41 => ?_)
  refine zV ?_
  refine zD (fun K42 C42 => ?_)
  refine zC ?_
  refine wplI A39 kr (zJ (d := 25) (v := .pointer (some ⟨b0, off0 + k, none⟩)) A39 kr (zP (t := 26) (e := 40) (b := b0) (off := off0) (len := m.states.length) (cap := cs) (kd := .i64) (i := (k : Int)) (g := false) (m := 1) (off' := off0 + k) rfl kr kr kr kr (by omega) (by omega) (by first | rfl | omega | (simp; done) | (simp; omega)) _) ?_)
  intro a43 A43
  refine wplI A43 kr (zJ (d := 26) (v := .slice ax sx.length cx) A43 kr (zF (t := 40) (g := false) (vs := [.slice ax sx.length cx]) (ad := ⟨b0, off0 + k, none⟩) rfl kr kr ir ((hAs1.mono (Le6 q2 q4 q6 q8 q14 q34))).cells) ?_)
  intro a44 A44
  refine zB 1 [(9, .slice ax sx.length cx)] A44 kr kr (fun a45 A45 => ?_)
  refine zE ?_
  refine zA (C42 _ _ ?_)
  refine zD (fun K46 C46 => ?_)
  refine zC ?_
  refine wplI A45 kr (zN (d := 10) (fun b => .pointer (some ⟨b, 0, none⟩)) (.cells #[.slice none 0 0] 29 (0, 0)) A45 kr j34 kw ?_)
  intro b47 w47 Y47 j47 q47 hu47 a48 A48
  refine zE ?_
  refine zA (C46 _ _ ?_)
  refine zD (fun K49 C49 => ?_)
  refine zD (fun K50 C50 => ?_)
  refine zC ?_
  refine wplI A48 kr (zJ (d := 27) (v := .agg #[.bool m.disc.neg, .slice ad len cap, .slice ae le ce, .slice (some ⟨b0, off0, none⟩) m.states.length cs]) A48 kr (zF (t := 28) (g := true) (vs := [.bool m.disc.neg, .slice ad len cap, .slice ae le ce, .slice (some ⟨b0, off0, none⟩) m.states.length cs]) (ad := ⟨b2, 0, none⟩) rfl kr kr ir (j47.cells 4 rfl rfl)) ?_)
  intro a51 A51
  refine zB 2 [(29, .slice ax sx.length cx), (28, .slice av v.length cv)] A51 kr kr (fun a52 A52 => ?_)
  refine wplI A52 kr (zK (d := 30) (f := 28) (cap := #[]) (vs := #[.agg #[.bool m.disc.neg, .slice ad len cap, .slice ae le ce, .slice (some ⟨b0, off0, none⟩) m.states.length cs], .slice av v.length cv, .slice ax sx.length cx]) A52 kr j47 rfl kr kr (fun w => Try.call28 _ w) (scores_c _ _ j47.lt m.disc.neg ad len cap ae le ce (some ⟨b0, off0, none⟩) m.states.length cs av v.length cv ax sx.length cx) ?_)
  rintro v53 w53 j53 q53 hu53 ⟨b1_53, b2_53, b3_53, rfl, hb1_53, hb2_53, hb3_53⟩ a54 A54
  refine zE ?_
  refine zA (C50 _ _ ?_)
  refine zV ?_
  refine i_range2 (f := 48) (caps := #[.pointer (some ⟨b1_53, 0, none⟩), .pointer (some ⟨b2_53, 0, none⟩), .pointer (some ⟨b3_53, 0, none⟩)]) A54 j53 kr kr (fun args w => Try.call48 args w) ?_
  intro rec55 l55 b55 w55 Y55 hr55 j55 q55 hu55
  have A56 := fr_marked b55 A54
  refine scores1_c l55 b1_53 b2_53 b3_53 _ m.disc _ _ _ (h.mono (Le9 q2 q4 q6 q8 q14 q34 q47 q53 q55)) _ _ _ (h2.mono (Le9 q2 q4 q6 q8 q14 q34 q47 q53 q55)) _ _ _ v _ _ _ (hv.mono (Le9 q2 q4 q6 q8 q14 q34 q47 q53 q55)) (by omega) sx _ _ _ (hacts.mono (Le9 q2 q4 q6 q8 q14 q34 q47 q53 q55)) (by omega) (fun a ha => score_range hm0 hsx ha) (hb1_53.mono q55) (hb2_53.mono q55) (hb3_53.mono q55) (fun i w' Y' => ∃ (rbl : List (Nat × Obj)) (adl : Option Addr) (kl : Nat) (capl : Nat) (el : List RE), St E0 w X w' Y' ((l55, .loop rec55) :: (b55, .deferred (some [])) :: (b47, .cells #[.slice adl kl capl] 29 (0, 0)) :: (b8, .cells #[.int .i64 0] 34 (0, 0)) :: (b6, .cells #[.slice adi k capi] 30 (0, 0)) :: (b4, .cells #[.slice adv k capv] 29 (0, 0)) :: (b2, .cells #[.bool m.disc.neg, .slice ad len cap, .slice ae le ce, .slice (some ⟨b0, off0, none⟩) m.states.length cs] 28 (0, 0)) :: (rbl ++ (rbv ++ (rbi ++ marks bs)))) ∧ Le (rd w55 Y55) (rd w' Y') ∧ (TRow 25 3 rbl adl kl capl (flat el)) ∧ (scoresGo m.disc v (el.map (·.x)) (sx.drop i) = scoresV m.disc v sx) ∧ (∀ e ∈ el, e.ok (rd w' Y')) ∧ (kl = el.length) ∧ (kl = i)) _ ?_ ?_ ?_ ?_ _ Y55 ?_
  ·
   rintro i w57 Y57 ⟨rbl, adl, kl, capl, el, j57, q57, hp57_0, hp57_1, hp57_2, hp57_3, hp57_4⟩
   exact ⟨j57.lt, q57⟩
  ·
   rintro i w58 Y58 ⟨rbl, adl, kl, capl, el, j58, q58, hp58_0, hp58_1, hp58_2, hp58_3, hp58_4⟩
   intro w9 hu9
   exact ⟨_, _, _, _, _, j58.call hu9, q58.trans (hu9.le _), hp58_0, hp58_1, fun e he => (hp58_2 e he).mono (hu9.le _), hp58_3, hp58_4⟩
  ·
   intro i w59 Y59 hk
   rintro ⟨rbl, adl, kl, capl, el, j59, q59, hp59_0, hp59_1, hp59_2, hp59_3, hp59_4⟩
   intro xa u hxa hu
   obtain ⟨adu, lenu, capu, aeu, leu, ceu, rfl, hNu, hDu⟩ := hu
   have hrl := hp59_0
   have hgl := hp59_1
   have hkl1 := hp59_2
   have hel := hp59_3
   have hkk := hp59_4
   refine y_round2 (p := 31) (q := 32) hr55 A54 j59 kr kr (fun a60 A60 => ?_)
   refine zD (fun K61 C61 => ?_)
   refine zC ?_
   refine wplI A60 kr (zN (d := 11) (fun b => .pointer (some ⟨b, 0, none⟩)) (.cells #[.bool false, .slice none 0 0, .slice none 0 0] 25 (0, 0)) A60 kr j59 kw ?_)
   intro b62 w62 Y62 j62 q62 hu62 a63 A63
   refine wplI A63 kr (zO (t := 25) (b := b62) (off := 0) (c' := #[.bool ((scoreV m.disc v xa).1.neg), .slice adu lenu capu, .slice aeu leu ceu]) (g := true) (m := 3) 0 _ A63 kr j62 rfl kr rfl kr kr kr rfl (by first | decide | (simp; done)) kr rfl ?_)
   intro w64 j64 q64
   refine zE ?_
   refine zA (C61 _ _ ?_)
   refine zC ?_
   refine zB 1 [(12, .int .i64 ((scoreV m.disc v xa).2))] A63 kr kr (fun a65 A65 => ?_)
   refine zE ?_
   refine zA ?_
   refine y_begin2 hr55 (St.front [(b62, .cells #[.bool ((scoreV m.disc v xa).1.neg), .slice adu lenu capu, .slice aeu leu ceu] 25 (0, 0))] j64) (fun w66 j66 q66 => ?_)
   refine zV ?_
   refine zD (fun K67 C67 => ?_)
   refine zD (fun K68 C68 => ?_)
   refine zC ?_
   refine zB 2 [(34, .bool (((scoreV m.disc v xa).2) != 0)), (33, .int .i64 ((scoreV m.disc v xa).2))] A65 kr kr (fun a69 A69 => ?_)
   refine zE ?_
   refine zA (C68 _ _ ?_)
   refine zS (((scoreV m.disc v xa).2) != 0) A69 kr kr (fun hc70 => ?_) (fun hc70 => ?_)
   ·
    have A71 := A69.set 34 (v' := .bool true) kr rfl (zG hc70)
    have ht72 : ((scoreV m.disc v xa).2) ≠ 0 := by simpa using hc70
    have hse := hgl.symm.trans (scoresGo_stop hxa ht72)
    refine zD (fun K73 C73 => ?_)
    refine zC ?_
    refine zB 1 [(35, .int .i64 ((scoreV m.disc v xa).2))] A71 kr kr (fun a74 A74 => ?_)
    refine wplI A74 kr (zO (t := 29) (b := b4) (off := 0) (c' := #[.slice none 0 0]) (g := false) (m := 1) 6 _ A74 kr j66 rfl kr rfl kr kr kr rfl (by first | decide | (simp; done)) kr rfl ?_)
    intro w75 j75 q75
    refine wplI A74 kr (zO (t := 30) (b := b6) (off := 0) (c' := #[.slice none 0 0]) (g := false) (m := 1) 5 _ A74 kr j75 rfl kr rfl kr kr kr rfl (by first | decide | (simp; done)) kr rfl ?_)
    intro w76 j76 q76
    refine wplI A74 kr (zO (t := 34) (b := b8) (off := 0) (c' := #[.int .i64 ((scoreV m.disc v xa).2)]) (g := false) (m := 1) 4 _ A74 kr j76 rfl kr rfl kr kr kr rfl (by first | decide | (simp; done)) kr rfl ?_)
    intro w77 j77 q77
    refine zE ?_
    refine zA (C73 _ _ ?_)
    refine zQ ?_
    refine zL ?_
    refine zU ?_
    refine y_ret2 j77 (fun w78 j78 q78 => Rounds.stop (RangeEnd.ret j78 (fun w79 j79 q79 => ?_)))
    have j79 : St E0 w X w79 Y62 ((l55, .loop (exhL (retL rec55))) :: (b62, .cells #[.bool ((scoreV m.disc v xa).1.neg), .slice adu lenu capu, .slice aeu leu ceu] 25 (0, 0)) :: (b55, .deferred (some [])) :: (b47, .cells #[.slice adl kl capl] 29 (0, 0)) :: (b8, .cells #[.int .i64 ((scoreV m.disc v xa).2)] 34 (0, 0)) :: (b6, .cells #[.slice none 0 0] 30 (0, 0)) :: (b4, .cells #[.slice none 0 0] 29 (0, 0)) :: (b2, .cells #[.bool m.disc.neg, .slice ad len cap, .slice ae le ce, .slice (some ⟨b0, off0, none⟩) m.states.length cs] 28 (0, 0)) :: (rbl ++ (rbv ++ (rbi ++ marks bs)))) := j79
    have hSm : St E0 w X w79 Y62 ((l55, .loop (exhL (retL rec55))) :: (b62, .cells #[.bool ((scoreV m.disc v xa).1.neg), .slice adu lenu capu, .slice aeu leu ceu] 25 (0, 0)) :: (b47, .cells #[.slice adl kl capl] 29 (0, 0)) :: (b8, .cells #[.int .i64 ((scoreV m.disc v xa).2)] 34 (0, 0)) :: (b6, .cells #[.slice none 0 0] 30 (0, 0)) :: (b4, .cells #[.slice none 0 0] 29 (0, 0)) :: (b2, .cells #[.bool m.disc.neg, .slice ad len cap, .slice ae le ce, .slice (some ⟨b0, off0, none⟩) m.states.length cs] 28 (0, 0)) :: (rbl ++ (rbv ++ (rbi ++ ((b55, .deferred (some [])) :: marks bs))))) := j79.perm (by have h9 := perm_mark (A := [(l55, .loop (exhL (retL rec55))), (b62, .cells #[.bool ((scoreV m.disc v xa).1.neg), .slice adu lenu capu, .slice aeu leu ceu] 25 (0, 0))]) (B := ([(b47, .cells #[.slice adl kl capl] 29 (0, 0)), (b8, .cells #[.int .i64 ((scoreV m.disc v xa).2)] 34 (0, 0)), (b6, .cells #[.slice none 0 0] 30 (0, 0)), (b4, .cells #[.slice none 0 0] 29 (0, 0)), (b2, .cells #[.bool m.disc.neg, .slice ad len cap, .slice ae le ce, .slice (some ⟨b0, off0, none⟩) m.states.length cs] 28 (0, 0))] ++ (rbl ++ (rbv ++ rbi)))) (C := marks bs) (x := (b55, .deferred (some []))); simpa only [List.append_assoc, List.cons_append, List.nil_append] using h9)
    have j79 : St E0 w X w79 Y62 ((l55, .loop (exhL (retL rec55))) :: (b62, .cells #[.bool ((scoreV m.disc v xa).1.neg), .slice adu lenu capu, .slice aeu leu ceu] 25 (0, 0)) :: (b47, .cells #[.slice adl kl capl] 29 (0, 0)) :: (b8, .cells #[.int .i64 ((scoreV m.disc v xa).2)] 34 (0, 0)) :: (b6, .cells #[.slice none 0 0] 30 (0, 0)) :: (b4, .cells #[.slice none 0 0] 29 (0, 0)) :: (b2, .cells #[.bool m.disc.neg, .slice ad len cap, .slice ae le ce, .slice (some ⟨b0, off0, none⟩) m.states.length cs] 28 (0, 0)) :: (rbl ++ (rbv ++ (rbi ++ marks (b55 :: bs))))) := hSm
    refine zU ?_
    refine zL ?_
    refine zU ?_
    refine zL ?_
    refine zL ?_
    refine zU ?_
    refine zL ?_
    have hSr : St E0 w X w79 Y62 (([(l55, .loop (exhL (retL rec55))), (b62, .cells #[.bool ((scoreV m.disc v xa).1.neg), .slice adu lenu capu, .slice aeu leu ceu] 25 (0, 0)), (b47, .cells #[.slice adl kl capl] 29 (0, 0)), (b8, .cells #[.int .i64 ((scoreV m.disc v xa).2)] 34 (0, 0)), (b6, .cells #[.slice none 0 0] 30 (0, 0)), (b4, .cells #[.slice none 0 0] 29 (0, 0)), (b2, .cells #[.bool m.disc.neg, .slice ad len cap, .slice ae le ce, .slice (some ⟨b0, off0, none⟩) m.states.length cs] 28 (0, 0))] ++ rbl ++ rbv ++ rbi) ++ marks (b55 :: bs)) := by have h9 : St E0 w X w79 Y62 ((l55, .loop (exhL (retL rec55))) :: (b62, .cells #[.bool ((scoreV m.disc v xa).1.neg), .slice adu lenu capu, .slice aeu leu ceu] 25 (0, 0)) :: (b47, .cells #[.slice adl kl capl] 29 (0, 0)) :: (b8, .cells #[.int .i64 ((scoreV m.disc v xa).2)] 34 (0, 0)) :: (b6, .cells #[.slice none 0 0] 30 (0, 0)) :: (b4, .cells #[.slice none 0 0] 29 (0, 0)) :: (b2, .cells #[.bool m.disc.neg, .slice ad len cap, .slice ae le ce, .slice (some ⟨b0, off0, none⟩) m.states.length cs] 28 (0, 0)) :: (rbl ++ (rbv ++ (rbi ++ marks (b55 :: bs))))) := j79; simpa only [List.append_assoc, List.cons_append, List.nil_append] using h9
    refine m_rets (bs := (b55 :: bs)) (N := ([(l55, .loop (exhL (retL rec55))), (b62, .cells #[.bool ((scoreV m.disc v xa).1.neg), .slice adu lenu capu, .slice aeu leu ceu] 25 (0, 0)), (b47, .cells #[.slice adl kl capl] 29 (0, 0)), (b8, .cells #[.int .i64 ((scoreV m.disc v xa).2)] 34 (0, 0)), (b6, .cells #[.slice none 0 0] 30 (0, 0)), (b4, .cells #[.slice none 0 0] 29 (0, 0)), (b2, .cells #[.bool m.disc.neg, .slice ad len cap, .slice ae le ce, .slice (some ⟨b0, off0, none⟩) m.states.length cs] 28 (0, 0))] ++ rbl ++ rbv ++ rbi)) (v := .tuple #[.slice none 0 0, .slice none 0 0, .int .i64 ((scoreV m.disc v xa).2)]) (rs := [.cell 4 29, .cell 5 30, .cell 6 34]) (vs := [.slice none 0 0, .slice none 0 0, .int .i64 ((scoreV m.disc v xa).2)]) A56 hSr kr kr (fun w80 j80 q80 => ?_)
    have j80 : St E0 w X w80 Y62 ((l55, .loop (exhL (retL rec55))) :: (b62, .cells #[.bool ((scoreV m.disc v xa).1.neg), .slice adu lenu capu, .slice aeu leu ceu] 25 (0, 0)) :: (b47, .cells #[.slice adl kl capl] 29 (0, 0)) :: (b8, .cells #[.int .i64 ((scoreV m.disc v xa).2)] 34 (0, 0)) :: (b6, .cells #[.slice none 0 0] 30 (0, 0)) :: (b4, .cells #[.slice none 0 0] 29 (0, 0)) :: (b2, .cells #[.bool m.disc.neg, .slice ad len cap, .slice ae le ce, .slice (some ⟨b0, off0, none⟩) m.states.length cs] 28 (0, 0)) :: (rbl ++ (rbv ++ rbi))) := by have h9 := j80; simpa only [List.append_assoc, List.cons_append, List.nil_append] using h9
    refine ⟨(Res.cell (ad := ⟨b4, 0, none⟩) (cs := [.slice none 0 0]) (g := false) kr kr kr ir (j80.cells 5 rfl rfl) (Res.cell (ad := ⟨b6, 0, none⟩) (cs := [.slice none 0 0]) (g := false) kr kr kr ir (j80.cells 4 rfl rfl) (Res.cell (ad := ⟨b8, 0, none⟩) (cs := [.int .i64 ((scoreV m.disc v xa).2)]) (g := false) kr kr kr ir (j80.cells 3 rfl rfl) Res.nil))), ?_⟩
    have hend : m.backV v = _ := hbg.trans (hgo.symm.trans ((backGo_stop hxs (by rw [hse]; exact ht72)).trans (by rw [hse])))
    exact ⟨j80.upd, _, rfl, _, _, _, _, _, _, by rw [hend], by rw [hend]; exact rats_nil, by rw [hend]; exact ints_nil⟩
   have A81 := A69.set 34 (v' := .bool false) kr rfl (zG hc70)
   have ht82 : ((scoreV m.disc v xa).2) = 0 := by simpa using hc70
   refine i_skip ?_
   refine zA (C67 _ _ ?_)
   refine zC ?_
   refine wplI A81 kr (zJ (d := 36) (v := .slice adl kl capl) A81 kr (zF (t := 29) (g := false) (vs := [.slice adl kl capl]) (ad := ⟨b47, 0, none⟩) rfl kr kr ir (j66.cells 3 rfl rfl)) ?_)
   intro a83 A83
   refine wplI A83 kr (zJ (d := 37) (v := .agg #[.bool ((scoreV m.disc v xa).1.neg), .slice adu lenu capu, .slice aeu leu ceu]) A83 kr (zF (t := 25) (g := true) (vs := [.bool ((scoreV m.disc v xa).1.neg), .slice adu lenu capu, .slice aeu leu ceu]) (ad := ⟨b62, 0, none⟩) rfl kr kr ir (j66.cells 1 rfl rfl)) ?_)
   intro a84 A84
   refine wplI A84 kr (zN (d := 38) (fun b => .slice (some ⟨b, 0, none⟩) 1 1) (.cells #[.bool ((scoreV m.disc v xa).1.neg), .slice adu lenu capu, .slice aeu leu ceu] 25 (0, 0)) A84 kr j66 kw ?_)
   intro b85 w85 Y85 j85 q85 hu85 a86 A86
   refine wplI A86 kr (qF (d := 39) (t := 29) (e := 25) (size := 3) (m := 1) (c := 1) (nn := kl) (cap := capl) (ad0 := adl) (xs := (flat el)) (news := [.bool ((scoreV m.disc v xa).1.neg), .slice adu lenu capu, .slice aeu leu ceu]) (ad := ⟨b85, 0, none⟩) (z := .agg #[.bool false, .slice none 0 0, .slice none 0 0]) (i0 := Try.t25) (rb := rbl) (R1 := []) (B := (rbv ++ (rbi ++ marks bs))) 9 A86 kr j85 rfl rfl kr kr kr kr kr kr kr hrl (j85.cells 0 rfl rfl) kr kr (by omega) (by simp only [maxLen]; omega) (by show (_ + 1) * 56 ≤ _; omega) ?_)
   intro rb87 ad87 cap87 w87 Y87 hrow87 j87 q87 a88 A88
   have hrw87 : TRow 25 3 rb87 ad87 (kl + 1) cap87 (flat (el ++ [(RE.mk (scoreV m.disc v xa).1 adu lenu capu aeu leu ceu)])) := by rw [flat_snoc]; exact hrow87
   refine wplI A88 kr (zO (t := 29) (b := b47) (off := 0) (c' := #[.slice ad87 (kl + 1) cap87]) (g := false) (m := 1) 4 _ A88 kr j87 rfl kr rfl kr kr kr rfl (by first | decide | (simp; done)) kr rfl ?_)
   intro w89 j89 q89
   refine zE ?_
   refine zW ?_
   refine y_next2 hr55 j89.tail.swap.tail (fun w90 j90 q90 => Rounds.next ?_)
   refine Eq.mpr (if_pos (by simpa using ht82)) ?_
   exact ⟨_, rb87, ad87, (kl + 1), cap87, (el ++ [(RE.mk (scoreV m.disc v xa).1 adu lenu capu aeu leu ceu)]), j90, (Le8 q59 q62 q64 q66 q85 q87 q89 q90), hrw87, by rw [List.map_append]; exact (scoresGo_step hxa (by simpa using ht82)).symm.trans hgl, fun e he => by rcases List.mem_append.1 he with h1 | h1; exact (hkl1 e h1).mono (Le7 q62 q64 q66 q85 q87 q89 q90); obtain rfl := List.mem_singleton.1 h1; exact ⟨(hNu.mono (Le7 q62 q64 q66 q85 q87 q89 q90)), (hDu.mono (Le7 q62 q64 q66 q85 q87 q89 q90))⟩, by rw [List.length_append, ← hel]; rfl, by omega⟩
  ·
   rintro w91 Y91 ⟨rbl, adl, kl, capl, el, j91, q91, hp91_0, hp91_1, hp91_2, hp91_3, hp91_4⟩
   refine RangeEnd.norm hr55 j91 (fun w92 j92 q92 => ?_)
   have j92 : St E0 w X w92 Y91 ((l55, .loop (exhL rec55)) :: (b55, .deferred (some [])) :: (b47, .cells #[.slice adl kl capl] 29 (0, 0)) :: (b8, .cells #[.int .i64 0] 34 (0, 0)) :: (b6, .cells #[.slice adi k capi] 30 (0, 0)) :: (b4, .cells #[.slice adv k capv] 29 (0, 0)) :: (b2, .cells #[.bool m.disc.neg, .slice ad len cap, .slice ae le ce, .slice (some ⟨b0, off0, none⟩) m.states.length cs] 28 (0, 0)) :: (rbl ++ (rbv ++ (rbi ++ marks bs)))) := j92
   have hSm : St E0 w X w92 Y91 ((l55, .loop (exhL rec55)) :: (b47, .cells #[.slice adl kl capl] 29 (0, 0)) :: (b8, .cells #[.int .i64 0] 34 (0, 0)) :: (b6, .cells #[.slice adi k capi] 30 (0, 0)) :: (b4, .cells #[.slice adv k capv] 29 (0, 0)) :: (b2, .cells #[.bool m.disc.neg, .slice ad len cap, .slice ae le ce, .slice (some ⟨b0, off0, none⟩) m.states.length cs] 28 (0, 0)) :: (rbl ++ (rbv ++ (rbi ++ ((b55, .deferred (some [])) :: marks bs))))) := j92.perm (by have h9 := perm_mark (A := [(l55, .loop (exhL rec55))]) (B := ([(b47, .cells #[.slice adl kl capl] 29 (0, 0)), (b8, .cells #[.int .i64 0] 34 (0, 0)), (b6, .cells #[.slice adi k capi] 30 (0, 0)), (b4, .cells #[.slice adv k capv] 29 (0, 0)), (b2, .cells #[.bool m.disc.neg, .slice ad len cap, .slice ae le ce, .slice (some ⟨b0, off0, none⟩) m.states.length cs] 28 (0, 0))] ++ (rbl ++ (rbv ++ rbi)))) (C := marks bs) (x := (b55, .deferred (some []))); simpa only [List.append_assoc, List.cons_append, List.nil_append] using h9)
   have j92 : St E0 w X w92 Y91 ((l55, .loop (exhL rec55)) :: (b47, .cells #[.slice adl kl capl] 29 (0, 0)) :: (b8, .cells #[.int .i64 0] 34 (0, 0)) :: (b6, .cells #[.slice adi k capi] 30 (0, 0)) :: (b4, .cells #[.slice adv k capv] 29 (0, 0)) :: (b2, .cells #[.bool m.disc.neg, .slice ad len cap, .slice ae le ce, .slice (some ⟨b0, off0, none⟩) m.states.length cs] 28 (0, 0)) :: (rbl ++ (rbv ++ (rbi ++ marks (b55 :: bs))))) := hSm
   have hrl := hp91_0
   have hgl := hp91_1
   have hkl1 := hp91_2
   have hel := hp91_3
   have hkk := hp91_4
   have hsv : scoresV m.disc v sx = (el.map (·.x), 0) := hgl.symm.trans (scoresGo_end (Nat.le_refl _))
   have hsv0 : (scoresV m.disc v sx).2 = 0 := by rw [hsv]
   have hsv1 : el.map (·.x) = (scoresV m.disc v sx).1 := by rw [hsv]
   have hbl := best_lt hsv0 hlen6.1
   refine zW ?_
   refine zA (C49 _ _ ?_)
   refine zD (fun K93 C93 => ?_)
   refine zC ?_
   refine wplI A56 kr (zJ (d := 40) (v := .slice adl kl capl) A56 kr (zF (t := 29) (g := false) (vs := [.slice adl kl capl]) (ad := ⟨b47, 0, none⟩) rfl kr kr ir (j92.cells 1 rfl rfl)) ?_)
   intro a94 A94
   obtain ⟨Y95, hSx95, q95, hRx95⟩ := St.pubRats (A := [(l55, .loop (exhL rec55)), (b47, .cells #[.slice adl kl capl] 29 (0, 0)), (b8, .cells #[.int .i64 0] 34 (0, 0)), (b6, .cells #[.slice adi k capi] 30 (0, 0)), (b4, .cells #[.slice adv k capv] 29 (0, 0)), (b2, .cells #[.bool m.disc.neg, .slice ad len cap, .slice ae le ce, .slice (some ⟨b0, off0, none⟩) m.states.length cs] 28 (0, 0))]) (B := (rbv ++ (rbi ++ marks (b55 :: bs)))) (fun rb => ((l55, .loop (exhL rec55)) :: (b47, .cells #[.slice adl kl capl] 29 (0, 0)) :: (b8, .cells #[.int .i64 0] 34 (0, 0)) :: (b6, .cells #[.slice adi k capi] 30 (0, 0)) :: (b4, .cells #[.slice adv k capv] 29 (0, 0)) :: (b2, .cells #[.bool m.disc.neg, .slice ad len cap, .slice ae le ce, .slice (some ⟨b0, off0, none⟩) m.states.length cs] 28 (0, 0)) :: (rb ++ (rbv ++ (rbi ++ marks (b55 :: bs)))))) j92 (fun _ => by simp only [List.append_assoc, List.cons_append, List.nil_append, List.append_nil]) hrl hel (fun e he => (hkl1 e he).mono q92)
   have j95 : St E0 w X w92 Y95 ((l55, .loop (exhL rec55)) :: (b47, .cells #[.slice adl kl capl] 29 (0, 0)) :: (b8, .cells #[.int .i64 0] 34 (0, 0)) :: (b6, .cells #[.slice adi k capi] 30 (0, 0)) :: (b4, .cells #[.slice adv k capv] 29 (0, 0)) :: (b2, .cells #[.bool m.disc.neg, .slice ad len cap, .slice ae le ce, .slice (some ⟨b0, off0, none⟩) m.states.length cs] 28 (0, 0)) :: (rbv ++ (rbi ++ marks (b55 :: bs)))) := hSx95
   have hR95 : Rats (rd w92 Y95) adl kl capl (scoresV m.disc v sx).1 := by have h9 := hRx95; rwa [hsv1] at h9
   have hbl1 : (scoresV m.disc v sx).1.length = sx.length := by rw [(scoresV_ok hsv0).1, List.length_map]
   have hkl2 := hR95.hlen
   obtain ⟨bw, offw, xk, ank, lnk, cnk, amk, lmk, cmk, rfl, hxk, hAk, hLk, hMk⟩ := hR95.cell (k := bestI m.disc v sx) (by omega)
   have hbr : bestR m.disc v sx = xk := getD_get hxk
   have hstep : backGo m.disc v (es.map (·.x)) is (m.states.drop k) = _ := backGo_step hxs hsv0
   rw [hbr] at hstep
   refine wplI A94 kr (zK (d := 41) (f := 29) (cap := #[]) (vs := #[.slice (some ⟨bw, offw, none⟩) kl capl, .func (.func 30) #[] #[]]) A94 kr j95 rfl kr kr (fun w => Try.call29 _ w) (least_c 30 lessB (fun args w => Try.call30 args w) smaller_lessB _ _ j95.lt _ _ _ (scoresV m.disc v sx).1 (hR95.mono (Le.refl _)) (by omega)) ?_)
   rintro v96 w96 j96 q96 hu96 rfl a97 A97
   refine zB 1 [(13, .int .i64 ((bestI m.disc v sx : Nat) : Int))] A97 kr kr (fun a98 A98 => ?_)
   refine zE ?_
   refine zA (C93 _ _ ?_)
   refine qD (N := 13) (Held [(⟨b47, 0, none⟩, [.slice (some ⟨bw, offw, none⟩) kl capl]), (⟨bw, offw + bestI m.disc v sx * 3, none⟩, [.bool xk.neg, .slice ank lnk cnk, .slice amk lmk cmk]), (⟨b6, 0, none⟩, [.slice adi k capi])]) [12] kr kr kr j96 ?_
   intro w99 j99 q99 hu99
   refine zX (Held.cons (j99.cells 1 rfl rfl) (Held.cons ((hAk.mono (Le2 q96 q99))).cells (Held.cons (j99.cells 3 rfl rfl) (Held.nil _)))) (fun hH99 => ?_)
   refine zY (d := 43) (v := .slice (some ⟨bw, offw, none⟩) kl capl) 1 A98 rfl kr kr kr (fun w hw => zF (t := 29) (g := false) (vs := [.slice (some ⟨bw, offw, none⟩) kl capl]) (ad := ⟨b47, 0, none⟩) rfl kr kr ir (hw.get 0 kr)) hH99 ?_
   intro a100 A100
   refine zH (d := 44) (v := .int .i64 ((bestI m.disc v sx : Nat) : Int)) 2 A100 rfl kr kr kw (fun _ => hH99) ?_
   intro a101 A101
   refine zH (d := 45) (v := .pointer (some ⟨bw, offw + bestI m.disc v sx * 3, none⟩)) 3 A101 rfl kr kr (fun w => zP (t := 29) (e := 25) (b := bw) (off := offw) (len := kl) (cap := capl) (kd := .i64) (i := ((bestI m.disc v sx : Nat) : Int)) (g := true) (m := 3) (off' := offw + bestI m.disc v sx * 3) rfl kr kr kr kr (by omega) (by omega) (by first | rfl | omega | (simp; done) | (simp; omega)) w) (fun _ => hH99) ?_
   intro a102 A102
   refine zY (d := 46) (v := .agg #[.bool xk.neg, .slice ank lnk cnk, .slice amk lmk cmk]) 4 A102 rfl kr kr kr (fun w hw => zF (t := 25) (g := true) (vs := [.bool xk.neg, .slice ank lnk cnk, .slice amk lmk cmk]) (ad := ⟨bw, offw + bestI m.disc v sx * 3, none⟩) rfl kr kr ir (hw.get 1 kr)) hH99 ?_
   intro a103 A103
   refine zY (d := 49) (v := .slice adi k capi) 7 A103 rfl kr kr kr (fun w hw => zF (t := 30) (g := false) (vs := [.slice adi k capi]) (ad := ⟨b6, 0, none⟩) rfl kr kr ir (hw.get 2 kr)) hH99 ?_
   intro a104 A104
   refine zH (d := 50) (v := .int .i64 ((bestI m.disc v sx : Nat) : Int)) 8 A104 rfl kr kr kw (fun _ => hH99) ?_
   intro a105 A105
   refine zM [0, 5, 9] kr rfl ?_
   refine ForkT.cons (i := 0) A105 rfl kr ?_ ?_
   ·
    refine zJ (d := 42) (v := .slice adv k capv) A105 kr (zF (t := 29) (g := false) (vs := [.slice adv k capv]) (ad := ⟨b4, 0, none⟩) rfl kr kr ir (j99.cells 4 rfl rfl)) ?_
    intro a106 A106
    refine zI (Held.cons (j99.cells 1 rfl rfl) (Held.cons ((hAk.mono (Le2 q96 q99))).cells (Held.cons (j99.cells 3 rfl rfl) (Held.nil _)))) (fun hH99 => ?_)
    refine zM [5, 9] kr rfl ?_
    refine ForkT.cons (i := 5) A106 rfl kr ?_ ?_
    ·
     refine zN (d := 47) (fun b => .slice (some ⟨b, 0, none⟩) 1 1) (.cells #[.bool xk.neg, .slice ank lnk cnk, .slice amk lmk cmk] 25 (0, 0)) A106 kr j99 kw ?_
     intro b107 w107 Y107 j107 q107 hu107 a108 A108
     refine zI (hH99.up hu107) (fun hH107 => ?_)
     refine zM [6, 9] kr rfl ?_
     refine ForkT.cons (i := 6) A108 rfl kr ?_ ?_
     ·
      refine qF (d := 48) (t := 29) (e := 25) (size := 3) (m := 1) (c := 1) (nn := k) (cap := capv) (ad0 := adv) (xs := (flat es)) (news := [.bool xk.neg, .slice ank lnk cnk, .slice amk lmk cmk]) (ad := ⟨b107, 0, none⟩) (z := .agg #[.bool false, .slice none 0 0, .slice none 0 0]) (i0 := Try.t25) (rb := rbv) (R1 := []) (B := (rbi ++ marks (b55 :: bs))) 7 A108 kr j107 rfl rfl kr kr kr kr kr kr kr hr1 (j107.cells 0 rfl rfl) kr kr (by omega) (by simp only [maxLen]; omega) (by show (_ + 1) * 56 ≤ _; omega) ?_
      intro rb109 ad109 cap109 w109 Y109 hrow109 j109 q109 a110 A110
      have hrw109 : TRow 25 3 rb109 ad109 (k + 1) cap109 (flat (es ++ [(RE.mk xk ank lnk cnk amk lmk cmk)])) := by rw [flat_snoc]; exact hrow109
      refine zI (Held.cons (j109.cells 2 rfl rfl) (Held.cons ((hAk.mono (Le4 q96 q99 q107 q109))).cells (Held.cons (j109.cells 4 rfl rfl) (Held.nil _)))) (fun hH109 => ?_)
      refine zM [9] kr rfl ?_
      refine ForkT.cons (i := 9) A110 rfl kr (zN (d := 51) (fun b => .slice (some ⟨b, 0, none⟩) 1 1) (.cells #[.int .i64 ((bestI m.disc v sx : Nat) : Int)] 3 (0, 0)) A110 kr j109 kw ?_) ForkT.nil
      intro b111 w111 Y111 j111 q111 hu111 a112 A112
      refine zI (hH109.up hu111) (fun hH111 => ?_)
      refine zM [10] kr rfl ?_
      refine ForkT.cons (i := 10) A112 rfl kr (qF (d := 52) (t := 30) (e := 3) (size := 1) (m := 1) (c := 1) (nn := k) (cap := capi) (ad0 := adi) (xs := (ivals is)) (news := [.int .i64 ((bestI m.disc v sx : Nat) : Int)]) (ad := ⟨b111, 0, none⟩) (z := .int .i64 0) (i0 := Try.t3) (rb := rbi) (R1 := rb109) (B := (marks (b55 :: bs))) 8 A112 kr j111 rfl rfl kr kr kr kr kr kr kr hr2 (j111.cells 0 rfl rfl) kr kr (by omega) (by simp only [maxLen]; omega) (by show (_ + 1) * 8 ≤ _; omega) ?_) ForkT.nil
      intro rb113 ad113 cap113 w113 Y113 hrow113 j113 q113 a114 A114
      have hrw113 : TRow 3 1 rb113 ad113 (k + 1) cap113 (ivals (is ++ [((bestI m.disc v sx : Nat) : Int)])) := by rw [ivals_snoc]; exact hrow113
      refine zI (Held.cons (j113.cells 3 rfl rfl) (Held.cons ((hAk.mono (Le6 q96 q99 q107 q109 q111 q113))).cells (Held.cons (j113.cells 5 rfl rfl) (Held.nil _)))) (fun hH113 => ?_)
      refine zM [11] kr rfl ?_
      refine ForkT.cons (i := 11) A114 rfl kr (zO (t := 29) (b := b4) (off := 0) (c' := #[.slice ad109 (k + 1) cap109]) (g := false) (m := 1) 6 _ A114 kr j113 rfl kr rfl kr kr kr rfl (by first | decide | (simp; done)) kr rfl ?_) ForkT.nil
      intro w115 j115 q115
      refine zI (Held.cons (j115.cells 3 rfl rfl) (Held.cons ((hAk.mono (Le7 q96 q99 q107 q109 q111 q113 q115))).cells (Held.cons (j115.cells 5 rfl rfl) (Held.nil _)))) (fun hH115 => ?_)
      refine zM [12] kr rfl ?_
      refine ForkT.cons (i := 12) A114 rfl kr (zO (t := 30) (b := b6) (off := 0) (c' := #[.slice ad113 (k + 1) cap113]) (g := false) (m := 1) 5 _ A114 kr j115 rfl kr rfl kr kr kr rfl (by first | decide | (simp; done)) kr rfl ?_) ForkT.nil
      intro w116 j116 q116
      refine ⟨begun_tt kr, ?_⟩
      refine qB kr (nrm ?_)
      refine zW ?_
      refine zA (C41 _ _ ?_)
      refine zC ?_
      refine zB 1 [(53, .int .i64 (IntKind.i64.wrap ((k : Int) + 1)))] A114 kr kr (fun a117 A117 => ?_)
      have A118 := A117.set 53 (v' := .int .i64 ((k : Int) + 1)) kr rfl (vint (wi64 (by omega) (by omega)))
      refine zB 1 [(23, .int .i64 ((k : Int) + 1))] A118 kr kr (fun a119 A119 => ?_)
      refine zE ?_
      refine zA ?_
      refine ⟨k + 1, ⟨_, (b55 :: bs), rb109, ad109, cap109, (es ++ [(RE.mk xk ank lnk cnk amk lmk cmk)]), rb113, ad113, cap113, (is ++ [((bestI m.disc v sx : Nat) : Int)]), A119.as [1, 2, 4, 5, 6, 21, 22, 23] kr kr, j116.tail.tail.tail.tail, (Le15 q34 q47 q53 q55 q91 q92 q95 q96 q99 q107 q109 q111 q113 q115 q116), hrw109, hrw113, by rw [List.map_append]; exact hstep.symm.trans hgo, fun e he => by rcases List.mem_append.1 he with h1 | h1; exact (hk1 e h1).mono (Le14 q47 q53 q55 q91 q92 q95 q96 q99 q107 q109 q111 q113 q115 q116); obtain rfl := List.mem_singleton.1 h1; exact ⟨(hLk.mono (Le8 q96 q99 q107 q109 q111 q113 q115 q116)), (hMk.mono (Le8 q96 q99 q107 q109 q111 q113 q115 q116))⟩, by rw [List.length_append, ← hke]; rfl, by rw [List.length_append, ← hki]; rfl, by omega⟩, ?_⟩
      first | omega | (simp; omega)
     refine ForkT.cons (i := 9) A108 rfl kr (zN (d := 51) (fun b => .slice (some ⟨b, 0, none⟩) 1 1) (.cells #[.int .i64 ((bestI m.disc v sx : Nat) : Int)] 3 (0, 0)) A108 kr j107 kw ?_) ForkT.nil
     intro b120 w120 Y120 j120 q120 hu120 a121 A121
     refine zI (hH107.up hu120) (fun hH120 => ?_)
     refine zM [6] kr rfl ?_
     refine ForkT.cons (i := 6) A121 rfl kr (qF (d := 48) (t := 29) (e := 25) (size := 3) (m := 1) (c := 1) (nn := k) (cap := capv) (ad0 := adv) (xs := (flat es)) (news := [.bool xk.neg, .slice ank lnk cnk, .slice amk lmk cmk]) (ad := ⟨b107, 0, none⟩) (z := .agg #[.bool false, .slice none 0 0, .slice none 0 0]) (i0 := Try.t25) (rb := rbv) (R1 := []) (B := (rbi ++ marks (b55 :: bs))) 8 A121 kr j120 rfl rfl kr kr kr kr kr kr kr hr1 (j120.cells 1 rfl rfl) kr kr (by omega) (by simp only [maxLen]; omega) (by show (_ + 1) * 56 ≤ _; omega) ?_) ForkT.nil
     intro rb122 ad122 cap122 w122 Y122 hrow122 j122 q122 a123 A123
     have hrw122 : TRow 25 3 rb122 ad122 (k + 1) cap122 (flat (es ++ [(RE.mk xk ank lnk cnk amk lmk cmk)])) := by rw [flat_snoc]; exact hrow122
     refine zI (Held.cons (j122.cells 3 rfl rfl) (Held.cons ((hAk.mono (Le5 q96 q99 q107 q120 q122))).cells (Held.cons (j122.cells 5 rfl rfl) (Held.nil _)))) (fun hH122 => ?_)
     refine zM [10] kr rfl ?_
     refine ForkT.cons (i := 10) A123 rfl kr (qF (d := 52) (t := 30) (e := 3) (size := 1) (m := 1) (c := 1) (nn := k) (cap := capi) (ad0 := adi) (xs := (ivals is)) (news := [.int .i64 ((bestI m.disc v sx : Nat) : Int)]) (ad := ⟨b120, 0, none⟩) (z := .int .i64 0) (i0 := Try.t3) (rb := rbi) (R1 := rb122) (B := (marks (b55 :: bs))) 8 A123 kr j122 rfl rfl kr kr kr kr kr kr kr hr2 (j122.cells 0 rfl rfl) kr kr (by omega) (by simp only [maxLen]; omega) (by show (_ + 1) * 8 ≤ _; omega) ?_) ForkT.nil
     intro rb124 ad124 cap124 w124 Y124 hrow124 j124 q124 a125 A125
     have hrw124 : TRow 3 1 rb124 ad124 (k + 1) cap124 (ivals (is ++ [((bestI m.disc v sx : Nat) : Int)])) := by rw [ivals_snoc]; exact hrow124
     refine zI (Held.cons (j124.cells 3 rfl rfl) (Held.cons ((hAk.mono (Le6 q96 q99 q107 q120 q122 q124))).cells (Held.cons (j124.cells 5 rfl rfl) (Held.nil _)))) (fun hH124 => ?_)
     refine zM [11] kr rfl ?_
     refine ForkT.cons (i := 11) A125 rfl kr (zO (t := 29) (b := b4) (off := 0) (c' := #[.slice ad122 (k + 1) cap122]) (g := false) (m := 1) 6 _ A125 kr j124 rfl kr rfl kr kr kr rfl (by first | decide | (simp; done)) kr rfl ?_) ForkT.nil
     intro w126 j126 q126
     refine zI (Held.cons (j126.cells 3 rfl rfl) (Held.cons ((hAk.mono (Le7 q96 q99 q107 q120 q122 q124 q126))).cells (Held.cons (j126.cells 5 rfl rfl) (Held.nil _)))) (fun hH126 => ?_)
     refine zM [12] kr rfl ?_
     refine ForkT.cons (i := 12) A125 rfl kr (zO (t := 30) (b := b6) (off := 0) (c' := #[.slice ad124 (k + 1) cap124]) (g := false) (m := 1) 5 _ A125 kr j126 rfl kr rfl kr kr kr rfl (by first | decide | (simp; done)) kr rfl ?_) ForkT.nil
     intro w127 j127 q127
     refine ⟨begun_tt kr, ?_⟩
     refine qB kr (nrm ?_)
     refine zW ?_
     refine zA (C41 _ _ ?_)
     refine zC ?_
     refine zB 1 [(53, .int .i64 (IntKind.i64.wrap ((k : Int) + 1)))] A125 kr kr (fun a128 A128 => ?_)
     have A129 := A128.set 53 (v' := .int .i64 ((k : Int) + 1)) kr rfl (vint (wi64 (by omega) (by omega)))
     refine zB 1 [(23, .int .i64 ((k : Int) + 1))] A129 kr kr (fun a130 A130 => ?_)
     refine zE ?_
     refine zA ?_
     refine ⟨k + 1, ⟨_, (b55 :: bs), rb122, ad122, cap122, (es ++ [(RE.mk xk ank lnk cnk amk lmk cmk)]), rb124, ad124, cap124, (is ++ [((bestI m.disc v sx : Nat) : Int)]), A130.as [1, 2, 4, 5, 6, 21, 22, 23] kr kr, j127.tail.tail.tail.tail, (Le15 q34 q47 q53 q55 q91 q92 q95 q96 q99 q107 q120 q122 q124 q126 q127), hrw122, hrw124, by rw [List.map_append]; exact hstep.symm.trans hgo, fun e he => by rcases List.mem_append.1 he with h1 | h1; exact (hk1 e h1).mono (Le14 q47 q53 q55 q91 q92 q95 q96 q99 q107 q120 q122 q124 q126 q127); obtain rfl := List.mem_singleton.1 h1; exact ⟨(hLk.mono (Le8 q96 q99 q107 q120 q122 q124 q126 q127)), (hMk.mono (Le8 q96 q99 q107 q120 q122 q124 q126 q127))⟩, by rw [List.length_append, ← hke]; rfl, by rw [List.length_append, ← hki]; rfl, by omega⟩, ?_⟩
     first | omega | (simp; omega)
    refine ForkT.cons (i := 9) A106 rfl kr (zN (d := 51) (fun b => .slice (some ⟨b, 0, none⟩) 1 1) (.cells #[.int .i64 ((bestI m.disc v sx : Nat) : Int)] 3 (0, 0)) A106 kr j99 kw ?_) ForkT.nil
    intro b131 w131 Y131 j131 q131 hu131 a132 A132
    refine zI (hH99.up hu131) (fun hH131 => ?_)
    refine zM [5] kr rfl ?_
    refine ForkT.cons (i := 5) A132 rfl kr (zN (d := 47) (fun b => .slice (some ⟨b, 0, none⟩) 1 1) (.cells #[.bool xk.neg, .slice ank lnk cnk, .slice amk lmk cmk] 25 (0, 0)) A132 kr j131 kw ?_) ForkT.nil
    intro b133 w133 Y133 j133 q133 hu133 a134 A134
    refine zI (hH131.up hu133) (fun hH133 => ?_)
    refine zM [6] kr rfl ?_
    refine ForkT.cons (i := 6) A134 rfl kr (qF (d := 48) (t := 29) (e := 25) (size := 3) (m := 1) (c := 1) (nn := k) (cap := capv) (ad0 := adv) (xs := (flat es)) (news := [.bool xk.neg, .slice ank lnk cnk, .slice amk lmk cmk]) (ad := ⟨b133, 0, none⟩) (z := .agg #[.bool false, .slice none 0 0, .slice none 0 0]) (i0 := Try.t25) (rb := rbv) (R1 := []) (B := (rbi ++ marks (b55 :: bs))) 8 A134 kr j133 rfl rfl kr kr kr kr kr kr kr hr1 (j133.cells 0 rfl rfl) kr kr (by omega) (by simp only [maxLen]; omega) (by show (_ + 1) * 56 ≤ _; omega) ?_) ForkT.nil
    intro rb135 ad135 cap135 w135 Y135 hrow135 j135 q135 a136 A136
    have hrw135 : TRow 25 3 rb135 ad135 (k + 1) cap135 (flat (es ++ [(RE.mk xk ank lnk cnk amk lmk cmk)])) := by rw [flat_snoc]; exact hrow135
    refine zI (Held.cons (j135.cells 3 rfl rfl) (Held.cons ((hAk.mono (Le5 q96 q99 q131 q133 q135))).cells (Held.cons (j135.cells 5 rfl rfl) (Held.nil _)))) (fun hH135 => ?_)
    refine zM [10] kr rfl ?_
    refine ForkT.cons (i := 10) A136 rfl kr (qF (d := 52) (t := 30) (e := 3) (size := 1) (m := 1) (c := 1) (nn := k) (cap := capi) (ad0 := adi) (xs := (ivals is)) (news := [.int .i64 ((bestI m.disc v sx : Nat) : Int)]) (ad := ⟨b131, 0, none⟩) (z := .int .i64 0) (i0 := Try.t3) (rb := rbi) (R1 := rb135) (B := (marks (b55 :: bs))) 8 A136 kr j135 rfl rfl kr kr kr kr kr kr kr hr2 (j135.cells 1 rfl rfl) kr kr (by omega) (by simp only [maxLen]; omega) (by show (_ + 1) * 8 ≤ _; omega) ?_) ForkT.nil
    intro rb137 ad137 cap137 w137 Y137 hrow137 j137 q137 a138 A138
    have hrw137 : TRow 3 1 rb137 ad137 (k + 1) cap137 (ivals (is ++ [((bestI m.disc v sx : Nat) : Int)])) := by rw [ivals_snoc]; exact hrow137
    refine zI (Held.cons (j137.cells 3 rfl rfl) (Held.cons ((hAk.mono (Le6 q96 q99 q131 q133 q135 q137))).cells (Held.cons (j137.cells 5 rfl rfl) (Held.nil _)))) (fun hH137 => ?_)
    refine zM [11] kr rfl ?_
    refine ForkT.cons (i := 11) A138 rfl kr (zO (t := 29) (b := b4) (off := 0) (c' := #[.slice ad135 (k + 1) cap135]) (g := false) (m := 1) 6 _ A138 kr j137 rfl kr rfl kr kr kr rfl (by first | decide | (simp; done)) kr rfl ?_) ForkT.nil
    intro w139 j139 q139
    refine zI (Held.cons (j139.cells 3 rfl rfl) (Held.cons ((hAk.mono (Le7 q96 q99 q131 q133 q135 q137 q139))).cells (Held.cons (j139.cells 5 rfl rfl) (Held.nil _)))) (fun hH139 => ?_)
    refine zM [12] kr rfl ?_
    refine ForkT.cons (i := 12) A138 rfl kr (zO (t := 30) (b := b6) (off := 0) (c' := #[.slice ad137 (k + 1) cap137]) (g := false) (m := 1) 5 _ A138 kr j139 rfl kr rfl kr kr kr rfl (by first | decide | (simp; done)) kr rfl ?_) ForkT.nil
    intro w140 j140 q140
    refine ⟨begun_tt kr, ?_⟩
    refine qB kr (nrm ?_)
    refine zW ?_
    refine zA (C41 _ _ ?_)
    refine zC ?_
    refine zB 1 [(53, .int .i64 (IntKind.i64.wrap ((k : Int) + 1)))] A138 kr kr (fun a141 A141 => ?_)
    have A142 := A141.set 53 (v' := .int .i64 ((k : Int) + 1)) kr rfl (vint (wi64 (by omega) (by omega)))
    refine zB 1 [(23, .int .i64 ((k : Int) + 1))] A142 kr kr (fun a143 A143 => ?_)
    refine zE ?_
    refine zA ?_
    refine ⟨k + 1, ⟨_, (b55 :: bs), rb135, ad135, cap135, (es ++ [(RE.mk xk ank lnk cnk amk lmk cmk)]), rb137, ad137, cap137, (is ++ [((bestI m.disc v sx : Nat) : Int)]), A143.as [1, 2, 4, 5, 6, 21, 22, 23] kr kr, j140.tail.tail.tail.tail, (Le15 q34 q47 q53 q55 q91 q92 q95 q96 q99 q131 q133 q135 q137 q139 q140), hrw135, hrw137, by rw [List.map_append]; exact hstep.symm.trans hgo, fun e he => by rcases List.mem_append.1 he with h1 | h1; exact (hk1 e h1).mono (Le14 q47 q53 q55 q91 q92 q95 q96 q99 q131 q133 q135 q137 q139 q140); obtain rfl := List.mem_singleton.1 h1; exact ⟨(hLk.mono (Le8 q96 q99 q131 q133 q135 q137 q139 q140)), (hMk.mono (Le8 q96 q99 q131 q133 q135 q137 q139 q140))⟩, by rw [List.length_append, ← hke]; rfl, by rw [List.length_append, ← hki]; rfl, by omega⟩, ?_⟩
    first | omega | (simp; omega)
   refine ForkT.cons (i := 5) A105 rfl kr ?_ ?_
   ·
    refine zN (d := 47) (fun b => .slice (some ⟨b, 0, none⟩) 1 1) (.cells #[.bool xk.neg, .slice ank lnk cnk, .slice amk lmk cmk] 25 (0, 0)) A105 kr j99 kw ?_
    intro b144 w144 Y144 j144 q144 hu144 a145 A145
    refine zI (hH99.up hu144) (fun hH144 => ?_)
    refine zM [0, 9] kr rfl ?_
    refine ForkT.cons (i := 0) A145 rfl kr ?_ ?_
    ·
     refine zJ (d := 42) (v := .slice adv k capv) A145 kr (zF (t := 29) (g := false) (vs := [.slice adv k capv]) (ad := ⟨b4, 0, none⟩) rfl kr kr ir (j144.cells 5 rfl rfl)) ?_
     intro a146 A146
     refine zI (Held.cons (j144.cells 2 rfl rfl) (Held.cons ((hAk.mono (Le3 q96 q99 q144))).cells (Held.cons (j144.cells 4 rfl rfl) (Held.nil _)))) (fun hH144 => ?_)
     refine zM [6, 9] kr rfl ?_
     refine ForkT.cons (i := 6) A146 rfl kr ?_ ?_
     ·
      refine qF (d := 48) (t := 29) (e := 25) (size := 3) (m := 1) (c := 1) (nn := k) (cap := capv) (ad0 := adv) (xs := (flat es)) (news := [.bool xk.neg, .slice ank lnk cnk, .slice amk lmk cmk]) (ad := ⟨b144, 0, none⟩) (z := .agg #[.bool false, .slice none 0 0, .slice none 0 0]) (i0 := Try.t25) (rb := rbv) (R1 := []) (B := (rbi ++ marks (b55 :: bs))) 7 A146 kr j144 rfl rfl kr kr kr kr kr kr kr hr1 (j144.cells 0 rfl rfl) kr kr (by omega) (by simp only [maxLen]; omega) (by show (_ + 1) * 56 ≤ _; omega) ?_
      intro rb147 ad147 cap147 w147 Y147 hrow147 j147 q147 a148 A148
      have hrw147 : TRow 25 3 rb147 ad147 (k + 1) cap147 (flat (es ++ [(RE.mk xk ank lnk cnk amk lmk cmk)])) := by rw [flat_snoc]; exact hrow147
      refine zI (Held.cons (j147.cells 2 rfl rfl) (Held.cons ((hAk.mono (Le4 q96 q99 q144 q147))).cells (Held.cons (j147.cells 4 rfl rfl) (Held.nil _)))) (fun hH147 => ?_)
      refine zM [9] kr rfl ?_
      refine ForkT.cons (i := 9) A148 rfl kr (zN (d := 51) (fun b => .slice (some ⟨b, 0, none⟩) 1 1) (.cells #[.int .i64 ((bestI m.disc v sx : Nat) : Int)] 3 (0, 0)) A148 kr j147 kw ?_) ForkT.nil
      intro b149 w149 Y149 j149 q149 hu149 a150 A150
      refine zI (hH147.up hu149) (fun hH149 => ?_)
      refine zM [10] kr rfl ?_
      refine ForkT.cons (i := 10) A150 rfl kr (qF (d := 52) (t := 30) (e := 3) (size := 1) (m := 1) (c := 1) (nn := k) (cap := capi) (ad0 := adi) (xs := (ivals is)) (news := [.int .i64 ((bestI m.disc v sx : Nat) : Int)]) (ad := ⟨b149, 0, none⟩) (z := .int .i64 0) (i0 := Try.t3) (rb := rbi) (R1 := rb147) (B := (marks (b55 :: bs))) 8 A150 kr j149 rfl rfl kr kr kr kr kr kr kr hr2 (j149.cells 0 rfl rfl) kr kr (by omega) (by simp only [maxLen]; omega) (by show (_ + 1) * 8 ≤ _; omega) ?_) ForkT.nil
      intro rb151 ad151 cap151 w151 Y151 hrow151 j151 q151 a152 A152
      have hrw151 : TRow 3 1 rb151 ad151 (k + 1) cap151 (ivals (is ++ [((bestI m.disc v sx : Nat) : Int)])) := by rw [ivals_snoc]; exact hrow151
      refine zI (Held.cons (j151.cells 3 rfl rfl) (Held.cons ((hAk.mono (Le6 q96 q99 q144 q147 q149 q151))).cells (Held.cons (j151.cells 5 rfl rfl) (Held.nil _)))) (fun hH151 => ?_)
      refine zM [11] kr rfl ?_
      refine ForkT.cons (i := 11) A152 rfl kr (zO (t := 29) (b := b4) (off := 0) (c' := #[.slice ad147 (k + 1) cap147]) (g := false) (m := 1) 6 _ A152 kr j151 rfl kr rfl kr kr kr rfl (by first | decide | (simp; done)) kr rfl ?_) ForkT.nil
      intro w153 j153 q153
      refine zI (Held.cons (j153.cells 3 rfl rfl) (Held.cons ((hAk.mono (Le7 q96 q99 q144 q147 q149 q151 q153))).cells (Held.cons (j153.cells 5 rfl rfl) (Held.nil _)))) (fun hH153 => ?_)
      refine zM [12] kr rfl ?_
      refine ForkT.cons (i := 12) A152 rfl kr (zO (t := 30) (b := b6) (off := 0) (c' := #[.slice ad151 (k + 1) cap151]) (g := false) (m := 1) 5 _ A152 kr j153 rfl kr rfl kr kr kr rfl (by first | decide | (simp; done)) kr rfl ?_) ForkT.nil
      intro w154 j154 q154
      refine ⟨begun_tt kr, ?_⟩
      refine qB kr (nrm ?_)
      refine zW ?_
      refine zA (C41 _ _ ?_)
      refine zC ?_
      refine zB 1 [(53, .int .i64 (IntKind.i64.wrap ((k : Int) + 1)))] A152 kr kr (fun a155 A155 => ?_)
      have A156 := A155.set 53 (v' := .int .i64 ((k : Int) + 1)) kr rfl (vint (wi64 (by omega) (by omega)))
      refine zB 1 [(23, .int .i64 ((k : Int) + 1))] A156 kr kr (fun a157 A157 => ?_)
      refine zE ?_
      refine zA ?_
      refine ⟨k + 1, ⟨_, (b55 :: bs), rb147, ad147, cap147, (es ++ [(RE.mk xk ank lnk cnk amk lmk cmk)]), rb151, ad151, cap151, (is ++ [((bestI m.disc v sx : Nat) : Int)]), A157.as [1, 2, 4, 5, 6, 21, 22, 23] kr kr, j154.tail.tail.tail.tail, (Le15 q34 q47 q53 q55 q91 q92 q95 q96 q99 q144 q147 q149 q151 q153 q154), hrw147, hrw151, by rw [List.map_append]; exact hstep.symm.trans hgo, fun e he => by rcases List.mem_append.1 he with h1 | h1; exact (hk1 e h1).mono (Le14 q47 q53 q55 q91 q92 q95 q96 q99 q144 q147 q149 q151 q153 q154); obtain rfl := List.mem_singleton.1 h1; exact ⟨(hLk.mono (Le8 q96 q99 q144 q147 q149 q151 q153 q154)), (hMk.mono (Le8 q96 q99 q144 q147 q149 q151 q153 q154))⟩, by rw [List.length_append, ← hke]; rfl, by rw [List.length_append, ← hki]; rfl, by omega⟩, ?_⟩
      first | omega | (simp; omega)
     refine ForkT.cons (i := 9) A146 rfl kr (zN (d := 51) (fun b => .slice (some ⟨b, 0, none⟩) 1 1) (.cells #[.int .i64 ((bestI m.disc v sx : Nat) : Int)] 3 (0, 0)) A146 kr j144 kw ?_) ForkT.nil
     intro b158 w158 Y158 j158 q158 hu158 a159 A159
     refine zI (hH144.up hu158) (fun hH158 => ?_)
     refine zM [6] kr rfl ?_
     refine ForkT.cons (i := 6) A159 rfl kr (qF (d := 48) (t := 29) (e := 25) (size := 3) (m := 1) (c := 1) (nn := k) (cap := capv) (ad0 := adv) (xs := (flat es)) (news := [.bool xk.neg, .slice ank lnk cnk, .slice amk lmk cmk]) (ad := ⟨b144, 0, none⟩) (z := .agg #[.bool false, .slice none 0 0, .slice none 0 0]) (i0 := Try.t25) (rb := rbv) (R1 := []) (B := (rbi ++ marks (b55 :: bs))) 8 A159 kr j158 rfl rfl kr kr kr kr kr kr kr hr1 (j158.cells 1 rfl rfl) kr kr (by omega) (by simp only [maxLen]; omega) (by show (_ + 1) * 56 ≤ _; omega) ?_) ForkT.nil
     intro rb160 ad160 cap160 w160 Y160 hrow160 j160 q160 a161 A161
     have hrw160 : TRow 25 3 rb160 ad160 (k + 1) cap160 (flat (es ++ [(RE.mk xk ank lnk cnk amk lmk cmk)])) := by rw [flat_snoc]; exact hrow160
     refine zI (Held.cons (j160.cells 3 rfl rfl) (Held.cons ((hAk.mono (Le5 q96 q99 q144 q158 q160))).cells (Held.cons (j160.cells 5 rfl rfl) (Held.nil _)))) (fun hH160 => ?_)
     refine zM [10] kr rfl ?_
     refine ForkT.cons (i := 10) A161 rfl kr (qF (d := 52) (t := 30) (e := 3) (size := 1) (m := 1) (c := 1) (nn := k) (cap := capi) (ad0 := adi) (xs := (ivals is)) (news := [.int .i64 ((bestI m.disc v sx : Nat) : Int)]) (ad := ⟨b158, 0, none⟩) (z := .int .i64 0) (i0 := Try.t3) (rb := rbi) (R1 := rb160) (B := (marks (b55 :: bs))) 8 A161 kr j160 rfl rfl kr kr kr kr kr kr kr hr2 (j160.cells 0 rfl rfl) kr kr (by omega) (by simp only [maxLen]; omega) (by show (_ + 1) * 8 ≤ _; omega) ?_) ForkT.nil
     intro rb162 ad162 cap162 w162 Y162 hrow162 j162 q162 a163 A163
     have hrw162 : TRow 3 1 rb162 ad162 (k + 1) cap162 (ivals (is ++ [((bestI m.disc v sx : Nat) : Int)])) := by rw [ivals_snoc]; exact hrow162
     refine zI (Held.cons (j162.cells 3 rfl rfl) (Held.cons ((hAk.mono (Le6 q96 q99 q144 q158 q160 q162))).cells (Held.cons (j162.cells 5 rfl rfl) (Held.nil _)))) (fun hH162 => ?_)
     refine zM [11] kr rfl ?_
     refine ForkT.cons (i := 11) A163 rfl kr (zO (t := 29) (b := b4) (off := 0) (c' := #[.slice ad160 (k + 1) cap160]) (g := false) (m := 1) 6 _ A163 kr j162 rfl kr rfl kr kr kr rfl (by first | decide | (simp; done)) kr rfl ?_) ForkT.nil
     intro w164 j164 q164
     refine zI (Held.cons (j164.cells 3 rfl rfl) (Held.cons ((hAk.mono (Le7 q96 q99 q144 q158 q160 q162 q164))).cells (Held.cons (j164.cells 5 rfl rfl) (Held.nil _)))) (fun hH164 => ?_)
     refine zM [12] kr rfl ?_
     refine ForkT.cons (i := 12) A163 rfl kr (zO (t := 30) (b := b6) (off := 0) (c' := #[.slice ad162 (k + 1) cap162]) (g := false) (m := 1) 5 _ A163 kr j164 rfl kr rfl kr kr kr rfl (by first | decide | (simp; done)) kr rfl ?_) ForkT.nil
     intro w165 j165 q165
     refine ⟨begun_tt kr, ?_⟩
     refine qB kr (nrm ?_)
     refine zW ?_
     refine zA (C41 _ _ ?_)
     refine zC ?_
     refine zB 1 [(53, .int .i64 (IntKind.i64.wrap ((k : Int) + 1)))] A163 kr kr (fun a166 A166 => ?_)
     have A167 := A166.set 53 (v' := .int .i64 ((k : Int) + 1)) kr rfl (vint (wi64 (by omega) (by omega)))
     refine zB 1 [(23, .int .i64 ((k : Int) + 1))] A167 kr kr (fun a168 A168 => ?_)
     refine zE ?_
     refine zA ?_
     refine ⟨k + 1, ⟨_, (b55 :: bs), rb160, ad160, cap160, (es ++ [(RE.mk xk ank lnk cnk amk lmk cmk)]), rb162, ad162, cap162, (is ++ [((bestI m.disc v sx : Nat) : Int)]), A168.as [1, 2, 4, 5, 6, 21, 22, 23] kr kr, j165.tail.tail.tail.tail, (Le15 q34 q47 q53 q55 q91 q92 q95 q96 q99 q144 q158 q160 q162 q164 q165), hrw160, hrw162, by rw [List.map_append]; exact hstep.symm.trans hgo, fun e he => by rcases List.mem_append.1 he with h1 | h1; exact (hk1 e h1).mono (Le14 q47 q53 q55 q91 q92 q95 q96 q99 q144 q158 q160 q162 q164 q165); obtain rfl := List.mem_singleton.1 h1; exact ⟨(hLk.mono (Le8 q96 q99 q144 q158 q160 q162 q164 q165)), (hMk.mono (Le8 q96 q99 q144 q158 q160 q162 q164 q165))⟩, by rw [List.length_append, ← hke]; rfl, by rw [List.length_append, ← hki]; rfl, by omega⟩, ?_⟩
     first | omega | (simp; omega)
    refine ForkT.cons (i := 9) A145 rfl kr (zN (d := 51) (fun b => .slice (some ⟨b, 0, none⟩) 1 1) (.cells #[.int .i64 ((bestI m.disc v sx : Nat) : Int)] 3 (0, 0)) A145 kr j144 kw ?_) ForkT.nil
    intro b169 w169 Y169 j169 q169 hu169 a170 A170
    refine zI (hH144.up hu169) (fun hH169 => ?_)
    refine zM [0] kr rfl ?_
    refine ForkT.cons (i := 0) A170 rfl kr (zJ (d := 42) (v := .slice adv k capv) A170 kr (zF (t := 29) (g := false) (vs := [.slice adv k capv]) (ad := ⟨b4, 0, none⟩) rfl kr kr ir (j169.cells 6 rfl rfl)) ?_) ForkT.nil
    intro a171 A171
    refine zI (Held.cons (j169.cells 3 rfl rfl) (Held.cons ((hAk.mono (Le4 q96 q99 q144 q169))).cells (Held.cons (j169.cells 5 rfl rfl) (Held.nil _)))) (fun hH169 => ?_)
    refine zM [6] kr rfl ?_
    refine ForkT.cons (i := 6) A171 rfl kr (qF (d := 48) (t := 29) (e := 25) (size := 3) (m := 1) (c := 1) (nn := k) (cap := capv) (ad0 := adv) (xs := (flat es)) (news := [.bool xk.neg, .slice ank lnk cnk, .slice amk lmk cmk]) (ad := ⟨b144, 0, none⟩) (z := .agg #[.bool false, .slice none 0 0, .slice none 0 0]) (i0 := Try.t25) (rb := rbv) (R1 := []) (B := (rbi ++ marks (b55 :: bs))) 8 A171 kr j169 rfl rfl kr kr kr kr kr kr kr hr1 (j169.cells 1 rfl rfl) kr kr (by omega) (by simp only [maxLen]; omega) (by show (_ + 1) * 56 ≤ _; omega) ?_) ForkT.nil
    intro rb172 ad172 cap172 w172 Y172 hrow172 j172 q172 a173 A173
    have hrw172 : TRow 25 3 rb172 ad172 (k + 1) cap172 (flat (es ++ [(RE.mk xk ank lnk cnk amk lmk cmk)])) := by rw [flat_snoc]; exact hrow172
    refine zI (Held.cons (j172.cells 3 rfl rfl) (Held.cons ((hAk.mono (Le5 q96 q99 q144 q169 q172))).cells (Held.cons (j172.cells 5 rfl rfl) (Held.nil _)))) (fun hH172 => ?_)
    refine zM [10] kr rfl ?_
    refine ForkT.cons (i := 10) A173 rfl kr (qF (d := 52) (t := 30) (e := 3) (size := 1) (m := 1) (c := 1) (nn := k) (cap := capi) (ad0 := adi) (xs := (ivals is)) (news := [.int .i64 ((bestI m.disc v sx : Nat) : Int)]) (ad := ⟨b169, 0, none⟩) (z := .int .i64 0) (i0 := Try.t3) (rb := rbi) (R1 := rb172) (B := (marks (b55 :: bs))) 8 A173 kr j172 rfl rfl kr kr kr kr kr kr kr hr2 (j172.cells 0 rfl rfl) kr kr (by omega) (by simp only [maxLen]; omega) (by show (_ + 1) * 8 ≤ _; omega) ?_) ForkT.nil
    intro rb174 ad174 cap174 w174 Y174 hrow174 j174 q174 a175 A175
    have hrw174 : TRow 3 1 rb174 ad174 (k + 1) cap174 (ivals (is ++ [((bestI m.disc v sx : Nat) : Int)])) := by rw [ivals_snoc]; exact hrow174
    refine zI (Held.cons (j174.cells 3 rfl rfl) (Held.cons ((hAk.mono (Le6 q96 q99 q144 q169 q172 q174))).cells (Held.cons (j174.cells 5 rfl rfl) (Held.nil _)))) (fun hH174 => ?_)
    refine zM [11] kr rfl ?_
    refine ForkT.cons (i := 11) A175 rfl kr (zO (t := 29) (b := b4) (off := 0) (c' := #[.slice ad172 (k + 1) cap172]) (g := false) (m := 1) 6 _ A175 kr j174 rfl kr rfl kr kr kr rfl (by first | decide | (simp; done)) kr rfl ?_) ForkT.nil
    intro w176 j176 q176
    refine zI (Held.cons (j176.cells 3 rfl rfl) (Held.cons ((hAk.mono (Le7 q96 q99 q144 q169 q172 q174 q176))).cells (Held.cons (j176.cells 5 rfl rfl) (Held.nil _)))) (fun hH176 => ?_)
    refine zM [12] kr rfl ?_
    refine ForkT.cons (i := 12) A175 rfl kr (zO (t := 30) (b := b6) (off := 0) (c' := #[.slice ad174 (k + 1) cap174]) (g := false) (m := 1) 5 _ A175 kr j176 rfl kr rfl kr kr kr rfl (by first | decide | (simp; done)) kr rfl ?_) ForkT.nil
    intro w177 j177 q177
    refine ⟨begun_tt kr, ?_⟩
    refine qB kr (nrm ?_)
    refine zW ?_
    refine zA (C41 _ _ ?_)
    refine zC ?_
    refine zB 1 [(53, .int .i64 (IntKind.i64.wrap ((k : Int) + 1)))] A175 kr kr (fun a178 A178 => ?_)
    have A179 := A178.set 53 (v' := .int .i64 ((k : Int) + 1)) kr rfl (vint (wi64 (by omega) (by omega)))
    refine zB 1 [(23, .int .i64 ((k : Int) + 1))] A179 kr kr (fun a180 A180 => ?_)
    refine zE ?_
    refine zA ?_
    refine ⟨k + 1, ⟨_, (b55 :: bs), rb172, ad172, cap172, (es ++ [(RE.mk xk ank lnk cnk amk lmk cmk)]), rb174, ad174, cap174, (is ++ [((bestI m.disc v sx : Nat) : Int)]), A180.as [1, 2, 4, 5, 6, 21, 22, 23] kr kr, j177.tail.tail.tail.tail, (Le15 q34 q47 q53 q55 q91 q92 q95 q96 q99 q144 q169 q172 q174 q176 q177), hrw172, hrw174, by rw [List.map_append]; exact hstep.symm.trans hgo, fun e he => by rcases List.mem_append.1 he with h1 | h1; exact (hk1 e h1).mono (Le14 q47 q53 q55 q91 q92 q95 q96 q99 q144 q169 q172 q174 q176 q177); obtain rfl := List.mem_singleton.1 h1; exact ⟨(hLk.mono (Le8 q96 q99 q144 q169 q172 q174 q176 q177)), (hMk.mono (Le8 q96 q99 q144 q169 q172 q174 q176 q177))⟩, by rw [List.length_append, ← hke]; rfl, by rw [List.length_append, ← hki]; rfl, by omega⟩, ?_⟩
    first | omega | (simp; omega)
   refine ForkT.cons (i := 9) A105 rfl kr (zN (d := 51) (fun b => .slice (some ⟨b, 0, none⟩) 1 1) (.cells #[.int .i64 ((bestI m.disc v sx : Nat) : Int)] 3 (0, 0)) A105 kr j99 kw ?_) ForkT.nil
   intro b181 w181 Y181 j181 q181 hu181 a182 A182
   refine zI (hH99.up hu181) (fun hH181 => ?_)
   refine zM [0, 5] kr rfl ?_
   refine ForkT.cons (i := 0) A182 rfl kr ?_ ?_
   ·
    refine zJ (d := 42) (v := .slice adv k capv) A182 kr (zF (t := 29) (g := false) (vs := [.slice adv k capv]) (ad := ⟨b4, 0, none⟩) rfl kr kr ir (j181.cells 5 rfl rfl)) ?_
    intro a183 A183
    refine zI (Held.cons (j181.cells 2 rfl rfl) (Held.cons ((hAk.mono (Le3 q96 q99 q181))).cells (Held.cons (j181.cells 4 rfl rfl) (Held.nil _)))) (fun hH181 => ?_)
    refine zM [5] kr rfl ?_
    refine ForkT.cons (i := 5) A183 rfl kr (zN (d := 47) (fun b => .slice (some ⟨b, 0, none⟩) 1 1) (.cells #[.bool xk.neg, .slice ank lnk cnk, .slice amk lmk cmk] 25 (0, 0)) A183 kr j181 kw ?_) ForkT.nil
    intro b184 w184 Y184 j184 q184 hu184 a185 A185
    refine zI (hH181.up hu184) (fun hH184 => ?_)
    refine zM [6] kr rfl ?_
    refine ForkT.cons (i := 6) A185 rfl kr (qF (d := 48) (t := 29) (e := 25) (size := 3) (m := 1) (c := 1) (nn := k) (cap := capv) (ad0 := adv) (xs := (flat es)) (news := [.bool xk.neg, .slice ank lnk cnk, .slice amk lmk cmk]) (ad := ⟨b184, 0, none⟩) (z := .agg #[.bool false, .slice none 0 0, .slice none 0 0]) (i0 := Try.t25) (rb := rbv) (R1 := []) (B := (rbi ++ marks (b55 :: bs))) 8 A185 kr j184 rfl rfl kr kr kr kr kr kr kr hr1 (j184.cells 0 rfl rfl) kr kr (by omega) (by simp only [maxLen]; omega) (by show (_ + 1) * 56 ≤ _; omega) ?_) ForkT.nil
    intro rb186 ad186 cap186 w186 Y186 hrow186 j186 q186 a187 A187
    have hrw186 : TRow 25 3 rb186 ad186 (k + 1) cap186 (flat (es ++ [(RE.mk xk ank lnk cnk amk lmk cmk)])) := by rw [flat_snoc]; exact hrow186
    refine zI (Held.cons (j186.cells 3 rfl rfl) (Held.cons ((hAk.mono (Le5 q96 q99 q181 q184 q186))).cells (Held.cons (j186.cells 5 rfl rfl) (Held.nil _)))) (fun hH186 => ?_)
    refine zM [10] kr rfl ?_
    refine ForkT.cons (i := 10) A187 rfl kr (qF (d := 52) (t := 30) (e := 3) (size := 1) (m := 1) (c := 1) (nn := k) (cap := capi) (ad0 := adi) (xs := (ivals is)) (news := [.int .i64 ((bestI m.disc v sx : Nat) : Int)]) (ad := ⟨b181, 0, none⟩) (z := .int .i64 0) (i0 := Try.t3) (rb := rbi) (R1 := rb186) (B := (marks (b55 :: bs))) 8 A187 kr j186 rfl rfl kr kr kr kr kr kr kr hr2 (j186.cells 1 rfl rfl) kr kr (by omega) (by simp only [maxLen]; omega) (by show (_ + 1) * 8 ≤ _; omega) ?_) ForkT.nil
    intro rb188 ad188 cap188 w188 Y188 hrow188 j188 q188 a189 A189
    have hrw188 : TRow 3 1 rb188 ad188 (k + 1) cap188 (ivals (is ++ [((bestI m.disc v sx : Nat) : Int)])) := by rw [ivals_snoc]; exact hrow188
    refine zI (Held.cons (j188.cells 3 rfl rfl) (Held.cons ((hAk.mono (Le6 q96 q99 q181 q184 q186 q188))).cells (Held.cons (j188.cells 5 rfl rfl) (Held.nil _)))) (fun hH188 => ?_)
    refine zM [11] kr rfl ?_
    refine ForkT.cons (i := 11) A189 rfl kr (zO (t := 29) (b := b4) (off := 0) (c' := #[.slice ad186 (k + 1) cap186]) (g := false) (m := 1) 6 _ A189 kr j188 rfl kr rfl kr kr kr rfl (by first | decide | (simp; done)) kr rfl ?_) ForkT.nil
    intro w190 j190 q190
    refine zI (Held.cons (j190.cells 3 rfl rfl) (Held.cons ((hAk.mono (Le7 q96 q99 q181 q184 q186 q188 q190))).cells (Held.cons (j190.cells 5 rfl rfl) (Held.nil _)))) (fun hH190 => ?_)
    refine zM [12] kr rfl ?_
    refine ForkT.cons (i := 12) A189 rfl kr (zO (t := 30) (b := b6) (off := 0) (c' := #[.slice ad188 (k + 1) cap188]) (g := false) (m := 1) 5 _ A189 kr j190 rfl kr rfl kr kr kr rfl (by first | decide | (simp; done)) kr rfl ?_) ForkT.nil
    intro w191 j191 q191
    refine ⟨begun_tt kr, ?_⟩
    refine qB kr (nrm ?_)
    refine zW ?_
    refine zA (C41 _ _ ?_)
    refine zC ?_
    refine zB 1 [(53, .int .i64 (IntKind.i64.wrap ((k : Int) + 1)))] A189 kr kr (fun a192 A192 => ?_)
    have A193 := A192.set 53 (v' := .int .i64 ((k : Int) + 1)) kr rfl (vint (wi64 (by omega) (by omega)))
    refine zB 1 [(23, .int .i64 ((k : Int) + 1))] A193 kr kr (fun a194 A194 => ?_)
    refine zE ?_
    refine zA ?_
    refine ⟨k + 1, ⟨_, (b55 :: bs), rb186, ad186, cap186, (es ++ [(RE.mk xk ank lnk cnk amk lmk cmk)]), rb188, ad188, cap188, (is ++ [((bestI m.disc v sx : Nat) : Int)]), A194.as [1, 2, 4, 5, 6, 21, 22, 23] kr kr, j191.tail.tail.tail.tail, (Le15 q34 q47 q53 q55 q91 q92 q95 q96 q99 q181 q184 q186 q188 q190 q191), hrw186, hrw188, by rw [List.map_append]; exact hstep.symm.trans hgo, fun e he => by rcases List.mem_append.1 he with h1 | h1; exact (hk1 e h1).mono (Le14 q47 q53 q55 q91 q92 q95 q96 q99 q181 q184 q186 q188 q190 q191); obtain rfl := List.mem_singleton.1 h1; exact ⟨(hLk.mono (Le8 q96 q99 q181 q184 q186 q188 q190 q191)), (hMk.mono (Le8 q96 q99 q181 q184 q186 q188 q190 q191))⟩, by rw [List.length_append, ← hke]; rfl, by rw [List.length_append, ← hki]; rfl, by omega⟩, ?_⟩
    first | omega | (simp; omega)
   refine ForkT.cons (i := 5) A182 rfl kr (zN (d := 47) (fun b => .slice (some ⟨b, 0, none⟩) 1 1) (.cells #[.bool xk.neg, .slice ank lnk cnk, .slice amk lmk cmk] 25 (0, 0)) A182 kr j181 kw ?_) ForkT.nil
   intro b195 w195 Y195 j195 q195 hu195 a196 A196
   refine zI (hH181.up hu195) (fun hH195 => ?_)
   refine zM [0] kr rfl ?_
   refine ForkT.cons (i := 0) A196 rfl kr (zJ (d := 42) (v := .slice adv k capv) A196 kr (zF (t := 29) (g := false) (vs := [.slice adv k capv]) (ad := ⟨b4, 0, none⟩) rfl kr kr ir (j195.cells 6 rfl rfl)) ?_) ForkT.nil
   intro a197 A197
   refine zI (Held.cons (j195.cells 3 rfl rfl) (Held.cons ((hAk.mono (Le4 q96 q99 q181 q195))).cells (Held.cons (j195.cells 5 rfl rfl) (Held.nil _)))) (fun hH195 => ?_)
   refine zM [6] kr rfl ?_
   refine ForkT.cons (i := 6) A197 rfl kr (qF (d := 48) (t := 29) (e := 25) (size := 3) (m := 1) (c := 1) (nn := k) (cap := capv) (ad0 := adv) (xs := (flat es)) (news := [.bool xk.neg, .slice ank lnk cnk, .slice amk lmk cmk]) (ad := ⟨b195, 0, none⟩) (z := .agg #[.bool false, .slice none 0 0, .slice none 0 0]) (i0 := Try.t25) (rb := rbv) (R1 := []) (B := (rbi ++ marks (b55 :: bs))) 8 A197 kr j195 rfl rfl kr kr kr kr kr kr kr hr1 (j195.cells 0 rfl rfl) kr kr (by omega) (by simp only [maxLen]; omega) (by show (_ + 1) * 56 ≤ _; omega) ?_) ForkT.nil
   intro rb198 ad198 cap198 w198 Y198 hrow198 j198 q198 a199 A199
   have hrw198 : TRow 25 3 rb198 ad198 (k + 1) cap198 (flat (es ++ [(RE.mk xk ank lnk cnk amk lmk cmk)])) := by rw [flat_snoc]; exact hrow198
   refine zI (Held.cons (j198.cells 3 rfl rfl) (Held.cons ((hAk.mono (Le5 q96 q99 q181 q195 q198))).cells (Held.cons (j198.cells 5 rfl rfl) (Held.nil _)))) (fun hH198 => ?_)
   refine zM [10] kr rfl ?_
   refine ForkT.cons (i := 10) A199 rfl kr (qF (d := 52) (t := 30) (e := 3) (size := 1) (m := 1) (c := 1) (nn := k) (cap := capi) (ad0 := adi) (xs := (ivals is)) (news := [.int .i64 ((bestI m.disc v sx : Nat) : Int)]) (ad := ⟨b181, 0, none⟩) (z := .int .i64 0) (i0 := Try.t3) (rb := rbi) (R1 := rb198) (B := (marks (b55 :: bs))) 8 A199 kr j198 rfl rfl kr kr kr kr kr kr kr hr2 (j198.cells 1 rfl rfl) kr kr (by omega) (by simp only [maxLen]; omega) (by show (_ + 1) * 8 ≤ _; omega) ?_) ForkT.nil
   intro rb200 ad200 cap200 w200 Y200 hrow200 j200 q200 a201 A201
   have hrw200 : TRow 3 1 rb200 ad200 (k + 1) cap200 (ivals (is ++ [((bestI m.disc v sx : Nat) : Int)])) := by rw [ivals_snoc]; exact hrow200
   refine zI (Held.cons (j200.cells 3 rfl rfl) (Held.cons ((hAk.mono (Le6 q96 q99 q181 q195 q198 q200))).cells (Held.cons (j200.cells 5 rfl rfl) (Held.nil _)))) (fun hH200 => ?_)
   refine zM [11] kr rfl ?_
   refine ForkT.cons (i := 11) A201 rfl kr (zO (t := 29) (b := b4) (off := 0) (c' := #[.slice ad198 (k + 1) cap198]) (g := false) (m := 1) 6 _ A201 kr j200 rfl kr rfl kr kr kr rfl (by first | decide | (simp; done)) kr rfl ?_) ForkT.nil
   intro w202 j202 q202
   refine zI (Held.cons (j202.cells 3 rfl rfl) (Held.cons ((hAk.mono (Le7 q96 q99 q181 q195 q198 q200 q202))).cells (Held.cons (j202.cells 5 rfl rfl) (Held.nil _)))) (fun hH202 => ?_)
   refine zM [12] kr rfl ?_
   refine ForkT.cons (i := 12) A201 rfl kr (zO (t := 30) (b := b6) (off := 0) (c' := #[.slice ad200 (k + 1) cap200]) (g := false) (m := 1) 5 _ A201 kr j202 rfl kr rfl kr kr kr rfl (by first | decide | (simp; done)) kr rfl ?_) ForkT.nil
   intro w203 j203 q203
   refine ⟨begun_tt kr, ?_⟩
   refine qB kr (nrm ?_)
   refine zW ?_
   refine zA (C41 _ _ ?_)
   refine zC ?_
   refine zB 1 [(53, .int .i64 (IntKind.i64.wrap ((k : Int) + 1)))] A201 kr kr (fun a204 A204 => ?_)
   have A205 := A204.set 53 (v' := .int .i64 ((k : Int) + 1)) kr rfl (vint (wi64 (by omega) (by omega)))
   refine zB 1 [(23, .int .i64 ((k : Int) + 1))] A205 kr kr (fun a206 A206 => ?_)
   refine zE ?_
   refine zA ?_
   refine ⟨k + 1, ⟨_, (b55 :: bs), rb198, ad198, cap198, (es ++ [(RE.mk xk ank lnk cnk amk lmk cmk)]), rb200, ad200, cap200, (is ++ [((bestI m.disc v sx : Nat) : Int)]), A206.as [1, 2, 4, 5, 6, 21, 22, 23] kr kr, j203.tail.tail.tail.tail, (Le15 q34 q47 q53 q55 q91 q92 q95 q96 q99 q181 q195 q198 q200 q202 q203), hrw198, hrw200, by rw [List.map_append]; exact hstep.symm.trans hgo, fun e he => by rcases List.mem_append.1 he with h1 | h1; exact (hk1 e h1).mono (Le14 q47 q53 q55 q91 q92 q95 q96 q99 q181 q195 q198 q200 q202 q203); obtain rfl := List.mem_singleton.1 h1; exact ⟨(hLk.mono (Le8 q96 q99 q181 q195 q198 q200 q202 q203)), (hMk.mono (Le8 q96 q99 q181 q195 q198 q200 q202 q203))⟩, by rw [List.length_append, ← hke]; rfl, by rw [List.length_append, ← hki]; rfl, by omega⟩, ?_⟩
   first | omega | (simp; omega)
  ·
   exact ⟨[], none, 0, 0, [], j55, Le.refl _, TRow.nil _ _, rfl, fun _ h => absurd h (by simp), rfl, rfl⟩
 have A207 := A36.set 24 (v' := .bool false) kr rfl (zG hc38)
 have ht208 : ¬ ((k : Int) < (m.states.length : Int)) := of_decide_eq_false hc38
 refine i_exit ?_
 refine zT ?_
 refine zT ?_
 refine qA ?_
 refine zA (C29 _ _ ?_)
 refine zD (fun K209 C209 => ?_)
 refine qD (N := 5) (Held [(⟨b6, 0, none⟩, [.slice adi k capi])]) [3, 4] kr kr kr j34 ?_
 intro w210 j210 q210 hu210
 refine zX (Held.cons (j210.cells 1 rfl rfl) (Held.nil _)) (fun hH210 => ?_)
 refine zY (d := 55) (v := .slice adi k capi) 1 A207 rfl kr kr kr (fun w hw => zF (t := 30) (g := false) (vs := [.slice adi k capi]) (ad := ⟨b6, 0, none⟩) rfl kr kr ir (hw.get 0 kr)) hH210 ?_
 intro a211 A211
 refine zM [0] kr rfl ?_
 refine ForkT.cons (i := 0) A211 rfl kr (zJ (d := 54) (v := .slice adv k capv) A211 kr (zF (t := 29) (g := false) (vs := [.slice adv k capv]) (ad := ⟨b4, 0, none⟩) rfl kr kr ir (j210.cells 2 rfl rfl)) ?_) ForkT.nil
 intro a212 A212
 refine zI (Held.cons (j210.cells 1 rfl rfl) (Held.nil _)) (fun hH210 => ?_)
 refine zM [2] kr rfl ?_
 refine ForkT.cons (i := 2) A212 rfl kr (zO (t := 29) (b := b4) (off := 0) (c' := #[.slice adv k capv]) (g := false) (m := 1) 2 _ A212 kr j210 rfl kr rfl kr kr kr rfl (by first | decide | (simp; done)) kr rfl ?_) ForkT.nil
 intro w213 j213 q213
 refine zI (Held.cons (j213.cells 1 rfl rfl) (Held.nil _)) (fun hH213 => ?_)
 refine zM [3] kr rfl ?_
 refine ForkT.cons (i := 3) A212 rfl kr (zO (t := 30) (b := b6) (off := 0) (c' := #[.slice adi k capi]) (g := false) (m := 1) 1 _ A212 kr j213 rfl kr rfl kr kr kr rfl (by first | decide | (simp; done)) kr rfl ?_) ForkT.nil
 intro w214 j214 q214
 refine ⟨begun_tt kr, ?_⟩
 refine zM [4] kr rfl ?_
 refine ForkT.cons (i := 4) A212 rfl kr (zO (t := 34) (b := b8) (off := 0) (c' := #[.int .i64 0]) (g := false) (m := 1) 0 _ A212 kr j214 rfl kr rfl kr kr kr rfl (by first | decide | (simp; done)) kr rfl ?_) ForkT.nil
 intro w215 j215 q215
 refine ⟨begun_tt kr, ?_⟩
 refine qB kr (nrm ?_)
 refine zA (C209 _ _ ?_)
 refine zQ ?_
 have hSr : St E0 w X w215 Y34 (([(b8, .cells #[.int .i64 0] 34 (0, 0)), (b6, .cells #[.slice adi k capi] 30 (0, 0)), (b4, .cells #[.slice adv k capv] 29 (0, 0)), (b2, .cells #[.bool m.disc.neg, .slice ad len cap, .slice ae le ce, .slice st m.states.length cs] 28 (0, 0))] ++ rbv ++ rbi) ++ marks bs) := by have h9 : St E0 w X w215 Y34 ((b8, .cells #[.int .i64 0] 34 (0, 0)) :: (b6, .cells #[.slice adi k capi] 30 (0, 0)) :: (b4, .cells #[.slice adv k capv] 29 (0, 0)) :: (b2, .cells #[.bool m.disc.neg, .slice ad len cap, .slice ae le ce, .slice st m.states.length cs] 28 (0, 0)) :: (rbv ++ (rbi ++ marks bs))) := j215; simpa only [List.append_assoc, List.cons_append, List.nil_append] using h9
 refine m_rets (bs := bs) (N := ([(b8, .cells #[.int .i64 0] 34 (0, 0)), (b6, .cells #[.slice adi k capi] 30 (0, 0)), (b4, .cells #[.slice adv k capv] 29 (0, 0)), (b2, .cells #[.bool m.disc.neg, .slice ad len cap, .slice ae le ce, .slice st m.states.length cs] 28 (0, 0))] ++ rbv ++ rbi)) (v := .tuple #[.slice adv k capv, .slice adi k capi, .int .i64 0]) (rs := [.cell 4 29, .cell 5 30, .cell 6 34]) (vs := [.slice adv k capv, .slice adi k capi, .int .i64 0]) A212 hSr kr kr (fun w216 j216 q216 => ?_)
 have j216 : St E0 w X w216 Y34 ((b8, .cells #[.int .i64 0] 34 (0, 0)) :: (b6, .cells #[.slice adi k capi] 30 (0, 0)) :: (b4, .cells #[.slice adv k capv] 29 (0, 0)) :: (b2, .cells #[.bool m.disc.neg, .slice ad len cap, .slice ae le ce, .slice st m.states.length cs] 28 (0, 0)) :: (rbv ++ rbi)) := by have h9 := j216; simpa only [List.append_assoc, List.cons_append, List.nil_append] using h9
 refine ⟨(Res.cell (ad := ⟨b4, 0, none⟩) (cs := [.slice adv k capv]) (g := false) kr kr kr ir (j216.cells 2 rfl rfl) (Res.cell (ad := ⟨b6, 0, none⟩) (cs := [.slice adi k capi]) (g := false) kr kr kr ir (j216.cells 1 rfl rfl) (Res.cell (ad := ⟨b8, 0, none⟩) (cs := [.int .i64 0]) (g := false) kr kr kr ir (j216.cells 0 rfl rfl) Res.nil))), ?_⟩
 have hend : m.backV v = _ := hbg.trans (hgo.symm.trans (backGo_end (by omega)))
 obtain ⟨Y217, hSx217, q217, hRx217⟩ := St.pubRats (A := [(b8, .cells #[.int .i64 0] 34 (0, 0)), (b6, .cells #[.slice adi k capi] 30 (0, 0)), (b4, .cells #[.slice adv k capv] 29 (0, 0)), (b2, .cells #[.bool m.disc.neg, .slice ad len cap, .slice ae le ce, .slice st m.states.length cs] 28 (0, 0))]) (B := rbi) (fun rb => ((b8, .cells #[.int .i64 0] 34 (0, 0)) :: (b6, .cells #[.slice adi k capi] 30 (0, 0)) :: (b4, .cells #[.slice adv k capv] 29 (0, 0)) :: (b2, .cells #[.bool m.disc.neg, .slice ad len cap, .slice ae le ce, .slice st m.states.length cs] 28 (0, 0)) :: (rb ++ rbi))) j216 (fun _ => by simp only [List.append_assoc, List.cons_append, List.nil_append, List.append_nil]) hr1 hke (fun e he => (hk1 e he).mono (Le5 q210 q213 q214 q215 q216))
 have j217 : St E0 w X w216 Y217 ((b8, .cells #[.int .i64 0] 34 (0, 0)) :: (b6, .cells #[.slice adi k capi] 30 (0, 0)) :: (b4, .cells #[.slice adv k capv] 29 (0, 0)) :: (b2, .cells #[.bool m.disc.neg, .slice ad len cap, .slice ae le ce, .slice st m.states.length cs] 28 (0, 0)) :: rbi) := hSx217
 have hR217 : Rats (rd w216 Y217) adv k capv (es.map (·.x)) := by have h9 := hRx217; exact h9
 obtain ⟨Y218, hSx218, q218, hRx218⟩ := St.pubInts (A := [(b8, .cells #[.int .i64 0] 34 (0, 0)), (b6, .cells #[.slice adi k capi] 30 (0, 0)), (b4, .cells #[.slice adv k capv] 29 (0, 0)), (b2, .cells #[.bool m.disc.neg, .slice ad len cap, .slice ae le ce, .slice st m.states.length cs] 28 (0, 0))]) (B := []) (fun rb => ((b8, .cells #[.int .i64 0] 34 (0, 0)) :: (b6, .cells #[.slice adi k capi] 30 (0, 0)) :: (b4, .cells #[.slice adv k capv] 29 (0, 0)) :: (b2, .cells #[.bool m.disc.neg, .slice ad len cap, .slice ae le ce, .slice st m.states.length cs] 28 (0, 0)) :: rb)) j217 (fun _ => by simp only [List.append_assoc, List.cons_append, List.nil_append, List.append_nil]) hr2 hki
 have j218 : St E0 w X w216 Y218 [(b8, .cells #[.int .i64 0] 34 (0, 0)), (b6, .cells #[.slice adi k capi] 30 (0, 0)), (b4, .cells #[.slice adv k capv] 29 (0, 0)), (b2, .cells #[.bool m.disc.neg, .slice ad len cap, .slice ae le ce, .slice st m.states.length cs] 28 (0, 0))] := hSx218
 have hR218 : Ints (rd w216 Y218) adi k capi is := by have h9 := hRx218; exact h9
 exact ⟨j218.upd, _, rfl, _, _, _, _, _, _, by rw [hend], by rw [hend]; exact (hR217.mono q218).mono j218.le, by rw [hend]; exact hR218.mono j218.le⟩
end Go.Proofs.Ytoocgllbbihoaaa
namespace Go.Proofs.Ytoocgllbbihoaaa
open Go Go.Gv Go.RowKit
set_option maxRecDepth 100000
set_option maxHeartbeats 1000000
def VisitAt (m : Mdp) (u : Nat) : Prop := ∀ (w : World) (X : Hid) (wc : World) (Yc : Hid) (A rbl : List (Nat × Obj)) (b8 b7 gS b4 b2 : Nat) (dn : Bool) (ad : Option Addr) (len cap : Nat) (ae : Option Addr) (le ce : Nat) (st : Option Addr) (cs : Nat) (S : List Bool) (adl : Option Addr) (ml capl : Nat) (is : List Int) (s : Int),
  St E0 w X wc Yc ((b8, .cells #[.func (.func 41) #[] #[.pointer (some ⟨b7, 0, none⟩), .pointer (some ⟨b4, 0, none⟩), .pointer (some ⟨b2, 0, none⟩), .pointer (some ⟨b8, 0, none⟩)]] 81 (0, 0)) :: (b7, .cells #[.slice (some ⟨gS, 0, none⟩) m.states.length m.states.length] 80 (0, 0)) :: (gS, .cells (bvals S) 4 (0, 0)) :: (b4, .cells #[.slice adl ml capl] 30 (0, 0)) :: (b2, .cells #[.bool dn, .slice ad len cap, .slice ae le ce, .slice st m.states.length cs] 28 (0, 0)) :: (rbl ++ A)) → StatesR (rd wc Yc) st m.states.length cs m.states → m.chk = 0 → S.length = m.states.length → TRow 3 1 rbl adl ml capl (ivals is) → ml = is.length → ml + unseen S ≤ 200 → 0 ≤ s → s < m.states.length → unseen S = u →
  Calls Try.prog 41 #[.int .i64 s, .pointer (some ⟨b7, 0, none⟩), .pointer (some ⟨b4, 0, none⟩), .pointer (some ⟨b2, 0, none⟩), .pointer (some ⟨b8, 0, none⟩)] wc (fun e w' => ∃ v, e = .returned v ∧ (v = .tuple #[] ∧ ∃ (Y' : Hid) (rb' : List (Nat × Obj)) (ad' : Option Addr) (ml' cap' : Nat) (S' : List Bool) (N : List Int), St E0 w X w' Y' ((b8, .cells #[.func (.func 41) #[] #[.pointer (some ⟨b7, 0, none⟩), .pointer (some ⟨b4, 0, none⟩), .pointer (some ⟨b2, 0, none⟩), .pointer (some ⟨b8, 0, none⟩)]] 81 (0, 0)) :: (b7, .cells #[.slice (some ⟨gS, 0, none⟩) m.states.length m.states.length] 80 (0, 0)) :: (gS, .cells (bvals S') 4 (0, 0)) :: (b4, .cells #[.slice ad' ml' cap'] 30 (0, 0)) :: (b2, .cells #[.bool dn, .slice ad len cap, .slice ae le ce, .slice st m.states.length cs] 28 (0, 0)) :: (rb' ++ A)) ∧ Le (rd wc Yc) (rd w' Y') ∧ TRow 3 1 rb' ad' ml' cap' (ivals (is ++ N)) ∧ ml' = (is ++ N).length ∧ Vis m S N S' (· = s) ∧ S'.getD s.toNat false = true ∧ ml' + unseen S' ≤ 200))
theorem all_snoc {l : List Actn} {a : Actn} {p : Out → Prop} (h : ∀ x ∈ l, ∀ o ∈ x.next, p o) (h2 : ∀ o ∈ a.next, p o) : ∀ x ∈ l ++ [a], ∀ o ∈ x.next, p o := by
  intro x hx
  rcases List.mem_append.1 hx with h1 | h1
  · exact h x h1
  · obtain rfl := List.mem_singleton.1 h1; exact h2
theorem all_snoc1 {l : List Out} {a : Out} {p : Out → Prop} (h : ∀ x ∈ l, p x) (h2 : p a) : ∀ x ∈ l ++ [a], p x := by
  intro x hx
  rcases List.mem_append.1 hx with h1 | h1
  · exact h x h1
  · obtain rfl := List.mem_singleton.1 h1; exact h2
theorem visit_c (m : Mdp) : ∀ u, VisitAt m u := by
 intro u
 induction u using Nat.strongRecOn with
 | _ u ih =>
 intro w X wc Yc A rbl b8 b7 gS b4 b2 dn ad len cap ae le ce st cs S adl ml capl is s hS hst hchk hSl hrow hml hbu h0 h1 hu
 have hcaps := hst.hcap
 have hbigs := hst.hbig
 have hn200 := (Mdp.chk_ok hchk).2.2.2.2.1
 refine zZ (n := 44) (vs := [.int .i64 s, .pointer (some ⟨b7, 0, none⟩), .pointer (some ⟨b4, 0, none⟩), .pointer (some ⟨b2, 0, none⟩), .pointer (some ⟨b8, 0, none⟩)]) Try.func41 rfl rfl rfl kr (fun a0 A0 => ?_)
 have A0 : Fr 44 a0 [(0, .int .i64 s), (1, .pointer (some ⟨b7, 0, none⟩)), (2, .pointer (some ⟨b4, 0, none⟩)), (3, .pointer (some ⟨b2, 0, none⟩)), (4, .pointer (some ⟨b8, 0, none⟩))] := A0
 have j1 := hS
 refine zD (fun K2 C2 => ?_)
 refine zD (fun K3 C3 => ?_)
 refine zC ?_
 refine wplI A0 kr (zJ (d := 10) (v := .slice (some ⟨gS, 0, none⟩) m.states.length m.states.length) A0 kr (zF (t := 80) (g := false) (vs := [.slice (some ⟨gS, 0, none⟩) m.states.length m.states.length]) (ad := ⟨b7, 0, none⟩) rfl kr kr ir (j1.cells 1 rfl rfl)) ?_)
 intro a4 A4
 refine zB 1 [(11, .int .i64 s)] A4 kr kr (fun a5 A5 => ?_)
 refine wplI A5 kr (zJ (d := 12) (v := .pointer (some ⟨gS, s.toNat, none⟩)) A5 kr (zP (t := 80) (e := 4) (b := gS) (off := 0) (len := m.states.length) (cap := m.states.length) (kd := .i64) (i := s) (g := false) (m := 1) (off' := s.toNat) rfl kr kr kr kr (by omega) (by omega) (by first | rfl | omega | (simp; done) | (simp; omega)) _) ?_)
 intro a6 A6
 refine wplI A6 kr (zJ (d := 13) (v := .bool (S.getD s.toNat false)) A6 kr (zF (t := 4) (g := false) (vs := [.bool (S.getD s.toNat false)]) (ad := ⟨gS, s.toNat, none⟩) rfl kr kr ir (j1.boolCells 2 rfl (by have := hSl; omega))) ?_)
 intro a7 A7
 refine zE ?_
 refine zA (C3 _ _ ?_)
 refine zS (S.getD s.toNat false) A7 kr kr (fun hc8 => ?_) (fun hc8 => ?_)
 ·
  have A9 := A7.set 13 (v' := .bool true) kr rfl (zG hc8)
  have ht10 : (S.getD s.toNat false) = true := by simpa using hc8
  refine zQ ?_
  refine zL ?_
  refine zR (v := .tuple #[]) (rs := []) A9 kr Res.nil kr ?_
  exact ⟨_, rfl, rfl, Yc, rbl, adl, ml, capl, S, [], j1, (Le.refl _), by rw [List.append_nil]; exact hrow, by rw [List.append_nil]; exact hml, Vis.same, ht10, hbu⟩
 have A11 := A7.set 13 (v' := .bool false) kr rfl (zG hc8)
 have ht12 : (S.getD s.toNat false) = false := by simpa using hc8
 have hsl : s.toNat < S.length := by omega
 have hun := unseen_set hsl ht12
 obtain ⟨b0, off0, rfl⟩ := hst.addr (by omega)
 obtain ⟨sx, ax, lx, cx, hxs, hAs, hacts⟩ := hst.at (k := s.toNat) (by omega)
 obtain rfl := hacts.hlen
 have hcapx := hacts.hcap
 have hbigx := hacts.hbig
 have hAs1 : At (rd wc Yc) ⟨b0, off0 + s.toNat, none⟩ [.slice ax sx.length cx] := by simpa using hAs
 have hsx := List.mem_of_getElem? hxs
 have hgd : m.states.getD s.toNat [] = sx := getD_get hxs
 refine i_skip ?_
 refine zA (C2 _ _ ?_)
 refine zD (fun K13 C13 => ?_)
 refine zC ?_
 refine wplI A11 kr (zJ (d := 14) (v := .slice (some ⟨gS, 0, none⟩) m.states.length m.states.length) A11 kr (zF (t := 80) (g := false) (vs := [.slice (some ⟨gS, 0, none⟩) m.states.length m.states.length]) (ad := ⟨b7, 0, none⟩) rfl kr kr ir (j1.cells 1 rfl rfl)) ?_)
 intro a14 A14
 refine zB 1 [(15, .int .i64 s)] A14 kr kr (fun a15 A15 => ?_)
 refine wplI A15 kr (zJ (d := 16) (v := .pointer (some ⟨gS, s.toNat, none⟩)) A15 kr (zP (t := 80) (e := 4) (b := gS) (off := 0) (len := m.states.length) (cap := m.states.length) (kd := .i64) (i := s) (g := false) (m := 1) (off' := s.toNat) rfl kr kr kr kr (by omega) (by omega) (by first | rfl | omega | (simp; done) | (simp; omega)) _) ?_)
 intro a16 A16
 refine wplI A16 kr (zO (t := 4) (b := gS) (off := s.toNat) (c' := bvals (S.set s.toNat true)) (g := false) (m := 1) 2 _ A16 kr j1 rfl kr rfl kr kr kr rfl (by have := hSl; rw [bvals_size]; omega) bvals_set rfl ?_)
 intro w17 j17 q17
 refine zE ?_
 refine zA (C13 _ _ ?_)
 refine zD (fun K18 C18 => ?_)
 refine zC ?_
 refine wplI A16 kr (zJ (d := 17) (v := .slice adl ml capl) A16 kr (zF (t := 30) (g := false) (vs := [.slice adl ml capl]) (ad := ⟨b4, 0, none⟩) rfl kr kr ir (j17.cells 3 rfl rfl)) ?_)
 intro a19 A19
 refine zB 1 [(18, .int .i64 s)] A19 kr kr (fun a20 A20 => ?_)
 refine wplI A20 kr (zN (d := 19) (fun b => .slice (some ⟨b, 0, none⟩) 1 1) (.cells #[.int .i64 s] 3 (0, 0)) A20 kr j17 kw ?_)
 intro b21 w21 Y21 j21 q21 hu21 a22 A22
 refine wplI A22 kr (qF (d := 20) (t := 30) (e := 3) (size := 1) (m := 1) (c := 1) (nn := ml) (cap := capl) (ad0 := adl) (xs := (ivals is)) (news := [.int .i64 s]) (ad := ⟨b21, 0, none⟩) (z := .int .i64 0) (i0 := Try.t3) (rb := rbl) (R1 := []) (B := A) 6 A22 kr j21 rfl rfl kr kr kr kr kr kr kr hrow (j21.cells 0 rfl rfl) kr kr (by omega) (by simp only [maxLen]; omega) (by show (_ + 1) * 8 ≤ _; omega) ?_)
 intro rb23 ad23 cap23 w23 Y23 hrow23 j23 q23 a24 A24
 have hrw23 : TRow 3 1 rb23 ad23 (ml + 1) cap23 (ivals (is ++ [s])) := by rw [ivals_snoc]; exact hrow23
 refine wplI A24 kr (zO (t := 30) (b := b4) (off := 0) (c' := #[.slice ad23 (ml + 1) cap23]) (g := false) (m := 1) 4 _ A24 kr j23 rfl kr rfl kr kr kr rfl (by first | decide | (simp; done)) kr rfl ?_)
 intro w25 j25 q25
 refine zE ?_
 refine zA (C18 _ _ ?_)
 refine zD (fun K26 C26 => ?_)
 refine zC ?_
 refine zB 1 [(21, .pointer (some ⟨b2, 3, none⟩))] A24 kr kr (fun a27 A27 => ?_)
 refine wplI A27 kr (zJ (d := 22) (v := .slice (some ⟨b0, off0, none⟩) m.states.length cs) A27 kr (zF (t := 26) (g := false) (vs := [.slice (some ⟨b0, off0, none⟩) m.states.length cs]) (ad := ⟨b2, 3, none⟩) rfl kr kr ir (j25.cells 5 rfl rfl)) ?_)
 intro a28 A28
 refine zB 1 [(23, .int .i64 s)] A28 kr kr (fun a29 A29 => ?_)
 refine wplI A29 kr (zJ (d := 24) (v := .pointer (some ⟨b0, off0 + s.toNat, none⟩)) A29 kr (zP (t := 26) (e := 40) (b := b0) (off := off0) (len := m.states.length) (cap := cs) (kd := .i64) (i := s) (g := false) (m := 1) (off' := off0 + s.toNat) rfl kr kr kr kr (by omega) (by omega) (by first | rfl | omega | (simp; done) | (simp; omega)) _) ?_)
 intro a30 A30
 refine wplI A30 kr (zJ (d := 25) (v := .slice ax sx.length cx) A30 kr (zF (t := 40) (g := false) (vs := [.slice ax sx.length cx]) (ad := ⟨b0, off0 + s.toNat, none⟩) rfl kr kr ir ((hAs1.mono (Le4 q17 q21 q23 q25))).cells) ?_)
 intro a31 A31
 refine zB 2 [(27, .int .i64 0), (26, .int .i64 (sx.length : Int))] A31 kr kr (fun a32 A32 => ?_)
 refine zE ?_
 refine zA (C26 _ _ ?_)
 refine zV ?_
 refine qC (fun (i : Nat) ac w1 => ∃ (Y1 : Hid) (rb : List (Nat × Obj)) (ad1 : Option Addr) (ml1 : Nat) (cap1 : Nat) (S2 : List Bool) (N : List Int), Fr 44 ac [(4, .pointer (some ⟨b8, 0, none⟩)), (25, .slice ax sx.length cx), (26, .int .i64 (sx.length : Int)), (27, .int .i64 (i : Int))] ∧ St E0 w X w1 Y1 ((b8, .cells #[.func (.func 41) #[] #[.pointer (some ⟨b7, 0, none⟩), .pointer (some ⟨b4, 0, none⟩), .pointer (some ⟨b2, 0, none⟩), .pointer (some ⟨b8, 0, none⟩)]] 81 (0, 0)) :: (b7, .cells #[.slice (some ⟨gS, 0, none⟩) m.states.length m.states.length] 80 (0, 0)) :: (gS, .cells (bvals S2) 4 (0, 0)) :: (b4, .cells #[.slice ad1 ml1 cap1] 30 (0, 0)) :: (b2, .cells #[.bool dn, .slice ad len cap, .slice ae le ce, .slice (some ⟨b0, off0, none⟩) m.states.length cs] 28 (0, 0)) :: (rb ++ A)) ∧ Le (rd w25 Y23) (rd w1 Y1) ∧ (TRow 3 1 rb ad1 ml1 cap1 (ivals (is ++ ([s] ++ N)))) ∧ (ml1 = (is ++ ([s] ++ N)).length) ∧ (Vis m (S.set s.toNat true) N S2 (Succ m s)) ∧ (ml1 + unseen S2 ≤ 200) ∧ (∀ a ∈ sx.take i, ∀ o ∈ a.next, S2.getD o.to.toNat false = true) ∧ (i ≤ sx.length)) (fun (i : Nat) => sx.length - i) 0 ?_ ?_
 ·
  refine ⟨_, rb23, ad23, (ml + 1), cap23, (S.set s.toNat true), [], A32.as [4, 25, 26, 27] kr kr, j25.tail, Le.refl _, hrw23, by rw [hml]; simp, Vis.nil, by omega, fun a ha => by simp at ha, Nat.zero_le _⟩
 rintro i a33 w33 ⟨Y33, rb, ad1, ml1, cap1, S2, N, A33, j33, q33, hp33_0, hp33_1, hp33_2, hp33_3, hp33_4, hp33_5⟩
 have hr1 := hp33_0
 have hm1 := hp33_1
 have hV1 := hp33_2
 have hb1 := hp33_3
 have hall := hp33_4
 have hil := hp33_5
 have hSl2 : S2.length = m.states.length := by have h9 := hV1.len; rw [List.length_set] at h9; omega
 refine zD (fun K34 C34 => ?_)
 refine zC ?_
 refine zB 1 [(28, .bool (decide ((i : Int) < (sx.length : Int))))] A33 kr kr (fun a35 A35 => ?_)
 refine zE ?_
 refine zA (C34 _ _ ?_)
 refine zD (fun K36 C36 => ?_)
 refine zS (decide ((i : Int) < (sx.length : Int))) A35 kr kr (fun hc37 => ?_) (fun hc37 => ?_)
 ·
  have A38 := A35.set 28 (v' := .bool true) kr rfl (zG hc37)
  have ht39 : (i : Int) < (sx.length : Int) := of_decide_eq_true hc37
  obtain ⟨b9, off9, rfl⟩ := hacts.addr (by omega)
  obtain ⟨xa, a1a, a2a, a3a, a4a, a5a, a6a, a7a, a8a, a9a, hxa, hAa, hLa, hMa, hOa⟩ := hacts.at (k := i) (by omega)
  obtain rfl := hOa.hlen
  have hcapo := hOa.hcap
  have hbigo := hOa.hbig
  have hxin := List.mem_of_getElem? hxa
  refine i_skip ?_
  refine zA (C36 _ _ ?_)
  refine zD (fun K40 C40 => ?_)
  refine zV ?_
  refine zD (fun K41 C41 => ?_)
  refine zC ?_
  refine wplI A38 kr (zJ (d := 29) (v := .pointer (some ⟨b9, off9 + i * 4, none⟩)) A38 kr (zP (t := 40) (e := 55) (b := b9) (off := off9) (len := sx.length) (cap := cx) (kd := .i64) (i := (i : Int)) (g := true) (m := 4) (off' := off9 + i * 4) rfl kr kr kr kr (by omega) (by omega) (by first | rfl | omega | (simp; done) | (simp; omega)) _) ?_)
  intro a42 A42
  refine wplI A42 kr (zJ (d := 30) (v := .agg #[.bool xa.cost.neg, .slice a1a a2a a3a, .slice a4a a5a a6a, .slice a7a xa.next.length a9a]) A42 kr (zF (t := 55) (g := true) (vs := [.bool xa.cost.neg, .slice a1a a2a a3a, .slice a4a a5a a6a, .slice a7a xa.next.length a9a]) (ad := ⟨b9, off9 + i * 4, none⟩) rfl kr kr ir ((hAa.mono (Le5 q17 q21 q23 q25 q33))).cells) ?_)
  intro a43 A43
  refine wplI A43 kr (zN (d := 7) (fun b => .pointer (some ⟨b, 0, none⟩)) (.cells #[.bool false, .slice none 0 0, .slice none 0 0, .slice none 0 0] 55 (0, 0)) A43 kr j33 kw ?_)
  intro b44 w44 Y44 j44 q44 hu44 a45 A45
  refine wplI A45 kr (zO (t := 55) (b := b44) (off := 0) (c' := #[.bool xa.cost.neg, .slice a1a a2a a3a, .slice a4a a5a a6a, .slice a7a xa.next.length a9a]) (g := true) (m := 4) 0 _ A45 kr j44 rfl kr rfl kr kr kr rfl (by first | decide | (simp; done)) kr rfl ?_)
  intro w46 j46 q46
  refine zE ?_
  refine zA (C41 _ _ ?_)
  refine zD (fun K47 C47 => ?_)
  refine zC ?_
  refine zB 1 [(31, .pointer (some ⟨b44, 3, none⟩))] A45 kr kr (fun a48 A48 => ?_)
  refine wplI A48 kr (zJ (d := 32) (v := .slice a7a xa.next.length a9a) A48 kr (zF (t := 53) (g := false) (vs := [.slice a7a xa.next.length a9a]) (ad := ⟨b44, 3, none⟩) rfl kr kr ir (j46.cells 0 rfl rfl)) ?_)
  intro a49 A49
  refine zB 2 [(34, .int .i64 0), (33, .int .i64 (xa.next.length : Int))] A49 kr kr (fun a50 A50 => ?_)
  refine zE ?_
  refine zA (C47 _ _ ?_)
  refine zV ?_
  refine qC (fun (j : Nat) ac w1 => ∃ (Y1 : Hid) (rb : List (Nat × Obj)) (ad1 : Option Addr) (ml1 : Nat) (cap1 : Nat) (S2 : List Bool) (N : List Int), Fr 44 ac [(4, .pointer (some ⟨b8, 0, none⟩)), (25, .slice (some ⟨b9, off9, none⟩) sx.length cx), (26, .int .i64 (sx.length : Int)), (27, .int .i64 (i : Int)), (32, .slice a7a xa.next.length a9a), (33, .int .i64 (xa.next.length : Int)), (34, .int .i64 (j : Int))] ∧ St E0 w X w1 Y1 ((b8, .cells #[.func (.func 41) #[] #[.pointer (some ⟨b7, 0, none⟩), .pointer (some ⟨b4, 0, none⟩), .pointer (some ⟨b2, 0, none⟩), .pointer (some ⟨b8, 0, none⟩)]] 81 (0, 0)) :: (b7, .cells #[.slice (some ⟨gS, 0, none⟩) m.states.length m.states.length] 80 (0, 0)) :: (gS, .cells (bvals S2) 4 (0, 0)) :: (b4, .cells #[.slice ad1 ml1 cap1] 30 (0, 0)) :: (b2, .cells #[.bool dn, .slice ad len cap, .slice ae le ce, .slice (some ⟨b0, off0, none⟩) m.states.length cs] 28 (0, 0)) :: (rb ++ A)) ∧ Le (rd w46 Y44) (rd w1 Y1) ∧ (TRow 3 1 rb ad1 ml1 cap1 (ivals (is ++ ([s] ++ N)))) ∧ (ml1 = (is ++ ([s] ++ N)).length) ∧ (Vis m (S.set s.toNat true) N S2 (Succ m s)) ∧ (ml1 + unseen S2 ≤ 200) ∧ (∀ a ∈ sx.take i, ∀ o ∈ a.next, S2.getD o.to.toNat false = true) ∧ (∀ o ∈ xa.next.take j, S2.getD o.to.toNat false = true) ∧ (j ≤ xa.next.length)) (fun (j : Nat) => xa.next.length - j) 0 ?_ ?_
  ·
   refine ⟨_, rb, ad1, ml1, cap1, S2, N, A50.as [4, 25, 26, 27, 32, 33, 34] kr kr, j46.tail, Le.refl _, hr1, hm1, hV1, hb1, hall, fun o ho => by simp at ho, Nat.zero_le _⟩
  rintro j a51 w51 ⟨Y51, rb, ad1, ml1, cap1, S2, N, A51, j51, q51, hp51_0, hp51_1, hp51_2, hp51_3, hp51_4, hp51_5, hp51_6⟩
  have hr1 := hp51_0
  have hm1 := hp51_1
  have hV1 := hp51_2
  have hb1 := hp51_3
  have hall2 := hp51_4
  have hin2 := hp51_5
  have hjl := hp51_6
  have hSl2 : S2.length = m.states.length := by have h9 := hV1.len; rw [List.length_set] at h9; omega
  refine zD (fun K52 C52 => ?_)
  refine zC ?_
  refine zB 1 [(35, .bool (decide ((j : Int) < (xa.next.length : Int))))] A51 kr kr (fun a53 A53 => ?_)
  refine zE ?_
  refine zA (C52 _ _ ?_)
  refine zD (fun K54 C54 => ?_)
  refine zS (decide ((j : Int) < (xa.next.length : Int))) A53 kr kr (fun hc55 => ?_) (fun hc55 => ?_)
  ·
   have A56 := A53.set 35 (v' := .bool true) kr rfl (zG hc55)
   have ht57 : (j : Int) < (xa.next.length : Int) := of_decide_eq_true hc55
   obtain ⟨bo, offo, rfl⟩ := hOa.addr (by omega)
   obtain ⟨ox, anx, lnx, cnx, amx, lmx, cmx, hxx, hAx, hLx, hMx⟩ := hOa.at (k := j) (by omega)
   have hoin := List.mem_of_getElem? hxx
   have hor := m_range hchk hsx hxin hoin
   refine i_skip ?_
   refine zA (C54 _ _ ?_)
   refine zD (fun K58 C58 => ?_)
   refine zV ?_
   refine zD (fun K59 C59 => ?_)
   refine zC ?_
   refine wplI A56 kr (zJ (d := 36) (v := .pointer (some ⟨bo, offo + j * 4, none⟩)) A56 kr (zP (t := 53) (e := 57) (b := bo) (off := offo) (len := xa.next.length) (cap := a9a) (kd := .i64) (i := (j : Int)) (g := true) (m := 4) (off' := offo + j * 4) rfl kr kr kr kr (by omega) (by omega) (by first | rfl | omega | (simp; done) | (simp; omega)) _) ?_)
   intro a60 A60
   refine wplI A60 kr (zJ (d := 37) (v := .agg #[.int .i64 ox.to, .bool ox.p.neg, .slice anx lnx cnx, .slice amx lmx cmx]) A60 kr (zF (t := 57) (g := true) (vs := [.int .i64 ox.to, .bool ox.p.neg, .slice anx lnx cnx, .slice amx lmx cmx]) (ad := ⟨bo, offo + j * 4, none⟩) rfl kr kr ir ((hAx.mono (Le8 q17 q21 q23 q25 q33 q44 q46 q51))).cells) ?_)
   intro a61 A61
   refine wplI A61 kr (zN (d := 9) (fun b => .pointer (some ⟨b, 0, none⟩)) (.cells #[.int .i64 0, .bool false, .slice none 0 0, .slice none 0 0] 57 (0, 0)) A61 kr j51 kw ?_)
   intro b62 w62 Y62 j62 q62 hu62 a63 A63
   refine wplI A63 kr (zO (t := 57) (b := b62) (off := 0) (c' := #[.int .i64 ox.to, .bool ox.p.neg, .slice anx lnx cnx, .slice amx lmx cmx]) (g := true) (m := 4) 0 _ A63 kr j62 rfl kr rfl kr kr kr rfl (by first | decide | (simp; done)) kr rfl ?_)
   intro w64 j64 q64
   refine zE ?_
   refine zA (C59 _ _ ?_)
   refine zC ?_
   refine wplI A63 kr (zJ (d := 38) (v := .func (.func 41) #[] #[.pointer (some ⟨b7, 0, none⟩), .pointer (some ⟨b4, 0, none⟩), .pointer (some ⟨b2, 0, none⟩), .pointer (some ⟨b8, 0, none⟩)]) A63 kr (zF (t := 81) (g := false) (vs := [.func (.func 41) #[] #[.pointer (some ⟨b7, 0, none⟩), .pointer (some ⟨b4, 0, none⟩), .pointer (some ⟨b2, 0, none⟩), .pointer (some ⟨b8, 0, none⟩)]]) (ad := ⟨b8, 0, none⟩) rfl kr kr ir (j64.cells 1 rfl rfl)) ?_)
   intro a65 A65
   refine zB 1 [(39, .pointer (some ⟨b62, 0, none⟩))] A65 kr kr (fun a66 A66 => ?_)
   refine wplI A66 kr (zJ (d := 40) (v := .int .i64 ox.to) A66 kr (zF (t := 3) (g := false) (vs := [.int .i64 ox.to]) (ad := ⟨b62, 0, none⟩) rfl kr kr ir (j64.cells 0 rfl rfl)) ?_)
   intro a67 A67
   refine wplI A67 kr (op_callF (d := 41) (f := 41) (cap := #[.pointer (some ⟨b7, 0, none⟩), .pointer (some ⟨b4, 0, none⟩), .pointer (some ⟨b2, 0, none⟩), .pointer (some ⟨b8, 0, none⟩)]) (vs := #[.int .i64 ox.to, .pointer (some ⟨b7, 0, none⟩), .pointer (some ⟨b4, 0, none⟩), .pointer (some ⟨b2, 0, none⟩), .pointer (some ⟨b8, 0, none⟩)]) A67 kr rfl kr kr (fun w => Try.call41 _ w) (ih (unseen S2) (by have := hV1.less; omega) w X _ _ A rb b8 b7 gS b4 b2 dn ad len cap ae le ce _ cs S2 ad1 ml1 cap1 _ ox.to j64.tail (hst.mono (Le10 q17 q21 q23 q25 q33 q44 q46 q51 q62 q64)) hchk hSl2 hr1 hm1 hb1 hor.1 hor.2 rfl) ?_)
   rintro v68 w68 ⟨rfl, Y68, rb68, ad68, ml68, cap68, S68, N68, j68, q68, hr8, hm8, hV9, hroot, hb2⟩ a69 A69
   have hr2 : TRow 3 1 rb68 ad68 ml68 cap68 (ivals (is ++ ([s] ++ (N ++ N68)))) := by simpa only [List.append_assoc] using hr8
   have hm2 : ml68 = (is ++ ([s] ++ (N ++ N68))).length := by simpa only [List.append_assoc] using hm8
   have hV2 := hV1.trans (hV9.weaken (R' := Succ m s) (fun r hr => ⟨xa, by rw [hgd]; exact hxin, ox, hoin, hr⟩))
   refine zE ?_
   refine zW ?_
   refine zA (C58 _ _ ?_)
   refine zC ?_
   refine zB 1 [(42, .int .i64 (IntKind.i64.wrap ((j : Int) + 1)))] A69 kr kr (fun a70 A70 => ?_)
   have A71 := A70.set 42 (v' := .int .i64 ((j : Int) + 1)) kr rfl (vint (wi64 (by omega) (by omega)))
   refine zB 1 [(34, .int .i64 ((j : Int) + 1))] A71 kr kr (fun a72 A72 => ?_)
   refine zE ?_
   refine zA ?_
   refine ⟨j + 1, ⟨_, rb68, ad68, ml68, cap68, S68, (N ++ N68), A72.as [4, 25, 26, 27, 32, 33, 34] kr kr, j68, (Le4 q51 q62 q64 q68), hr2, hm2, hV2, hb2, fun a ha o ho => hV9.up (hall2 a ha o ho), by rw [take_snoc hxx]; exact all_snoc1 (fun o ho => hV9.up (hin2 o ho)) hroot, by omega⟩, ?_⟩
   first | omega | (simp; omega)
  have A73 := A53.set 35 (v' := .bool false) kr rfl (zG hc55)
  have ht74 : ¬ ((j : Int) < (xa.next.length : Int)) := of_decide_eq_false hc55
  refine i_exit ?_
  refine zT ?_
  refine zT ?_
  refine qA ?_
  refine zW ?_
  refine zA (C40 _ _ ?_)
  refine zC ?_
  refine zB 1 [(43, .int .i64 (IntKind.i64.wrap ((i : Int) + 1)))] A73 kr kr (fun a75 A75 => ?_)
  have A76 := A75.set 43 (v' := .int .i64 ((i : Int) + 1)) kr rfl (vint (wi64 (by omega) (by omega)))
  refine zB 1 [(27, .int .i64 ((i : Int) + 1))] A76 kr kr (fun a77 A77 => ?_)
  refine zE ?_
  refine zA ?_
  refine ⟨i + 1, ⟨_, rb, ad1, ml1, cap1, S2, N, A77.as [4, 25, 26, 27] kr kr, j51, (Le4 q33 q44 q46 q51), hr1, hm1, hV1, hb1, by rw [take_snoc hxa]; exact all_snoc hall2 (fun o ho => hin2 o (by rw [List.take_of_length_le (by omega)]; exact ho)), by omega⟩, ?_⟩
  first | omega | (simp; omega)
 have A78 := A35.set 28 (v' := .bool false) kr rfl (zG hc37)
 have ht79 : ¬ ((i : Int) < (sx.length : Int)) := of_decide_eq_false hc37
 refine i_exit ?_
 refine zT ?_
 refine zT ?_
 refine qA ?_
 refine c_end (v := .tuple #[]) (rs := []) A78 kr Res.nil kr ?_
 have hall9 : ∀ a ∈ m.states.getD s.toNat [], ∀ o ∈ a.next, S2.getD o.to.toNat false = true := by rw [hgd]; intro a ha; exact hall a (by rw [List.take_of_length_le (by omega)]; exact ha)
 have hVw := Vis.wrap hSl h0 (by omega) ht12 hV1 hall9
 exact ⟨_, rfl, rfl, _, rb, ad1, ml1, cap1, S2, [s] ++ N, j33, (Le5 q17 q21 q23 q25 q33), hr1, hm1, hVw, hVw.root h0 (by omega), hb1⟩
end Go.Proofs.Ytoocgllbbihoaaa

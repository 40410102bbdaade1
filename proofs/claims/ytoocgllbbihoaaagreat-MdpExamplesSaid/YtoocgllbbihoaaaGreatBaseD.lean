/- Parts of the proof: F31 F32 F33 F34 F35 F36 F37 F38 F39 F40 F41 R1 R2 R3 R4 R5 R6 R7 R8 R9. By an AI agent. -/
import Derived.Test.YtoocgllbbihoaaaGreatBaseA
import Derived.Test.YtoocgllbbihoaaaGreatBaseB
import Derived.Test.YtoocgllbbihoaaaGreatBaseC
set_option linter.unusedVariables false
set_option linter.unusedSimpArgs false
set_option linter.unnecessarySimpa false
namespace Go.Proofs.YtoocgllbbihoaaaGreat
open Go Go.Gv Go.RowKit
set_option maxRecDepth 100000
set_option maxHeartbeats 1000000
theorem rFrom_1 (w : World) (X : Hid) (hX : ∀ k o, X k o → k < w.heap.size) : Calls Tryz.prog 49 #[.int .i64 1] w (Ret E0 w fun w' v => RawX X w' v (.of 1)) := rFrom_c w X hX 1 (by omega) (by omega)
theorem checkAction_c (w : World) (X : Hid) (hX : ∀ k o, X k o → k < w.heap.size) (a : Actn) (ad : Option Addr) (len cap : Nat) (h : Limbs (rd w X) ad len cap a.cost.ln) (ae : Option Addr) (le ce : Nat) (h2 : Limbs (rd w X) ae le ce a.cost.ld) (nx : Option Addr) (lx cx : Nat) (hx : OutsR (rd w X) nx lx cx a.next) (n : Nat) (hn : n ≤ 1000000) : Calls Tryz.prog 50 #[.agg #[.bool a.cost.neg, .slice ad len cap, .slice ae le ce, .slice nx lx cx], .int .i64 (n : Int)] w (Ret E0 w fun _ v => v = .int .i64 (chkAct n a)) := by
 obtain rfl := hx.hlen
 have hcapx := hx.hcap
 have hbigx := hx.hbig
 refine zen Tryz.func50 ?_
 have A0 : St E0 w X w X [] := St.start hX
 refine zz 2 ?_
 refine zn pn (.cells #[.bool a.cost.neg, .slice ad len cap, .slice ae le ce, .slice nx a.next.length cx] 63 (0, 0)) A0 ?_
 intro b3 w3 Y3 A3 j3 hu3
 refine zz 7 ?_
 refine zo 0 A3 ?_
 refine zc A3 (rcheck_c _ _ A3.lt a.cost _ _ _ (h.mono j3) _ _ _ (h2.mono j3)) ?_
 rintro v5 w5 A5 j5 hu5 rfl
 refine zz 11 ?_
 refine zb 18 (b := ((a.cost.chk) != 0)) (fun hc6 => ?_) (fun hc6 => ?_)
 ·
  have ht7 : (a.cost.chk) ≠ 0 := by simpa using hc6
  refine zz 10 ?_
  refine zr' (v := .int .i64 a.cost.chk) ?_
  exact ⟨A5.upd, _, rfl, vint (ca_cost ht7).symm⟩
 have ht8 : (a.cost.chk) = 0 := by simpa using hc6
 have hc0 : a.cost.chk = 0 := by simpa using ht8
 refine zz 4 ?_
 refine zo 0 A5 ?_
 refine zz 5 ?_
 refine zb 22 (b := ((a.next.length : Int) == 0)) (fun hc9 => ?_) (fun hc9 => ?_)
 ·
  have ht10 : (a.next.length : Int) = 0 := by simpa using hc9
  refine zz 9 ?_
  refine zr' (v := .int .i64 3) ?_
  exact ⟨A5.upd, _, rfl, vint (ca_none hc0 (by omega)).symm⟩
 have ht11 : (a.next.length : Int) ≠ 0 := by simpa using hc9
 have hl0 : a.next.length ≠ 0 := by omega
 refine zz 4 ?_
 refine zo 0 A5 ?_
 refine zz 5 ?_
 refine zt 27 (p := (a.next.length : Int) > 64) (fun ht12 => ?_) (fun ht12 => ?_)
 ·
  refine zz 9 ?_
  refine zr' (v := .int .i64 4) ?_
  exact ⟨A5.upd, _, rfl, vint (ca_many hc0 (by omega)).symm⟩
 have hl64 : a.next.length ≤ 64 := by omega
 refine zz 8 ?_
 refine zo 0 A5 ?_
 refine zz 5 ?_
 refine zlp Tryz.f50 [] [1, 1, 0, 1, 0] (fun (k : Nat) => [(1, .int .i64 (n : Int)), (2, .pointer (some ⟨b3, 0, none⟩)), (33, .slice nx a.next.length cx), (34, .int .i64 (a.next.length : Int)), (35, .int .i64 (k : Int))]) (fun (k : Nat) w1 => ∃ (Y1 : Hid), St E0 w X w1 Y1 [(b3, .cells #[.bool a.cost.neg, .slice ad len cap, .slice ae le ce, .slice nx a.next.length cx] 63 (0, 0))] ∧ Le (rd w5 Y3) (rd w1 Y1) ∧ (chkOuts n (prevOf a.next k) (a.next.drop k) = chkOuts n none a.next) ∧ (k ≤ a.next.length)) (fun (k : Nat) => a.next.length - k) 0 ?_ ?_
 ·
  refine ⟨_, A5, Le.refl _, rfl, Nat.zero_le _⟩
 rintro k w13 K13 G13 ⟨Y13, A13, j13, hp13_0, hp13_1⟩
 refine zz 6 ?_
 refine zt 36 (p := (k : Int) < (a.next.length : Int)) (fun ht14 => ?_) (fun ht14 => ?_)
 ·
  obtain ⟨b0, off0, rfl⟩ := hx.addr (by omega)
  obtain ⟨ox, anx, lnx, cnx, amx, lmx, cmx, hxx, hAx, hLx, hMx⟩ := hx.at (k := k) (by omega)
  refine zz 8 ?_
  refine zi (b := b0) (off := off0) (len := a.next.length) (cap := cx) (kd := .i64) (i := (k : Int)) 4 (off0 + k * 4) ?_
  refine zl ((hAx.mono (Le3 j3 j5 j13))).cells ?_
  refine zn pn (.cells #[.int .i64 0, .bool false, .slice none 0 0, .slice none 0 0] 60 (0, 0)) A13 ?_
  intro b16 w16 Y16 A16 j16 hu16
  refine zz 1 ?_
  refine zx 0 #[.int .i64 ox.to, .bool ox.p.neg, .slice anx lnx cnx, .slice amx lmx cmx] A16 ?_
  intro w17 A17 j17
  refine zz 7 ?_
  refine zo 0 A17 ?_
  refine zz 2 ?_
  refine zt 44 (p := (ox.to) < 0) (fun ht18 => ?_) (fun ht18 => ?_)
  ·
   refine zz 22 ?_
   refine zr' (v := .int .i64 8) ?_
   exact ⟨A17.upd, _, rfl, vint (ca_outs hc0 hl0 hl64 ((co_8 hxx (.inl ht18) _).symm.trans hp13_0) (by decide)).symm⟩
  refine zz 1 ?_
  refine zo 0 A17 ?_
  refine zz 6 ?_
  refine zt 40 (p := (ox.to) ≥ (n : Int)) (fun ht19 => ?_) (fun ht19 => ?_)
  ·
   refine zz 14 ?_
   refine zr' (v := .int .i64 8) ?_
   exact ⟨A17.upd, _, rfl, vint (ca_outs hc0 hl0 hl64 ((co_8 hxx (.inr (by omega)) _).symm.trans hp13_0) (by decide)).symm⟩
  have hrange : ¬ (ox.to < 0 ∨ (n : Int) ≤ ox.to) := by omega
  refine zz 2 ?_
  rcases Nat.eq_zero_or_pos k with hk0 | hk0
  ·
   refine zdr A17 ?_
   refine gz [0, 1] ?_
   refine gset 52 (v := .bool (decide ((k : Int) > 0))) (v' := .bool false) (zJ (decide_eq_false (by omega))) ?_
   refine gz [2, 3, 4, 5, 6, 7, 8, 9, 10, 11, 12, 13, 14] ?_
   refine gend (fun w20 Y20 A20 j20 => ?_)
   refine zz 8 ?_
   refine zo 0 A20 ?_
   have hc1_ := (Le5 j3 j5 j13 j16 j17).trans j20
   refine zc A20 (rcheck_c _ _ A20.lt ox.p _ _ _ (hLx.mono hc1_) _ _ _ (hMx.mono hc1_)) ?_
   rintro v22 w22 A22 j22 hu22 rfl
   refine zz 11 ?_
   refine zb 68 (b := ((ox.p.chk) != 0)) (fun hc23 => ?_) (fun hc23 => ?_)
   ·
    have ht24 : (ox.p.chk) ≠ 0 := by simpa using hc23
    have hrest := co_rest hxx hrange (.inl hk0)
    refine zz 14 ?_
    refine zr' (v := .int .i64 ox.p.chk) ?_
    exact ⟨A22.upd, _, rfl, vint (ca_outs hc0 hl0 hl64 ((hrest.trans (if_pos ht24)).symm.trans hp13_0) ht24).symm⟩
   have ht25 : (ox.p.chk) = 0 := by simpa using hc23
   have hrest := co_rest hxx hrange (.inl hk0)
   rw [if_neg (by simpa using ht25)] at hrest
   refine zz 5 ?_
   refine zo 0 A22 ?_
   refine zz 1 ?_
   refine zb 76 (b := ox.p.neg) (fun hc26 => ?_) (fun hc26 => ?_)
   ·
    have ht27 : ox.p.neg = true := by simpa using hc26
    refine zz 22 ?_
    refine zr' (v := .int .i64 1) ?_
    exact ⟨A22.upd, _, rfl, vint (ca_outs hc0 hl0 hl64 ((hrest.trans (if_pos (.inl ht27))).symm.trans hp13_0) (by decide)).symm⟩
   have ht28 : ox.p.neg = false := by simpa using hc26
   refine zz 2 ?_
   refine zo 0 A22 ?_
   refine zz 6 ?_
   refine zb 72 (b := ((lnx : Int) == 0)) (fun hc29 => ?_) (fun hc29 => ?_)
   ·
    have ht30 : (lnx : Int) = 0 := by simpa using hc29
    have hlnx := hLx.hlen
    refine zz 13 ?_
    refine zr' (v := .int .i64 1) ?_
    exact ⟨A22.upd, _, rfl, vint (ca_outs hc0 hl0 hl64 ((hrest.trans (if_pos (.inr (by omega)))).symm.trans hp13_0) (by decide)).symm⟩
   have ht31 : (lnx : Int) ≠ 0 := by simpa using hc29
   have hlnx := hLx.hlen
   have hnext := hrest.trans (if_neg (by rintro (e | e); rw [ht28] at e; cases e; omega))
   refine zz 7 ?_
   refine zw 83 (x := (k : Int) + 1) ?_
   refine zz 2 ?_
   have hc2_ := (Le4 j13 j16 j17 j20).trans j22
   refine znext (fun a h => G13 (k + 1) _ a h ⟨_, A22.tail, hc2_, hnext.symm.trans hp13_0, by omega⟩ ?_)
   first | omega | (simp <;> omega)
  ·
   obtain ⟨oq, anq, lnq, cnq, amq, lmq, cmq, hxq, hAq, hLq, hMq⟩ := hx.at (k := (k - 1)) (by omega)
   have hA1 : At (rd w X) ⟨b0, off0 + (k - 1) * 4, none⟩ [.int .i64 oq.to] := hAq.one (i := 0) rfl
   refine zdr A17 ?_
   refine gz [0, 1] ?_
   refine gset 52 (v := .bool (decide ((k : Int) > 0))) (v' := .bool true) (zJ (decide_eq_true (by omega))) ?_
   refine gz [2, 3] ?_
   refine gw 4 0 ?_
   refine gz [5] ?_
   refine gw 6 1 ?_
   refine gz [7, 8] ?_
   refine gset 59 (v := .int .i64 (IntKind.i64.wrap ((k : Int) - 1))) (v' := .int .i64 ((k - 1 : Nat) : Int)) (vint ((wi64 (by omega) (by omega)).trans (by omega))) ?_
   refine gi 9 (b := b0) (off := off0) (len := a.next.length) (cap := cx) (kd := .i64) (i := ((k - 1 : Nat) : Int)) 4 (off0 + (k - 1) * 4) ?_
   have hc3_ := (Le4 j3 j5 j13 j16).trans j17
   refine gz [10] ?_
   refine gl 11 ((hA1.mono hc3_)) ?_
   refine gz [12, 13, 14] ?_
   refine gend (fun w32 Y32 A32 j32 => ?_)
   refine zz 1 ?_
   refine zt 50 (p := (ox.to) ≤ oq.to) (fun ht33 => ?_) (fun ht33 => ?_)
   ·
    refine zz 14 ?_
    refine zr' (v := .int .i64 16) ?_
    exact ⟨A32.upd, _, rfl, vint (ca_outs hc0 hl0 hl64 ((co_16 hxx hrange (by omega) hxq ht33).symm.trans hp13_0) (by decide)).symm⟩
   have hrest := co_rest hxx hrange (.inr ⟨_, hxq, ht33⟩)
   refine zz 7 ?_
   refine zo 0 A32 ?_
   have hc4_ := (Le5 j3 j5 j13 j16 j17).trans j32
   refine zc A32 (rcheck_c _ _ A32.lt ox.p _ _ _ (hLx.mono hc4_) _ _ _ (hMx.mono hc4_)) ?_
   rintro v35 w35 A35 j35 hu35 rfl
   refine zz 11 ?_
   refine zb 68 (b := ((ox.p.chk) != 0)) (fun hc36 => ?_) (fun hc36 => ?_)
   ·
    have ht37 : (ox.p.chk) ≠ 0 := by simpa using hc36
    refine zz 14 ?_
    refine zr' (v := .int .i64 ox.p.chk) ?_
    exact ⟨A35.upd, _, rfl, vint (ca_outs hc0 hl0 hl64 ((hrest.trans (if_pos ht37)).symm.trans hp13_0) ht37).symm⟩
   have ht38 : (ox.p.chk) = 0 := by simpa using hc36
   rw [if_neg (by simpa using ht38)] at hrest
   refine zz 5 ?_
   refine zo 0 A35 ?_
   refine zz 1 ?_
   refine zb 76 (b := ox.p.neg) (fun hc39 => ?_) (fun hc39 => ?_)
   ·
    have ht40 : ox.p.neg = true := by simpa using hc39
    refine zz 22 ?_
    refine zr' (v := .int .i64 1) ?_
    exact ⟨A35.upd, _, rfl, vint (ca_outs hc0 hl0 hl64 ((hrest.trans (if_pos (.inl ht40))).symm.trans hp13_0) (by decide)).symm⟩
   have ht41 : ox.p.neg = false := by simpa using hc39
   refine zz 2 ?_
   refine zo 0 A35 ?_
   refine zz 6 ?_
   refine zb 72 (b := ((lnx : Int) == 0)) (fun hc42 => ?_) (fun hc42 => ?_)
   ·
    have ht43 : (lnx : Int) = 0 := by simpa using hc42
    have hlnx := hLx.hlen
    refine zz 13 ?_
    refine zr' (v := .int .i64 1) ?_
    exact ⟨A35.upd, _, rfl, vint (ca_outs hc0 hl0 hl64 ((hrest.trans (if_pos (.inr (by omega)))).symm.trans hp13_0) (by decide)).symm⟩
   have ht44 : (lnx : Int) ≠ 0 := by simpa using hc42
   have hlnx := hLx.hlen
   have hnext := hrest.trans (if_neg (by rintro (e | e); rw [ht41] at e; cases e; omega))
   refine zz 7 ?_
   refine zw 83 (x := (k : Int) + 1) ?_
   refine zz 2 ?_
   have hc5_ := (Le4 j13 j16 j17 j32).trans j35
   refine znext (fun a h => G13 (k + 1) _ a h ⟨_, A35.tail, hc5_, hnext.symm.trans hp13_0, by omega⟩ ?_)
   first | omega | (simp <;> omega)
 have hco : chkOuts n none a.next = 0 := hp13_0.symm.trans (co_end (by omega))
 refine zz 9 ?_
 refine zn pn (.cells #[.bool false, .slice none 0 0, .slice none 0 0] 25 (0, 0)) A13 ?_
 intro b46 w46 Y46 A46 j46 hu46
 refine zx 0 #[.bool false, .slice none 0 0, .slice none 0 0] A46 ?_
 intro w47 A47 j47
 refine zz 7 ?_
 refine zo 1 A47 ?_
 refine zz 5 ?_
 refine zlp Tryz.f50 [K13] [1, 1, 1, 1, 0, 1, 0] (fun (k : Nat) => [(9, .pointer (some ⟨b46, 0, none⟩)), (86, .slice nx a.next.length cx), (87, .int .i64 (a.next.length : Int)), (88, .int .i64 (k : Int))]) (fun (k : Nat) w1 => ∃ (Y1 : Hid) (r : Raw) (ar : Option Addr) (lr : Nat) (cr : Nat) (br : Option Addr) (mr : Nat) (dr : Nat), St E0 w X w1 Y1 [(b46, .cells #[.bool r.neg, .slice ar lr cr, .slice br mr dr] 25 (0, 0)), (b3, .cells #[.bool a.cost.neg, .slice ad len cap, .slice ae le ce, .slice nx a.next.length cx] 63 (0, 0))] ∧ Le (rd w47 Y46) (rd w1 Y1) ∧ (Limbs (rd w1 Y1) ar lr cr r.ln) ∧ (Limbs (rd w1 Y1) br mr dr r.ld) ∧ (addL r ((a.next.map (·.p)).drop k) = addL .zero (a.next.map (·.p))) ∧ (k ≤ a.next.length)) (fun (k : Nat) => a.next.length - k) 0 ?_ ?_
 ·
  refine ⟨_, .zero, none, 0, 0, none, 0, 0, A47, Le.refl _, Limbs.nil none (by omega), Limbs.nil none (by omega), rfl, Nat.zero_le _⟩
 rintro k w48 K48 G48 ⟨Y48, r, ar, lr, cr, br, mr, dr, A48, j48, hp48_0, hp48_1, hp48_2, hp48_3⟩
 refine zz 6 ?_
 refine zt 89 (p := (k : Int) < (a.next.length : Int)) (fun ht49 => ?_) (fun ht49 => ?_)
 ·
  obtain ⟨b0, off0, rfl⟩ := hx.addr (by omega)
  obtain ⟨ox, anx, lnx, cnx, amx, lmx, cmx, hxx, hAx, hLx, hMx⟩ := hx.at (k := k) (by omega)
  have hmx : (a.next.map (·.p))[k]? = some ox.p := by rw [List.getElem?_map, hxx]; rfl
  refine zz 7 ?_
  refine zi (b := b0) (off := off0) (len := a.next.length) (cap := cx) (kd := .i64) (i := (k : Int)) 4 (off0 + k * 4) ?_
  have hc6_ := (Le5 j3 j5 j13 j46 j47).trans j48
  refine zl ((hAx.mono hc6_)).cells ?_
  refine zn pn (.cells #[.int .i64 0, .bool false, .slice none 0 0, .slice none 0 0] 60 (0, 0)) A48 ?_
  intro b51 w51 Y51 A51 j51 hu51
  refine zx 0 #[.int .i64 ox.to, .bool ox.p.neg, .slice anx lnx cnx, .slice amx lmx cmx] A51 ?_
  intro w52 A52 j52
  refine zz 4 ?_
  refine zo 1 A52 ?_
  refine zz 1 ?_
  refine zo 0 A52 ?_
  have hc7_ := (hc6_.trans j51).trans j52
  refine zc A52 (rAdd_c _ _ A52.lt r _ _ _ (hp48_0.mono (Le2 j51 j52)) _ _ _ (hp48_1.mono (Le2 j51 j52)) ox.p _ _ _ (hLx.mono hc7_) _ _ _ (hMx.mono hc7_)) ?_
  rintro v54 w54 A54 j54 hu54 ⟨u54, rfl, ⟨ad54, len54, cap54, ae54, le54, ce54, rfl, hN54, hD54⟩⟩
  refine zz 3 ?_
  refine zx 1 #[.bool ((opR r ox.p (r.rat + ox.p.rat)).neg), .slice ad54 len54 cap54, .slice ae54 le54 ce54] A54 ?_
  intro w55 A55 j55
  refine zz 9 ?_
  refine zb 100 (b := ((opE r ox.p (r.rat + ox.p.rat)) != 0)) (fun hc56 => ?_) (fun hc56 => ?_)
  ·
   have ht57 : (opE r ox.p (r.rat + ox.p.rat)) ≠ 0 := by simpa using hc56
   refine zz 13 ?_
   refine zr' (v := .int .i64 (opE r ox.p (r.rat + ox.p.rat))) ?_
   exact ⟨A55.upd, _, rfl, vint (ca_sum hc0 hl0 hl64 hco (congrArg Prod.snd ((addL_stop hmx ht57).symm.trans hp48_2)) ht57).symm⟩
  have ht58 : (opE r ox.p (r.rat + ox.p.rat)) = 0 := by simpa using hc56
  refine zz 6 ?_
  refine zw 102 (x := (k : Int) + 1) ?_
  refine zz 2 ?_
  have hc8_ := (Le4 j48 j51 j52 j54).trans j55
  refine znext (fun a h => G48 (k + 1) _ a h ⟨_, (opR r ox.p (r.rat + ox.p.rat)), ad54, len54, cap54, ae54, le54, ce54, A55.tail, hc8_, ((hN54.mono (Le.new A52.lt)).mono j55), ((hD54.mono (Le.new A52.lt)).mono j55), (addL_step hmx (by simpa using ht58)).symm.trans hp48_2, by omega⟩ ?_)
  first | omega | (simp <;> omega)
 have hsum := hp48_2.symm.trans (addL_end (by rw [List.length_map]; omega))
 refine zz 8 ?_
 refine zdr A48 ?_
 refine gw 0 0 ?_
 refine gC 1 (fun w59 Y59 _ A59 j59 => (rFrom_1 _ _ A59.lt)) ?_
 rintro v60 w59 Y60 w60 A59 j60 ⟨ad60, len60, cap60, ae60, le60, ce60, rfl, hN60, hD60⟩
 refine gC 2 (fun w61 Y61 _ A61 j61 => (rCmp_c _ _ A61.lt r _ _ _ (hp48_0.mono (Le2 j60 j61)) _ _ _ (hp48_1.mono (Le2 j60 j61)) (Raw.of 1) _ _ _ (hN60.mono j61) _ _ _ (hD60.mono j61))) ?_
 rintro v62 w61 Y62 w62 A61 j62 rfl
 refine gz [3, 4, 5, 6, 7] ?_
 refine gend (fun w63 Y63 A63 j63 => ?_)
 refine zz 7 ?_
 refine zb 110 (b := ((cmpR r (Raw.of 1)) != 0)) (fun hc64 => ?_) (fun hc64 => ?_)
 ·
  have ht65 : (cmpR r (Raw.of 1)) ≠ 0 := by simpa using hc64
  refine zz 8 ?_
  refine zr' (v := .int .i64 2) ?_
  exact ⟨A63.upd, _, rfl, vint ((ca_one hc0 hl0 hl64 hco hsum).trans (if_pos ht65)).symm⟩
 have ht66 : (cmpR r (Raw.of 1)) = 0 := by simpa using hc64
 refine zz 9 ?_
 refine zr' (v := .int .i64 0) ?_
 exact ⟨A63.upd, _, rfl, vint ((ca_one hc0 hl0 hl64 hco hsum).trans (if_neg (by simpa using ht66))).symm⟩
end Go.Proofs.YtoocgllbbihoaaaGreat
namespace Go.Proofs.YtoocgllbbihoaaaGreat
open Go Go.Gv Go.RowKit
set_option maxRecDepth 100000
set_option maxHeartbeats 1000000
section
variable {m : Mdp}
theorem mc_disc (h : m.disc.chk ≠ 0) : m.chk = m.disc.chk := by unfold Mdp.chk; rw [if_pos h]
theorem mc_big (h : m.disc.chk = 0) (h1 : m.disc.neg = true ∨ 0 < cmpR m.disc (.of 1)) : m.chk = 1 := by unfold Mdp.chk; rw [if_neg (by simpa using h), if_pos h1]
theorem mc_none (h : m.disc.chk = 0) (h1 : ¬ (m.disc.neg = true ∨ 0 < cmpR m.disc (.of 1))) (h2 : m.states.length = 0) : m.chk = 3 := by unfold Mdp.chk; rw [if_neg (by simpa using h), if_neg h1, if_pos h2]
theorem mc_many (h : m.disc.chk = 0) (h1 : ¬ (m.disc.neg = true ∨ 0 < cmpR m.disc (.of 1))) (h2 : 200 < m.states.length) : m.chk = 4 := by unfold Mdp.chk; rw [if_neg (by simpa using h), if_neg h1, if_neg (by omega), if_pos h2]
theorem mc_all {e : Int} (h : m.disc.chk = 0) (h1 : ¬ (m.disc.neg = true ∨ 0 < cmpR m.disc (.of 1))) (h2 : m.states.length ≠ 0) (h3 : m.states.length ≤ 200) (h4 : chkStates m.states.length m.states = e) : m.chk = e := by unfold Mdp.chk; rw [if_neg (by simpa using h), if_neg h1, if_neg h2, if_neg (by omega)]; exact h4
theorem mc_st {e : Int} (h : m.disc.chk = 0) (h1 : ¬ (m.disc.neg = true ∨ 0 < cmpR m.disc (.of 1))) (h2 : m.states.length ≠ 0) (h3 : m.states.length ≤ 200) (h4 : e = chkStates m.states.length m.states) (_ : e ≠ 0) : m.chk = e := mc_all h h1 h2 h3 h4.symm
end
theorem mCheck_c (w : World) (X : Hid) (hX : ∀ k o, X k o → k < w.heap.size) (m : Mdp) (ad : Option Addr) (len cap : Nat) (h : Limbs (rd w X) ad len cap m.disc.ln) (ae : Option Addr) (le ce : Nat) (h2 : Limbs (rd w X) ae le ce m.disc.ld) (st : Option Addr) (ls cs : Nat) (hst : StatesR (rd w X) st ls cs m.states) : Calls Tryz.prog 18 #[.agg #[.bool m.disc.neg, .slice ad len cap, .slice ae le ce, .slice st ls cs]] w (Ret E0 w fun _ v => v = .int .i64 m.chk) := by
 obtain rfl := hst.hlen
 have hcaps := hst.hcap
 have hbigs := hst.hbig
 refine zen Tryz.func18 ?_
 have A0 : St E0 w X w X [] := St.start hX
 refine zz 2 ?_
 refine zn pn (.cells #[.bool m.disc.neg, .slice ad len cap, .slice ae le ce, .slice st m.states.length cs] 28 (0, 0)) A0 ?_
 intro b3 w3 Y3 A3 j3 hu3
 refine zz 7 ?_
 refine zo 0 A3 ?_
 refine zc A3 (rcheck_c _ _ A3.lt m.disc _ _ _ (h.mono j3) _ _ _ (h2.mono j3)) ?_
 rintro v5 w5 A5 j5 hu5 rfl
 refine zz 9 ?_
 refine zb 15 (b := ((m.disc.chk) != 0)) (fun hc6 => ?_) (fun hc6 => ?_)
 ·
  have ht7 : (m.disc.chk) ≠ 0 := by simpa using hc6
  refine zz 9 ?_
  refine zr' (v := .int .i64 m.disc.chk) ?_
  exact ⟨A5.upd, _, rfl, vint (mc_disc ht7).symm⟩
 have ht8 : (m.disc.chk) = 0 := by simpa using hc6
 have hd0 : m.disc.chk = 0 := by simpa using ht8
 refine zz 4 ?_
 refine zdr A5 ?_
 refine gz [0] ?_
 refine gw 1 0 ?_
 refine gC 2 (fun w9 Y9 _ A9 j9 => (rFrom_1 _ _ A9.lt)) ?_
 rintro v10 w9 Y10 w10 A9 j10 ⟨ad10, len10, cap10, ae10, le10, ce10, rfl, hN10, hD10⟩
 have hc1_ := (Le2 j3 j5).trans j10
 refine gC 3 (fun w11 Y11 _ A11 j11 => (rCmp_c _ _ A11.lt m.disc _ _ _ (h.mono (hc1_.trans j11)) _ _ _ (h2.mono (hc1_.trans j11)) (Raw.of 1) _ _ _ (hN10.mono j11) _ _ _ (hD10.mono j11))) ?_
 rintro v12 w11 Y12 w12 A11 j12 rfl
 refine gz [4, 5, 6, 7, 8] ?_
 refine gend (fun w13 Y13 A13 j13 => ?_)
 refine zz 7 ?_
 refine zo 0 A13 ?_
 refine zz 1 ?_
 refine zb 28 (b := m.disc.neg) (fun hc14 => ?_) (fun hc14 => ?_)
 ·
  have ht15 : m.disc.neg = true := by simpa using hc14
  refine zz 15 ?_
  refine zr' (v := .int .i64 1) ?_
  exact ⟨A13.upd, _, rfl, vint (mc_big hd0 (.inl ht15)).symm⟩
 have ht16 : m.disc.neg = false := by simpa using hc14
 refine zz 6 ?_
 refine zt 24 (p := (cmpR m.disc (Raw.of 1)) > 0) (fun ht17 => ?_) (fun ht17 => ?_)
 ·
  refine zz 9 ?_
  refine zr' (v := .int .i64 1) ?_
  exact ⟨A13.upd, _, rfl, vint (mc_big hd0 (.inr (by omega))).symm⟩
 have hd1 : ¬ (m.disc.neg = true ∨ 0 < cmpR m.disc (.of 1)) := by rintro (e | e); rw [ht16] at e; cases e; omega
 refine zz 4 ?_
 refine zo 0 A13 ?_
 refine zz 5 ?_
 refine zb 32 (b := ((m.states.length : Int) == 0)) (fun hc18 => ?_) (fun hc18 => ?_)
 ·
  have ht19 : (m.states.length : Int) = 0 := by simpa using hc18
  refine zz 9 ?_
  refine zr' (v := .int .i64 3) ?_
  exact ⟨A13.upd, _, rfl, vint (mc_none hd0 hd1 (by omega)).symm⟩
 have ht20 : (m.states.length : Int) ≠ 0 := by simpa using hc18
 have hs0 : m.states.length ≠ 0 := by omega
 refine zz 4 ?_
 refine zo 0 A13 ?_
 refine zz 5 ?_
 refine zt 37 (p := (m.states.length : Int) > 200) (fun ht21 => ?_) (fun ht21 => ?_)
 ·
  refine zz 9 ?_
  refine zr' (v := .int .i64 4) ?_
  exact ⟨A13.upd, _, rfl, vint (mc_many hd0 hd1 (by omega)).symm⟩
 have hs1 : m.states.length ≤ 200 := by omega
 refine zz 8 ?_
 refine zo 0 A13 ?_
 refine zz 5 ?_
 refine zlp Tryz.f18 [] [1, 1, 1, 1, 0, 1, 0] (fun (k : Nat) => [(1, .pointer (some ⟨b3, 0, none⟩)), (43, .slice st m.states.length cs), (44, .int .i64 (m.states.length : Int)), (45, .int .i64 (k : Int))]) (fun (k : Nat) w1 => ∃ (Y1 : Hid), St E0 w X w1 Y1 [(b3, .cells #[.bool m.disc.neg, .slice ad len cap, .slice ae le ce, .slice st m.states.length cs] 28 (0, 0))] ∧ Le (rd w13 Y13) (rd w1 Y1) ∧ (chkStates m.states.length (m.states.drop k) = chkStates m.states.length m.states) ∧ (k ≤ m.states.length)) (fun (k : Nat) => m.states.length - k) 0 ?_ ?_
 ·
  refine ⟨_, A13, Le.refl _, rfl, Nat.zero_le _⟩
 rintro k w22 K22 G22 ⟨Y22, A22, j22, hp22_0, hp22_1⟩
 have hkO := hp22_1
 refine zz 6 ?_
 refine zt 46 (p := (k : Int) < (m.states.length : Int)) (fun ht23 => ?_) (fun ht23 => ?_)
 ·
  obtain ⟨b0, off0, rfl⟩ := hst.addr (by omega)
  obtain ⟨sx, ax, lx, cx, hxs, hAs, hacts⟩ := hst.at (k := k) (by omega)
  obtain rfl := hacts.hlen
  have hcapx := hacts.hcap
  have hbigx := hacts.hbig
  have hAs1 : At (rd w X) ⟨b0, off0 + k, none⟩ [.slice ax sx.length cx] := by simpa using hAs
  refine zz 7 ?_
  refine zi (b := b0) (off := off0) (len := m.states.length) (cap := cs) (kd := .i64) (i := (k : Int)) 1 (off0 + k) ?_
  have hc2_ := ((hc1_.trans j12).trans j13).trans j22
  refine zl ((hAs1.mono hc2_)).cells ?_
  refine zz 13 ?_
  refine zb 49 (b := ((sx.length : Int) == 0)) (fun hc24 => ?_) (fun hc24 => ?_)
  ·
   have ht25 : (sx.length : Int) = 0 := by simpa using hc24
   refine zz 14 ?_
   refine zr' (v := .int .i64 3) ?_
   exact ⟨A22.upd, _, rfl, vint (mc_st hd0 hd1 hs0 hs1 ((cs_none hxs (by omega)).symm.trans hp22_0) (by decide)).symm⟩
  have ht26 : (sx.length : Int) ≠ 0 := by simpa using hc24
  have hz : sx.length ≠ 0 := by omega
  refine zz 9 ?_
  refine zt 53 (p := (sx.length : Int) > 6) (fun ht27 => ?_) (fun ht27 => ?_)
  ·
   refine zz 14 ?_
   refine zr' (v := .int .i64 4) ?_
   exact ⟨A22.upd, _, rfl, vint (mc_st hd0 hd1 hs0 hs1 ((cs_many hxs hz (by omega)).symm.trans hp22_0) (by decide)).symm⟩
  have hz6 : sx.length ≤ 6 := by omega
  refine zz 12 ?_
  refine zlp Tryz.f18 [K22] [1, 1, 1, 1, 0, 1, 0, 0, 1, 1, 0, 0, 1, 1, 1, 0] (fun (j : Nat) => [(1, .pointer (some ⟨b3, 0, none⟩)), (43, .slice (some ⟨b0, off0, none⟩) m.states.length cs), (44, .int .i64 (m.states.length : Int)), (45, .int .i64 (k : Int)), (57, .slice ax sx.length cx), (58, .int .i64 (sx.length : Int)), (59, .int .i64 (j : Int))]) (fun (j : Nat) w1 => ∃ (Y1 : Hid), St E0 w X w1 Y1 [(b3, .cells #[.bool m.disc.neg, .slice ad len cap, .slice ae le ce, .slice (some ⟨b0, off0, none⟩) m.states.length cs] 28 (0, 0))] ∧ Le (rd w22 Y22) (rd w1 Y1) ∧ (chkActs m.states.length (sx.drop j) = chkActs m.states.length sx) ∧ (j ≤ sx.length)) (fun (j : Nat) => sx.length - j) 0 ?_ ?_
  ·
   refine ⟨_, A22, Le.refl _, rfl, Nat.zero_le _⟩
  rintro j w28 K28 G28 ⟨Y28, A28, j28, hp28_0, hp28_1⟩
  refine zz 6 ?_
  refine zt 60 (p := (j : Int) < (sx.length : Int)) (fun ht29 => ?_) (fun ht29 => ?_)
  ·
   obtain ⟨b1, off1, rfl⟩ := hacts.addr (by omega)
   obtain ⟨xa, a1, a2, a3, a4, a5, a6, a7, a8, a9, hxa, hAa, hLa, hMa, hOa⟩ := hacts.at (k := j) (by omega)
   refine zz 7 ?_
   refine zi (b := b1) (off := off1) (len := sx.length) (cap := cx) (kd := .i64) (i := (j : Int)) 4 (off1 + j * 4) ?_
   have hc3_ := hc2_.trans j28
   refine zl ((hAa.mono hc3_)).cells ?_
   refine zn pn (.cells #[.bool false, .slice none 0 0, .slice none 0 0, .slice none 0 0] 63 (0, 0)) A28 ?_
   intro b31 w31 Y31 A31 j31 hu31
   refine zx 0 #[.bool xa.cost.neg, .slice a1 a2 a3, .slice a4 a5 a6, .slice a7 a8 a9] A31 ?_
   intro w32 A32 j32
   refine zz 4 ?_
   refine zo 0 A32 ?_
   refine zz 1 ?_
   refine zo 1 A32 ?_
   refine zz 1 ?_
   have hc4_ := (hc3_.trans j31).trans j32
   refine zc A32 (checkAction_c _ _ A32.lt xa _ _ _ (hLa.mono hc4_) _ _ _ (hMa.mono hc4_) _ _ _ (hOa.mono hc4_) m.states.length (by omega)) ?_
   rintro v34 w34 A34 j34 hu34 rfl
   refine zz 9 ?_
   refine zb 69 (b := ((chkAct m.states.length xa) != 0)) (fun hc35 => ?_) (fun hc35 => ?_)
   ·
    have ht36 : (chkAct m.states.length xa) ≠ 0 := by simpa using hc35
    refine zz 17 ?_
    refine zr' (v := .int .i64 (chkAct m.states.length xa)) ?_
    exact ⟨A34.upd, _, rfl, vint (mc_st hd0 hd1 hs0 hs1 ((cs_acts hxs hz hz6 ((cac_stop hxa ht36).symm.trans hp28_0).symm ht36).symm.trans hp22_0) ht36).symm⟩
   have ht37 : (chkAct m.states.length xa) = 0 := by simpa using hc35
   refine zz 6 ?_
   refine zw 71 (x := (j : Int) + 1) ?_
   refine zz 2 ?_
   have hc5_ := (Le3 j28 j31 j32).trans j34
   refine znext (fun a h => G28 (j + 1) _ a h ⟨_, A34.tail, hc5_, (cac_next hxa (by simpa using ht37)).symm.trans hp28_0, by omega⟩ ?_)
   first | omega | (simp <;> omega)
  have hnext := cs_next hxs hz hz6 (hp28_0.symm.trans (cac_end (by omega)))
  refine zz 9 ?_
  refine zw 72 (x := (k : Int) + 1) ?_
  refine zz 2 ?_
  refine znext (fun a h => G22 (k + 1) _ a h ⟨_, A28, (Le2 j22 j28), hnext.symm.trans hp22_0, by omega⟩ ?_)
  first | omega | (simp <;> omega)
 refine zz 12 ?_
 refine zr' (v := .int .i64 0) ?_
 exact ⟨A22.upd, _, rfl, vint (mc_all hd0 hd1 hs0 hs1 (hp22_0.symm.trans (cs_end (by omega)))).symm⟩
end Go.Proofs.YtoocgllbbihoaaaGreat
namespace Go.Proofs.YtoocgllbbihoaaaGreat
open Go Go.Gv Go.RowKit
set_option maxRecDepth 100000
set_option maxHeartbeats 1000000
theorem mcheck_c (w : World) (X : Hid) (hX : ∀ k o, X k o → k < w.heap.size) (m : Mdp) (ad : Option Addr) (len cap : Nat) (h : Limbs (rd w X) ad len cap m.disc.ln) (ae : Option Addr) (le ce : Nat) (h2 : Limbs (rd w X) ae le ce m.disc.ld) (st : Option Addr) (ls cs : Nat) (hst : StatesR (rd w X) st ls cs m.states) (av : Option Addr) (lv cv : Nat) (v : List Raw) (hlv : lv = v.length) (hbv : lv ≤ 4611686018427387904) : Calls Tryz.prog 42 #[.agg #[.bool m.disc.neg, .slice ad len cap, .slice ae le ce, .slice st ls cs], .slice av lv cv] w (Ret E0 w fun _ u => u = .int .i64 (m.chkV v)) := by
 subst hlv
 obtain rfl := hst.hlen
 have hcaps := hst.hcap
 have hbigs := hst.hbig
 refine zen Tryz.func42 ?_
 have A0 : St E0 w X w X [] := St.start hX
 refine zz 2 ?_
 refine zn pn (.cells #[.bool m.disc.neg, .slice ad len cap, .slice ae le ce, .slice st m.states.length cs] 28 (0, 0)) A0 ?_
 intro b3 w3 Y3 A3 j3 hu3
 refine zz 6 ?_
 refine zo 0 A3 ?_
 refine zc A3 (mCheck_c _ _ A3.lt m _ _ _ (h.mono j3) _ _ _ (h2.mono j3) _ _ _ (hst.mono j3)) ?_
 rintro v5 w5 A5 j5 hu5 rfl
 refine zz 11 ?_
 refine zb 8 (b := ((m.chk) != 0)) (fun hc6 => ?_) (fun hc6 => ?_)
 ·
  have ht7 : (m.chk) ≠ 0 := by simpa using hc6
  refine zz 10 ?_
  refine zr' (v := .int .i64 m.chk) ?_
  exact ⟨A5.upd, _, rfl, vint (show _ = Mdp.chkV m v from (if_pos ht7).symm)⟩
 have ht8 : (m.chk) = 0 := by simpa using hc6
 have hm0 : ¬ m.chk ≠ 0 := by simpa using ht8
 refine zz 6 ?_
 refine zo 0 A5 ?_
 refine zz 5 ?_
 refine zb 12 (b := ((v.length : Int) != (m.states.length : Int))) (fun hc9 => ?_) (fun hc9 => ?_)
 ·
  have ht10 : (v.length : Int) ≠ (m.states.length : Int) := by simpa using hc9
  refine zz 9 ?_
  refine zr' (v := .int .i64 16) ?_
  exact ⟨A5.upd, _, rfl, vint (show _ = Mdp.chkV m v from ((if_neg hm0).trans (if_pos (by omega))).symm)⟩
 have ht11 : (v.length : Int) = (m.states.length : Int) := by simpa using hc9
 refine zz 10 ?_
 refine zr' (v := .int .i64 0) ?_
 exact ⟨A5.upd, _, rfl, vint (show _ = Mdp.chkV m v from ((if_neg hm0).trans (if_neg (by omega))).symm)⟩
end Go.Proofs.YtoocgllbbihoaaaGreat
namespace Go.Proofs.YtoocgllbbihoaaaGreat
open Go Go.Gv Go.RowKit
set_option maxRecDepth 100000
set_option maxHeartbeats 1000000
section
variable {d : Raw} {v : List Raw} {a : Actn}
variable {D : Raw × Int} (hD : D = (dotV (a.next.map (·.p)) (a.next.map (pick v))))
include hD
theorem sc_dot (h : D.2 ≠ 0) : scoreV d v a = (.zero, D.2) := by subst hD; exact if_pos h
theorem sc_mul (h : D.2 = 0) (h2 : opE d D.1 (d.rat * D.1.rat) ≠ 0) : scoreV d v a = (.zero, opE d D.1 (d.rat * D.1.rat)) := by subst hD; exact (if_neg (by simpa using h)).trans (if_pos h2)
theorem sc_add (h : D.2 = 0) (h2 : opE d D.1 (d.rat * D.1.rat) = 0) : scoreV d v a = (opR a.cost (opR d D.1 (d.rat * D.1.rat)) (a.cost.rat + (opR d D.1 (d.rat * D.1.rat)).rat), opE a.cost (opR d D.1 (d.rat * D.1.rat)) (a.cost.rat + (opR d D.1 (d.rat * D.1.rat)).rat)) := by subst hD; exact (if_neg (by simpa using h)).trans (if_neg (by simpa using h2))
omit hD
theorem take_snoc {α : Type} {l : List α} {k : Nat} {x : α} (h : l[k]? = some x) : l.take (k + 1) = l.take k ++ [x] := by rw [List.take_add_one, h]; rfl
theorem row_len {es : List RE} {l : List Raw} {k : Nat} (h : es.map (·.x) = l.take k) (hk : k ≤ l.length) : k = es.length := by
  have := congrArg List.length h
  rw [List.length_map, List.length_take] at this; omega
end
theorem rDot_g (w : World) (X : Hid) (hX : ∀ k o, X k o → k < w.heap.size) (ad : Option Addr) (len cap : Nat) (xs : List Raw) (h : Rats (rd w X) ad len cap xs) (ad2 : Option Addr) (len2 cap2 : Nat) (ys : List Raw) (h2 : Rats (rd w X) ad2 len2 cap2 ys) (hm : len ≤ 1099511627776) (hm2 : len2 ≤ 1099511627776) : Calls Tryz.prog 72 #[.slice ad len cap, .slice ad2 len2 cap2] w (Ret E0 w fun w' v => ∃ D : Raw × Int, D = dotV xs ys ∧ ∃ u, v = .tuple #[u, .int .i64 D.2] ∧ RawX X w' u D.1) :=
  (rDot_c w X hX ad len cap xs h ad2 len2 cap2 ys h2 hm hm2).mono (by rintro e w' ⟨hu, v, rfl, h⟩; exact ⟨hu, _, rfl, _, rfl, h⟩)
theorem score_c (w : World) (X : Hid) (hX : ∀ k o, X k o → k < w.heap.size) (d : Raw) (ad : Option Addr) (len cap : Nat) (h : Limbs (rd w X) ad len cap d.ln) (ae : Option Addr) (le ce : Nat) (h2 : Limbs (rd w X) ae le ce d.ld) (st : Option Addr) (ls cs : Nat) (v : List Raw) (av : Option Addr) (lv cv : Nat) (hv : Rats (rd w X) av lv cv v) (hlv : lv ≤ 1099511627776) (a : Actn) (ad2 : Option Addr) (len2 cap2 : Nat) (h3 : Limbs (rd w X) ad2 len2 cap2 a.cost.ln) (ae2 : Option Addr) (le2 ce2 : Nat) (h4 : Limbs (rd w X) ae2 le2 ce2 a.cost.ld) (nx : Option Addr) (lx cx : Nat) (hx : OutsR (rd w X) nx lx cx a.next) (hn : a.next.length ≤ 1000000) (hto : ∀ o ∈ a.next, 0 ≤ o.to ∧ o.to < v.length) : Calls Tryz.prog 43 #[.agg #[.bool d.neg, .slice ad len cap, .slice ae le ce, .slice st ls cs], .slice av lv cv, .agg #[.bool a.cost.neg, .slice ad2 len2 cap2, .slice ae2 le2 ce2, .slice nx lx cx]] w (Ret E0 w fun w' u => ∃ x, u = .tuple #[x, .int .i64 (scoreV d v a).2] ∧ RawX (old w) w' x (scoreV d v a).1) := by
 obtain rfl := hx.hlen
 have hcapx := hx.hcap
 have hbigx := hx.hbig
 obtain rfl := hv.hlen
 have hcapv := hv.hcap
 have hbigv := hv.hbig
 refine zen Tryz.func43 ?_
 have A0 : St E0 w X w X [] := St.start hX
 refine zz 2 ?_
 refine zn pn (.cells #[.bool d.neg, .slice ad len cap, .slice ae le ce, .slice st ls cs] 28 (0, 0)) A0 ?_
 intro b3 w3 Y3 A3 j3 hu3
 refine zn pn (.cells #[.bool a.cost.neg, .slice ad2 len2 cap2, .slice ae2 le2 ce2, .slice nx a.next.length cx] 63 (0, 0)) A3 ?_
 intro b5 w5 Y5 A5 j5 hu5
 refine zn pn (.cells #[.bool false, .slice none 0 0, .slice none 0 0] 25 (0, 0)) A5 ?_
 intro b7 w7 Y7 A7 j7 hu7
 refine zz 13 ?_
 refine zo 1 A7 ?_
 refine zz 5 ?_
 refine zlp Tryz.f43 [] [1, 1, 0, 1, 0] (fun ((k, ad8, cap8, ad9, cap9) : Nat × (Option Addr) × Nat × (Option Addr) × Nat) => [(1, .slice av v.length cv), (3, .pointer (some ⟨b3, 0, none⟩)), (5, .pointer (some ⟨b5, 0, none⟩)), (6, .pointer (some ⟨b7, 0, none⟩)), (8, .slice ad8 k cap8), (9, .slice ad9 k cap9), (15, .slice nx a.next.length cx), (16, .int .i64 (a.next.length : Int)), (17, .int .i64 (k : Int))]) (fun ((k, ad8, cap8, ad9, cap9) : Nat × (Option Addr) × Nat × (Option Addr) × Nat) w1 => ∃ (Y1 : Hid) (rb1 : List (Nat × Obj)) (es1 : List RE) (rb2 : List (Nat × Obj)) (es2 : List RE), St E0 w X w1 Y1 ((b7, .cells #[.bool false, .slice none 0 0, .slice none 0 0] 25 (0, 0)) :: (b5, .cells #[.bool a.cost.neg, .slice ad2 len2 cap2, .slice ae2 le2 ce2, .slice nx a.next.length cx] 63 (0, 0)) :: (b3, .cells #[.bool d.neg, .slice ad len cap, .slice ae le ce, .slice st ls cs] 28 (0, 0)) :: (rb1 ++ rb2)) ∧ Le (rd w7 Y7) (rd w1 Y1) ∧ (TRow 25 3 rb1 ad8 k cap8 (flat es1)) ∧ (es1.map (·.x) = (a.next.map (·.p)).take k) ∧ (∀ e ∈ es1, e.ok (rd w1 Y1)) ∧ (TRow 25 3 rb2 ad9 k cap9 (flat es2)) ∧ (es2.map (·.x) = (a.next.map (pick v)).take k) ∧ (∀ e ∈ es2, e.ok (rd w1 Y1)) ∧ (k ≤ a.next.length)) (fun ((k, ad8, cap8, ad9, cap9) : Nat × (Option Addr) × Nat × (Option Addr) × Nat) => a.next.length - k) (0, none, 0, none, 0) ?_ ?_
 ·
  refine ⟨_, [], [], [], [], A7, Le.refl _, TRow.nil _ _, rfl, fun _ h => absurd h (by simp), TRow.nil _ _, rfl, fun _ h => absurd h (by simp), Nat.zero_le _⟩
 rintro ⟨k, ad8, cap8, ad9, cap9⟩ w8 K8 G8 ⟨Y8, rb1, es1, rb2, es2, A8, j8, hp8_0, hp8_1, hp8_2, hp8_3, hp8_4, hp8_5, hp8_6⟩
 have hr1 := hp8_0
 have hq1 := hp8_1
 have hk1 := hp8_2
 have hr2 := hp8_3
 have hq2 := hp8_4
 have hk2 := hp8_5
 have hkl := hp8_6
 refine zz 6 ?_
 refine zt 18 (p := (k : Int) < (a.next.length : Int)) (fun ht9 => ?_) (fun ht9 => ?_)
 ·
  obtain ⟨b0, off0, rfl⟩ := hx.addr (by omega)
  obtain ⟨ox, anx, lnx, cnx, amx, lmx, cmx, hxx, hAx, hLx, hMx⟩ := hx.at (k := k) (by omega)
  have hto0 := hto ox (List.mem_of_getElem? hxx)
  obtain ⟨bz, offz, xz, anz, lnz, cnz, amz, lmz, cmz, rfl, hxz, hAz, hLz, hMz⟩ := hv.cell (k := ox.to.toNat) (by omega)
  have hmx : (a.next.map (·.p))[k]? = some ox.p := by rw [List.getElem?_map, hxx]; rfl
  have hmv : (a.next.map (pick v))[k]? = some xz := by rw [List.getElem?_map, hxx]; show some (v.getD _ _) = _; rw [List.getD_eq_getElem?_getD, hxz]; rfl
  refine zz 7 ?_
  refine zi (b := b0) (off := off0) (len := a.next.length) (cap := cx) (kd := .i64) (i := (k : Int)) 4 (off0 + k * 4) ?_
  have hc1_ := (Le3 j3 j5 j7).trans j8
  refine zl ((hAx.mono hc1_)).cells ?_
  refine zn pn (.cells #[.int .i64 0, .bool false, .slice none 0 0, .slice none 0 0] 60 (0, 0)) A8 ?_
  intro b11 w11 Y11 A11 j11 hu11
  refine zx 0 #[.int .i64 ox.to, .bool ox.p.neg, .slice anx lnx cnx, .slice amx lmx cmx] A11 ?_
  intro w12 A12 j12
  refine zz 2 ?_
  refine zdraw [0, 1, 2, 3] A12 ?_
  refine gz [0, 1] ?_
  refine gw 2 0 ?_
  refine gz [5, 6, 7] ?_
  refine gw 8 0 ?_
  refine gi 9 (b := bz) (off := offz) (len := v.length) (cap := cv) (kd := .i64) (i := ox.to) 3 (offz + ox.to.toNat * 3) ?_
  have hc2_ := (hc1_.trans j11).trans j12
  refine gl 10 ((hAz.mono hc2_)) ?_
  refine gp (al 11 32 (fun b => .slice (some ⟨b, 0, none⟩) 1 1) (.cells #[.bool xz.neg, .slice anz lnz cnz, .slice amz lmz cmz] 25 (0, 0))) ?_
  refine gp (al 3 24 (fun b => .slice (some ⟨b, 0, none⟩) 1 1) (.cells #[.bool ox.p.neg, .slice anx lnx cnx, .slice amx lmx cmx] 25 (0, 0))) ?_
  refine gs1 (fun b13 => ?_) PdOk.nil.k.k
  refine g_op 4 (fun a14 w14 Y14 B14 C14 A14 j14 => ?_) PdOk.nil.k
  refine op_appBZ (b := 56) (m := 1) (c := 1) (ad := ⟨b13, 0, none⟩) (news := [.bool ox.p.neg, .slice anx lnx cnx, .slice amx lmx cmx]) (i0 := Tryz.t25) (R1 := []) (B := rb2) 5 C14 A14 rfl hr1 (A14.cells 0 rfl rfl) (by omega) (by omega) ?_
  intro rb15 ad15 cap15 w15 Y15 hrow15 A15 j15 a16 C16
  have hrw15 : TRow 25 3 rb15 ad15 (k + 1) cap15 (flat (es1 ++ [(RE.mk ox.p anx lnx cnx amx lmx cmx)])) := by rw [flat_snoc]; exact hrow15
  refine ⟨_, _, _, _, C16, A15, Le.refl _, .inr ⟨fun _ => selm [1, 2, 3, 4], (Le2 j14 j15)⟩, ?_⟩
  refine gs1 (fun b17 => ?_) PdOk.nil.k
  refine gO 12 (fun a18 w18 Y18 C18 A18 j18 => ?_)
  refine op_appEZ (b := 56) (m := 1) (c := 1) (ad := ⟨b17, 0, none⟩) (news := [.bool xz.neg, .slice anz lnz cnz, .slice amz lmz cmz]) (i0 := Tryz.t25) (R1 := rb15) 6 C18 A18 rfl hr2 (A18.cells 0 rfl rfl) (by omega) (by omega) ?_
  intro rb19 ad19 cap19 w19 Y19 hrow19 A19 j19 a20 C20
  have hrw19 : TRow 25 3 rb19 ad19 (k + 1) cap19 (flat (es2 ++ [(RE.mk xz anz lnz cnz amz lmz cmz)])) := by rw [flat_snoc]; exact hrow19
  refine ⟨_, _, _, _, C20, A19, Le.refl _, .inr ⟨fun _ => selm [2, 3, 4, 5], (Le2 j18 j19)⟩, ?_⟩
  refine gz [13, 14] ?_
  refine gend (fun w21 Y21 A21 j21 => ?_)
  refine zz 4 ?_
  refine zw 34 (x := (k : Int) + 1) ?_
  refine zz 2 ?_
  have hc3_ := (Le6 j11 j12 j14 j15 j18 j19).trans j21
  have hc4_ := ((((((hc1_.trans j11).trans j12).trans j14).trans j15).trans j18).trans j19).trans j21
  have hc5_ := (Le7 j8 j11 j12 j14 j15 j18 j19).trans j21
  refine znext (fun a h => G8 ((k + 1, ad15, cap15, ad19, cap19)) _ a h ⟨_, rb15, (es1 ++ [(RE.mk ox.p anx lnx cnx amx lmx cmx)]), rb19, (es2 ++ [(RE.mk xz anz lnz cnz amz lmz cmz)]), A21.tail.tail.tail, hc5_, hrw15, by rw [List.map_append, hq1, take_snoc hmx]; rfl, fun e he => by rcases List.mem_append.1 he with h1 | h1; exact (hk1 e h1).mono hc3_; obtain rfl := List.mem_singleton.1 h1; exact ⟨(hLx.mono hc4_), (hMx.mono hc4_)⟩, hrw19, by rw [List.map_append, hq2, take_snoc hmv]; rfl, fun e he => by rcases List.mem_append.1 he with h1 | h1; exact (hk2 e h1).mono hc3_; obtain rfl := List.mem_singleton.1 h1; exact ⟨(hLz.mono hc4_), (hMz.mono hc4_)⟩, by omega⟩ ?_)
  first | omega | (simp <;> omega)
 refine zz 10 ?_
 have hke : k = a.next.length := by omega
 have e1 : es1.map (·.x) = a.next.map (·.p) := hq1.trans (List.take_of_length_le (by rw [List.length_map]; omega))
 have e2 : es2.map (·.x) = a.next.map (pick v) := hq2.trans (List.take_of_length_le (by rw [List.length_map]; omega))
 obtain ⟨Y23, hSx23, j23, hRx23⟩ := St.pubRats (A := [(b7, .cells #[.bool false, .slice none 0 0, .slice none 0 0] 25 (0, 0)), (b5, .cells #[.bool a.cost.neg, .slice ad2 len2 cap2, .slice ae2 le2 ce2, .slice nx a.next.length cx] 63 (0, 0)), (b3, .cells #[.bool d.neg, .slice ad len cap, .slice ae le ce, .slice st ls cs] 28 (0, 0))]) (B := rb2) (fun rb => ((b7, .cells #[.bool false, .slice none 0 0, .slice none 0 0] 25 (0, 0)) :: (b5, .cells #[.bool a.cost.neg, .slice ad2 len2 cap2, .slice ae2 le2 ce2, .slice nx a.next.length cx] 63 (0, 0)) :: (b3, .cells #[.bool d.neg, .slice ad len cap, .slice ae le ce, .slice st ls cs] 28 (0, 0)) :: (rb ++ rb2))) A8 (fun _ => by simp only [List.append_assoc, List.cons_append, List.nil_append, List.append_nil]) hr1 (row_len hq1 (by rw [List.length_map]; omega)) (fun e he => (hk1 e he).mono (Le.refl _))
 have A23 : St E0 w X w8 Y23 ((b7, .cells #[.bool false, .slice none 0 0, .slice none 0 0] 25 (0, 0)) :: (b5, .cells #[.bool a.cost.neg, .slice ad2 len2 cap2, .slice ae2 le2 ce2, .slice nx a.next.length cx] 63 (0, 0)) :: (b3, .cells #[.bool d.neg, .slice ad len cap, .slice ae le ce, .slice st ls cs] 28 (0, 0)) :: rb2) := hSx23
 have hR23 : Rats (rd w8 Y23) ad8 k cap8 (a.next.map (·.p)) := by have h9 := hRx23; rwa [e1] at h9
 obtain ⟨Y24, hSx24, j24, hRx24⟩ := St.pubRats (A := [(b7, .cells #[.bool false, .slice none 0 0, .slice none 0 0] 25 (0, 0)), (b5, .cells #[.bool a.cost.neg, .slice ad2 len2 cap2, .slice ae2 le2 ce2, .slice nx a.next.length cx] 63 (0, 0)), (b3, .cells #[.bool d.neg, .slice ad len cap, .slice ae le ce, .slice st ls cs] 28 (0, 0))]) (B := []) (fun rb => ((b7, .cells #[.bool false, .slice none 0 0, .slice none 0 0] 25 (0, 0)) :: (b5, .cells #[.bool a.cost.neg, .slice ad2 len2 cap2, .slice ae2 le2 ce2, .slice nx a.next.length cx] 63 (0, 0)) :: (b3, .cells #[.bool d.neg, .slice ad len cap, .slice ae le ce, .slice st ls cs] 28 (0, 0)) :: rb)) A23 (fun _ => by simp only [List.append_assoc, List.cons_append, List.nil_append, List.append_nil]) hr2 (row_len hq2 (by rw [List.length_map]; omega)) (fun e he => (hk2 e he).mono j23)
 have A24 : St E0 w X w8 Y24 [(b7, .cells #[.bool false, .slice none 0 0, .slice none 0 0] 25 (0, 0)), (b5, .cells #[.bool a.cost.neg, .slice ad2 len2 cap2, .slice ae2 le2 ce2, .slice nx a.next.length cx] 63 (0, 0)), (b3, .cells #[.bool d.neg, .slice ad len cap, .slice ae le ce, .slice st ls cs] 28 (0, 0))] := hSx24
 have hR24 : Rats (rd w8 Y24) ad9 k cap9 (a.next.map (pick v)) := by have h9 := hRx24; rwa [e2] at h9
 refine zc A24 (rDot_g _ _ A24.lt _ _ _ _ (hR23.mono j24) _ _ _ _ hR24 (by omega) (by omega)) ?_
 rintro v25 w25 A25 j25 hu25 ⟨D, hDv, u25, rfl, ⟨ad25, len25, cap25, ae25, le25, ce25, rfl, hN25, hD25⟩⟩
 refine zz 3 ?_
 refine zn pn (.cells #[.bool false, .slice none 0 0, .slice none 0 0] 25 (0, 0)) A25 ?_
 intro b27 w27 Y27 A27 j27 hu27
 refine zx 0 #[.bool D.1.neg, .slice ad25 len25 cap25, .slice ae25 le25 ce25] A27 ?_
 intro w28 A28 j28
 refine zz 10 ?_
 refine zb 42 (b := ((D.2) != 0)) (fun hc29 => ?_) (fun hc29 => ?_)
 ·
  have ht30 : (D.2) ≠ 0 := by simpa using hc29
  refine zz 5 ?_
  refine zx 1 #[.bool false, .slice none 0 0, .slice none 0 0] A28 ?_
  intro w31 A31 j31
  refine zz 5 ?_
  refine zrS [.cell 6 25, .tmp 7] (v := .tuple #[.agg #[.bool false, .slice none 0 0, .slice none 0 0], .int .i64 D.2]) (Res.cM A31 1 (Res.tZ Res.nil)) ?_
  have hend := (sc_dot hDv ht30 : scoreV d v a = _)
  exact ⟨A31.upd, _, rfl, _, by rw [hend], by rw [hend]; exact raw_zero⟩
 have ht32 : (D.2) = 0 := by simpa using hc29
 refine zz 7 ?_
 refine zo 3 A28 ?_
 refine zo 0 A28 ?_
 have hc6_ := (Le8 j3 j5 j7 j8 j23 j24 j25 j27).trans j28
 refine zc A28 (rMul_c _ _ A28.lt d _ _ _ (h.mono hc6_) _ _ _ (h2.mono hc6_) D.1 _ _ _ (hN25.mono (Le2 j27 j28)) _ _ _ (hD25.mono (Le2 j27 j28))) ?_
 rintro v34 w34 A34 j34 hu34 ⟨u34, rfl, ⟨ad34, len34, cap34, ae34, le34, ce34, rfl, hN34, hD34⟩⟩
 refine zz 3 ?_
 refine zx 0 #[.bool ((opR d D.1 (d.rat * D.1.rat)).neg), .slice ad34 len34 cap34, .slice ae34 le34 ce34] A34 ?_
 intro w35 A35 j35
 refine zz 9 ?_
 refine zb 53 (b := ((opE d D.1 (d.rat * D.1.rat)) != 0)) (fun hc36 => ?_) (fun hc36 => ?_)
 ·
  have ht37 : (opE d D.1 (d.rat * D.1.rat)) ≠ 0 := by simpa using hc36
  refine zz 5 ?_
  refine zx 1 #[.bool false, .slice none 0 0, .slice none 0 0] A35 ?_
  intro w38 A38 j38
  refine zz 5 ?_
  refine zrS [.cell 6 25, .tmp 7] (v := .tuple #[.agg #[.bool false, .slice none 0 0, .slice none 0 0], .int .i64 (opE d D.1 (d.rat * D.1.rat))]) (Res.cM A38 1 (Res.tZ Res.nil)) ?_
  have hend := (sc_mul hDv (by simpa using ht32) ht37 : scoreV d v a = _)
  exact ⟨A38.upd, _, rfl, _, by rw [hend], by rw [hend]; exact raw_zero⟩
 have ht39 : (opE d D.1 (d.rat * D.1.rat)) = 0 := by simpa using hc36
 refine zz 6 ?_
 refine zo 2 A35 ?_
 refine zo 0 A35 ?_
 have hc7_ := (hc6_.trans j34).trans j35
 refine zc A35 (rAdd_c _ _ A35.lt a.cost _ _ _ (h3.mono hc7_) _ _ _ (h4.mono hc7_) (opR d D.1 (d.rat * D.1.rat)) _ _ _ ((hN34.mono (Le.new A28.lt)).mono j35) _ _ _ ((hD34.mono (Le.new A28.lt)).mono j35)) ?_
 rintro v41 w41 A41 j41 hu41 ⟨u41, rfl, ⟨ad41, len41, cap41, ae41, le41, ce41, rfl, hN41, hD41⟩⟩
 refine zz 2 ?_
 refine zx 1 #[.bool ((opR a.cost (opR d D.1 (d.rat * D.1.rat)) (a.cost.rat + (opR d D.1 (d.rat * D.1.rat)).rat)).neg), .slice ad41 len41 cap41, .slice ae41 le41 ce41] A41 ?_
 intro w42 A42 j42
 refine zz 4 ?_
 refine zrS [.cell 6 25, .tmp 7] (v := .tuple #[.agg #[.bool ((opR a.cost (opR d D.1 (d.rat * D.1.rat)) (a.cost.rat + (opR d D.1 (d.rat * D.1.rat)).rat)).neg), .slice ad41 len41 cap41, .slice ae41 le41 ce41], .int .i64 (opE a.cost (opR d D.1 (d.rat * D.1.rat)) (a.cost.rat + (opR d D.1 (d.rat * D.1.rat)).rat))]) (Res.cM A42 1 (Res.tZ Res.nil)) ?_
 have hend := (sc_add hDv (by simpa using ht32) (by simpa using ht39) : scoreV d v a = _)
 exact ⟨A42.upd, _, rfl, _, by rw [hend], by rw [hend]; exact ⟨_, _, _, _, _, _, rfl, ((hN41.mono (Le.own A35.lt A35.upd.size j42)).mono Le.orr), ((hD41.mono (Le.own A35.lt A35.upd.size j42)).mono Le.orr)⟩⟩
end Go.Proofs.YtoocgllbbihoaaaGreat
namespace Go.Proofs.YtoocgllbbihoaaaGreat
open Go Go.Gv Go.RowKit
set_option maxRecDepth 100000
set_option maxHeartbeats 1000000
theorem scores_c (w : World) (X : Hid) (hX : ∀ k o, X k o → k < w.heap.size) (d : Bool) (ad : Option Addr) (len cap : Nat) (ae : Option Addr) (le ce : Nat) (st : Option Addr) (ls cs : Nat) (av : Option Addr) (lv cv : Nat) (aa : Option Addr) (la ca : Nat) : Calls Tryz.prog 44 #[.agg #[.bool d, .slice ad len cap, .slice ae le ce, .slice st ls cs], .slice av lv cv, .slice aa la ca] w (Ret E0 w fun w' u => ∃ b1 b2 b3, u = .func (.func 75) #[] #[.pointer (some ⟨b1, 0, none⟩), .pointer (some ⟨b2, 0, none⟩), .pointer (some ⟨b3, 0, none⟩)] ∧ At (rd w' X) ⟨b1, 0, none⟩ [.slice aa la ca] ∧ At (rd w' X) ⟨b2, 0, none⟩ [.bool d, .slice ad len cap, .slice ae le ce, .slice st ls cs] ∧ At (rd w' X) ⟨b3, 0, none⟩ [.slice av lv cv]) := by
 refine zen Tryz.func44 ?_
 have A0 : St E0 w X w X [] := St.start hX
 refine zz 2 ?_
 refine zn pn (.cells #[.bool d, .slice ad len cap, .slice ae le ce, .slice st ls cs] 28 (0, 0)) A0 ?_
 intro b3 w3 Y3 A3 j3 hu3
 refine zn pn (.cells #[.slice av lv cv] 29 (0, 0)) A3 ?_
 intro b5 w5 Y5 A5 j5 hu5
 refine zn pn (.cells #[.slice aa la ca] 64 (0, 0)) A5 ?_
 intro b7 w7 Y7 A7 j7 hu7
 refine zz 10 ?_
 refine zr' (v := .func (.func 75) #[] #[.pointer (some ⟨b7, 0, none⟩), .pointer (some ⟨b3, 0, none⟩), .pointer (some ⟨b5, 0, none⟩)]) ?_
 obtain ⟨A8, j8, hat8⟩ := St.publish A7 (A7.own_ge 0 rfl)
 obtain ⟨A9, j9, hat9⟩ := St.publish A8 (A8.own_ge 0 rfl)
 obtain ⟨A10, j10, hat10⟩ := St.publish A9 (A9.own_ge 0 rfl)
 exact ⟨A10.upd, _, rfl, b7, b3, b5, rfl, (hat8.mono (Le2 j9 j10)).mono A10.le, (hat10.mono (Le.refl _)).mono A10.le, (hat9.mono j10).mono A10.le⟩
theorem scores1_c (l b1 b2 b3 : Nat) (r : Rd) (d : Raw) (ad : Option Addr) (len cap : Nat) (hd1 : Limbs r ad len cap d.ln) (ae : Option Addr) (le ce : Nat) (hd2 : Limbs r ae le ce d.ld) (st : Option Addr) (ls cs : Nat) (v : List Raw) (av : Option Addr) (lv cv : Nat) (hv : Rats r av lv cv v) (hlv : lv ≤ 1099511627776) (acts : List Actn) (aa : Option Addr) (la ca : Nat) (ha : ActsR r aa la ca acts) (hla : la ≤ 1000000) (hacts : ∀ a ∈ acts, a.next.length ≤ 1000000 ∧ ∀ o ∈ a.next, 0 ≤ o.to ∧ o.to < v.length)
    (h1 : At r ⟨b1, 0, none⟩ [.slice aa la ca]) (h2 : At r ⟨b2, 0, none⟩ [.bool d.neg, .slice ad len cap, .slice ae le ce, .slice st ls cs]) (h3 : At r ⟨b3, 0, none⟩ [.slice av lv cv]) (N : Nat) (J : Nat → World → Hid → Prop) (R : World → Prop)
    (hread : ∀ k w Z, J k w Z → (∀ b o, Z b o → b < w.heap.size) ∧ Le r (rd w Z) ∧ N ≤ w.heap.size) (hup : ∀ k w Z, J k w Z → ∀ w', Upd E0 w w' → J k w' Z)
    (hY : ∀ k w Z, k < acts.length → J k w Z → ∀ a u, acts[k]? = some a → RawX (orN Z N) w u (scoreV d v a).1 → YieldAt (FF none) 0 Tryz.prog l #[u, .int .i64 (scoreV d v a).2] w (Rounds (fun w => if (scoreV d v a).2 = 0 then ∃ Z, J (k + 1) w Z else R w) R))
    (h0 : ∀ w Z, J acts.length w Z → R w) (w : World) (Z : Hid) (hJ : J 0 w Z) : Calls Tryz.prog 75 #[.func (.yield l) #[] #[], .pointer (some ⟨b1, 0, none⟩), .pointer (some ⟨b2, 0, none⟩), .pointer (some ⟨b3, 0, none⟩)] w (fun e w' => (∃ v, e = .returned v) ∧ R w') := by
 obtain rfl := hv.hlen
 obtain rfl := ha.hlen
 have hcapa := ha.hcap
 have hbiga := ha.hbig
 have hcapv := hv.hcap
 have hbigv := hv.hbig
 refine i_enter (n := 32) (vs := [.func (.yield l) #[] #[], .pointer (some ⟨b1, 0, none⟩), .pointer (some ⟨b2, 0, none⟩), .pointer (some ⟨b3, 0, none⟩)]) Tryz.func75 rfl rfl rfl kr (fun a0 C0 => ?_)
 have C0 : Fr 32 a0 [(0, .func (.yield l) #[] #[]), (1, .pointer (some ⟨b1, 0, none⟩)), (2, .pointer (some ⟨b2, 0, none⟩)), (3, .pointer (some ⟨b3, 0, none⟩))] := C0
 have A0 : St E0 w Z w Z [] := St.start (hread _ _ _ hJ).1
 have j0 := (hread _ _ _ hJ).2.1
 refine zH (fun K1 G1 => ?_)
 refine zC ?_
 refine wplI C0 kr (zF (d := 9) (v := .slice aa acts.length ca) C0 kr (zB (t := 64) (g := false) (vs := [.slice aa acts.length ca]) (ad := ⟨b1, 0, none⟩) rfl kr kr ir ((h1.mono j0)).cells) ?_)
 intro a2 C2
 refine zD 2 [(11, .int .i64 0), (10, .int .i64 (acts.length : Int))] C2 kr kr (fun a3 C3 => ?_)
 refine zK ?_
 refine zA (G1 _ _ ?_)
 refine zS ?_
 refine i_loop (fun (k : Nat) ac w1 => Fr 32 ac [(0, .func (.yield l) #[] #[]), (2, .pointer (some ⟨b2, 0, none⟩)), (3, .pointer (some ⟨b3, 0, none⟩)), (9, .slice aa acts.length ca), (10, .int .i64 (acts.length : Int)), (11, .int .i64 (k : Int))] ∧ (∃ Z, J k w1 Z) ∧ k ≤ acts.length) (fun k => acts.length - k) 0 ?_ ?_
 ·
  exact ⟨C3.as [0, 2, 3, 9, 10, 11] kr kr, ⟨_, hJ⟩, Nat.zero_le _⟩
 rintro k a4 w4 ⟨C4, ⟨Z4, hJ4⟩, hk⟩
 have A4 : St E0 w4 Z4 w4 Z4 [] := St.start (hread _ _ _ hJ4).1
 have j4 := (hread _ _ _ hJ4).2.1
 have hNq4 := (hread _ _ _ hJ4).2.2
 refine zH (fun K5 G5 => ?_)
 refine zC ?_
 refine zD 1 [(12, .bool (decide ((k : Int) < (acts.length : Int))))] C4 kr kr (fun a6 C6 => ?_)
 refine zK ?_
 refine zA (G5 _ _ ?_)
 refine zH (fun K7 G7 => ?_)
 refine i_cond (decide ((k : Int) < (acts.length : Int))) C6 kr kr (fun hc8 => ?_) (fun hc8 => ?_)
 ·
  have C9 := C6.set 12 (v' := .bool true) kr rfl (zJ hc8)
  have ht10 : (k : Int) < (acts.length : Int) := of_decide_eq_true hc8
  obtain ⟨b9a, off9a, rfl⟩ := ha.addr (by omega)
  obtain ⟨xa, a1a, a2a, a3a, a4a, a5a, a6a, a7a, a8a, a9a, hxa, hAa, hLa, hMa, hOa⟩ := ha.at (k := k) (by omega)
  have hin := hacts xa (List.mem_of_getElem? hxa)
  refine i_skip ?_
  refine zA (G7 _ _ ?_)
  refine zH (fun K11 G11 => ?_)
  refine zS ?_
  refine zH (fun K12 G12 => ?_)
  refine zC ?_
  refine wplI C9 kr (zF (d := 13) (v := .pointer (some ⟨b9a, off9a + k * 4, none⟩)) C9 kr (zO (t := 64) (e := 63) (b := b9a) (off := off9a) (len := acts.length) (cap := ca) (kd := .i64) (i := (k : Int)) (g := true) (m := 4) (off' := off9a + k * 4) rfl kr kr kr kr (by omega) (by omega) (by first | rfl | omega | (simp; done) | (simp; omega)) _) ?_)
  intro a13 C13
  refine wplI C13 kr (zF (d := 14) (v := .agg #[.bool xa.cost.neg, .slice a1a a2a a3a, .slice a4a a5a a6a, .slice a7a a8a a9a]) C13 kr (zB (t := 63) (g := true) (vs := [.bool xa.cost.neg, .slice a1a a2a a3a, .slice a4a a5a a6a, .slice a7a a8a a9a]) (ad := ⟨b9a, off9a + k * 4, none⟩) rfl kr kr ir ((hAa.mono j4)).cells) ?_)
  intro a14 C14
  refine wplI C14 kr (zQ (d := 6) (fun b => .pointer (some ⟨b, 0, none⟩)) (.cells #[.bool false, .slice none 0 0, .slice none 0 0, .slice none 0 0] 63 (0, 0)) C14 kr A4 kw ?_)
  intro b15 w15 Y15 A15 j15 hu15 a16 C16
  refine wplI C16 kr (zE (t := 63) (b := b15) (off := 0) (c' := #[.bool xa.cost.neg, .slice a1a a2a a3a, .slice a4a a5a a6a, .slice a7a a8a a9a]) (g := true) (m := 4) 0 _ C16 kr A15 rfl kr rfl kr kr kr rfl (by first | decide | (simp; done)) kr rfl ?_)
  intro w17 A17 j17
  refine zK ?_
  refine zA (G12 _ _ ?_)
  refine zH (fun K18 G18 => ?_)
  refine zC ?_
  refine wplI C16 kr (zF (d := 16) (v := .agg #[.bool d.neg, .slice ad len cap, .slice ae le ce, .slice st ls cs]) C16 kr (zB (t := 28) (g := true) (vs := [.bool d.neg, .slice ad len cap, .slice ae le ce, .slice st ls cs]) (ad := ⟨b2, 0, none⟩) rfl kr kr ir ((h2.mono (Le3 j4 j15 j17))).cells) ?_)
  intro a19 C19
  refine wplI C19 kr (zF (d := 17) (v := .slice av v.length cv) C19 kr (zB (t := 29) (g := false) (vs := [.slice av v.length cv]) (ad := ⟨b3, 0, none⟩) rfl kr kr ir ((h3.mono (Le3 j4 j15 j17))).cells) ?_)
  intro a20 C20
  refine wplI C20 kr (zF (d := 18) (v := .agg #[.bool xa.cost.neg, .slice a1a a2a a3a, .slice a4a a5a a6a, .slice a7a a8a a9a]) C20 kr (zB (t := 63) (g := true) (vs := [.bool xa.cost.neg, .slice a1a a2a a3a, .slice a4a a5a a6a, .slice a7a a8a a9a]) (ad := ⟨b15, 0, none⟩) rfl kr kr ir (A17.cells 0 rfl rfl)) ?_)
  intro a21 C21
  refine wplI C21 kr (zM (d := 19) (f := 43) (cap := #[]) (vs := #[.agg #[.bool d.neg, .slice ad len cap, .slice ae le ce, .slice st ls cs], .slice av v.length cv, .agg #[.bool xa.cost.neg, .slice a1a a2a a3a, .slice a4a a5a a6a, .slice a7a a8a a9a]]) C21 kr A17 rfl kr kr (fun w => Tryz.call43 _ w) (score_c _ _ A17.lt d _ _ _ (hd1.mono (Le3 j4 j15 j17)) _ _ _ (hd2.mono (Le3 j4 j15 j17)) _ _ _ v _ _ _ (hv.mono (Le3 j4 j15 j17)) (by omega) xa _ _ _ (hLa.mono (Le3 j4 j15 j17)) _ _ _ (hMa.mono (Le3 j4 j15 j17)) _ _ _ (hOa.mono (Le3 j4 j15 j17)) hin.1 hin.2) ?_)
  rintro v22 w22 A22 j22 hu22 ⟨u22, rfl, ⟨ad22, len22, cap22, ae22, le22, ce22, rfl, hN22, hD22⟩⟩ a23 C23
  refine zD 3 [(21, .int .i64 ((scoreV d v xa).2)), (20, .agg #[.bool ((scoreV d v xa).1.neg), .slice ad22 len22 cap22, .slice ae22 le22 ce22]), (15, .tuple #[.agg #[.bool ((scoreV d v xa).1.neg), .slice ad22 len22 cap22, .slice ae22 le22 ce22], .int .i64 ((scoreV d v xa).2)])] C23 kr kr (fun a24 C24 => ?_)
  refine wplI C24 kr (zQ (d := 7) (fun b => .pointer (some ⟨b, 0, none⟩)) (.cells #[.bool false, .slice none 0 0, .slice none 0 0] 25 (0, 0)) C24 kr A22 kw ?_)
  intro b25 w25 Y25 A25 j25 hu25 a26 C26
  refine wplI C26 kr (zE (t := 25) (b := b25) (off := 0) (c' := #[.bool ((scoreV d v xa).1.neg), .slice ad22 len22 cap22, .slice ae22 le22 ce22]) (g := true) (m := 3) 0 _ C26 kr A25 rfl kr rfl kr kr kr rfl (by first | decide | (simp; done)) kr rfl ?_)
  intro w27 A27 j27
  refine zD 1 [(8, .int .i64 ((scoreV d v xa).2))] C26 kr kr (fun a28 C28 => ?_)
  refine zK ?_
  refine zA (G18 _ _ ?_)
  refine zH (fun K29 G29 => ?_)
  refine zC ?_
  refine zD 1 [(22, .func (.yield l) #[] #[])] C28 kr kr (fun a30 C30 => ?_)
  refine wplI C30 kr (zF (d := 23) (v := .agg #[.bool ((scoreV d v xa).1.neg), .slice ad22 len22 cap22, .slice ae22 le22 ce22]) C30 kr (zB (t := 25) (g := true) (vs := [.bool ((scoreV d v xa).1.neg), .slice ad22 len22 cap22, .slice ae22 le22 ce22]) (ad := ⟨b25, 0, none⟩) rfl kr kr ir (A27.cells 0 rfl rfl)) ?_)
  intro a31 C31
  refine zD 1 [(24, .int .i64 ((scoreV d v xa).2))] C31 kr kr (fun a32 C32 => ?_)
  refine wpl_yield (d := 25) (l := l) (vs := #[.agg #[.bool ((scoreV d v xa).1.neg), .slice ad22 len22 cap22, .slice ae22 le22 ce22], .int .i64 ((scoreV d v xa).2)]) C32 kr rfl kr kr (hY k _ _ (by omega) (hup _ _ _ hJ4 _ A27.upd) xa _ hxa ⟨_, _, _, _, _, _, rfl, (hN22.mono (Le.own A17.lt (Nat.le_trans hNq4 A17.upd.size) (Le2 j25 j27))).mono (A27.le.or _), (hD22.mono (Le.own A17.lt (Nat.le_trans hNq4 A17.upd.size) (Le2 j25 j27))).mono (A27.le.or _)⟩) (fun _ _ h => h.ret) ?_
  rintro v33 w33 ⟨bb33, hv33, hJ33, hR33⟩ a34 C34
  cases hv33
  have A33 : St E0 w33 X0 w33 X0 [] := St.start (X0_lt _)
  refine zD 2 [(27, .bool (!bb33)), (26, .bool (!bb33))] C34 kr kr (fun a35 C35 => ?_)
  rcases Bool.eq_false_or_eq_true (!bb33) with hc36 | hc36
  ·
   have C37 := C35.set 27 (v' := .bool true) kr rfl (zJ hc36)
   have ht38 : bb33 = false := by simpa using hc36
   refine zD 3 [(30, .bool true), (29, undef), (28, undef)] C37 kr kr (fun a39 C39 => ?_)
   refine zK ?_
   refine zA (G29 _ _ ?_)
   refine i_true C39 kr kr ?_
   refine i_ret ?_
   refine blk_ret ?_
   refine then_ret ?_
   refine then_ret ?_
   refine blk_ret ?_
   refine c_ret (v := .tuple #[]) (rs := []) C39 kr Res.nil kr ?_
   exact ⟨⟨_, rfl⟩, (hR33 ht38)⟩
  have C40 := C35.set 27 (v' := .bool false) kr rfl (zJ hc36)
  have ht41 : bb33 = true := by simpa using hc36
  refine zD 3 [(30, .bool (((scoreV d v xa).2) != 0)), (29, .bool (((scoreV d v xa).2) != 0)), (28, .int .i64 ((scoreV d v xa).2))] C40 kr kr (fun a42 C42 => ?_)
  refine zK ?_
  refine zA (G29 _ _ ?_)
  refine i_cond (((scoreV d v xa).2) != 0) C42 kr kr (fun hc43 => ?_) (fun hc43 => ?_)
  ·
   have C44 := C42.set 30 (v' := .bool true) kr rfl (zJ hc43)
   have ht45 : ((scoreV d v xa).2) ≠ 0 := by simpa using hc43
   refine i_ret ?_
   refine blk_ret ?_
   refine then_ret ?_
   refine then_ret ?_
   refine blk_ret ?_
   refine c_ret (v := .tuple #[]) (rs := []) C44 kr Res.nil kr ?_
   exact ⟨⟨_, rfl⟩, (by have h9 := hJ33 ht41; simp only [if_neg ht45] at h9; exact h9)⟩
  have C46 := C42.set 30 (v' := .bool false) kr rfl (zJ hc43)
  have ht47 : ((scoreV d v xa).2) = 0 := by simpa using hc43
  refine i_skip ?_
  refine zP ?_
  refine zA (G11 _ _ ?_)
  refine zC ?_
  refine zD 1 [(31, .int .i64 (IntKind.i64.wrap ((k : Int) + 1)))] C46 kr kr (fun a48 C48 => ?_)
  have C49 := C48.set 31 (v' := .int .i64 ((k : Int) + 1)) kr rfl (vint (wi64 (by omega) (by omega)))
  refine zD 1 [(11, .int .i64 ((k : Int) + 1))] C49 kr kr (fun a50 C50 => ?_)
  refine zK ?_
  refine zA ?_
  exact ⟨k + 1, ⟨C50.as [0, 2, 3, 9, 10, 11] kr kr, (by have h9 := hJ33 ht41; simp only [if_pos ht47] at h9; exact h9), by omega⟩, by omega⟩
 have C51 := C6.set 12 (v' := .bool false) kr rfl (zJ hc8)
 have ht52 : ¬ ((k : Int) < (acts.length : Int)) := of_decide_eq_false hc8
 refine i_exit ?_
 refine then_exit ?_
 refine then_exit ?_
 refine blk_here ?_
 refine c_end (v := .tuple #[]) (rs := []) C51 kr Res.nil kr ?_
 exact ⟨⟨_, rfl⟩, (h0 _ _ ((show k = acts.length by omega) ▸ hJ4))⟩
end Go.Proofs.YtoocgllbbihoaaaGreat
namespace Go.Proofs.YtoocgllbbihoaaaGreat
open Go Go.Gv Go.RowKit
set_option maxRecDepth 100000
set_option maxHeartbeats 1000000
section
variable {m : Mdp} {v : List Raw} {s a : Int} {sx : List Actn} {xa : Actn}
theorem score_range (h : ¬ m.chkV v ≠ 0) (hs : sx ∈ m.states) (ha : xa ∈ sx) : xa.next.length ≤ 1000000 ∧ ∀ o ∈ xa.next, 0 ≤ o.to ∧ o.to < v.length := by
  obtain ⟨hk, hl⟩ := Mdp.chkV_ok (Classical.not_not.1 h)
  obtain ⟨_, _, _, _, _, hst⟩ := Mdp.chk_ok hk
  obtain ⟨_, c2, _, c4⟩ := chkAct_ok ((hst sx hs).2.2 xa ha)
  exact ⟨by omega, fun o ho => ⟨(c2 o ho).1, by have := (c2 o ho).2.1; omega⟩⟩
theorem chkV_pos (h : ¬ m.chkV v ≠ 0) : 0 < m.states.length ∧ m.states.length ≤ 200 ∧ v.length = m.states.length := by
  obtain ⟨hk, hl⟩ := Mdp.chkV_ok (Classical.not_not.1 h)
  obtain ⟨_, _, _, h1, h2, _⟩ := Mdp.chk_ok hk
  exact ⟨h1, h2, hl⟩
theorem sa_chk (h : m.chkV v ≠ 0) : m.scoreAt v s a = (.zero, m.chkV v) := if_pos h
theorem sa_range (h : ¬ m.chkV v ≠ 0) (h2 : s < 0 ∨ (m.states.length : Int) ≤ s ∨ a < 0 ∨ ((m.states.getD s.toNat []).length : Int) ≤ a) : m.scoreAt v s a = (.zero, 8) := (if_neg h).trans (if_pos h2)
theorem sa_ok (h : ¬ m.chkV v ≠ 0) (h1 : 0 ≤ s) (h2 : s < m.states.length) (hx : m.states[s.toNat]? = some sx) (h3 : 0 ≤ a) (h4 : a < sx.length) (ha : sx[a.toNat]? = some xa) : m.scoreAt v s a = scoreV m.disc v xa := by
  unfold Mdp.scoreAt
  have e : m.states.getD s.toNat [] = sx := getD_get hx
  have e2 : actAt (m.states.getD s.toNat []) a = xa := by rw [e]; exact getD_get ha
  rw [if_neg h, if_neg (by rw [e]; omega), e2]
end
theorem Score_c (w : World) (X : Hid) (hX : ∀ k o, X k o → k < w.heap.size) (m : Mdp) (ad : Option Addr) (len cap : Nat) (h : Limbs (rd w X) ad len cap m.disc.ln) (ae : Option Addr) (le ce : Nat) (h2 : Limbs (rd w X) ae le ce m.disc.ld) (st : Option Addr) (ls cs : Nat) (hst : StatesR (rd w X) st ls cs m.states) (v : List Raw) (av : Option Addr) (lv cv : Nat) (hv : Rats (rd w X) av lv cv v) (hlv : lv ≤ 1099511627776) (i j : Int) : Calls Tryz.prog 15 #[.agg #[.bool m.disc.neg, .slice ad len cap, .slice ae le ce, .slice st ls cs], .slice av lv cv, .int .i64 i, .int .i64 j] w (Ret E0 w fun w' u => ∃ x, u = .tuple #[x, .int .i64 (m.scoreAt v i j).2] ∧ RawX (old w) w' x (m.scoreAt v i j).1) := by
 obtain rfl := hv.hlen
 have hcapv := hv.hcap
 have hbigv := hv.hbig
 obtain rfl := hst.hlen
 have hcaps := hst.hcap
 have hbigs := hst.hbig
 refine zen Tryz.func15 ?_
 have A0 : St E0 w X w X [] := St.start hX
 refine zz 2 ?_
 refine zn pn (.cells #[.bool m.disc.neg, .slice ad len cap, .slice ae le ce, .slice st m.states.length cs] 28 (0, 0)) A0 ?_
 intro b3 w3 Y3 A3 j3 hu3
 refine zn pn (.cells #[.bool false, .slice none 0 0, .slice none 0 0] 25 (0, 0)) A3 ?_
 intro b5 w5 Y5 A5 j5 hu5
 refine zz 6 ?_
 refine zo 1 A5 ?_
 refine zz 1 ?_
 refine zc A5 (mcheck_c _ _ A5.lt m _ _ _ (h.mono (Le2 j3 j5)) _ _ _ (h2.mono (Le2 j3 j5)) _ _ _ (hst.mono (Le2 j3 j5)) _ _ _ v rfl (by omega)) ?_ (vs := #[.agg #[.bool m.disc.neg, .slice ad len cap, .slice ae le ce, .slice st m.states.length cs], .slice av v.length cv])
 rintro v7 w7 A7 j7 hu7 rfl
 refine zz 11 ?_
 refine zb 14 (b := ((m.chkV v) != 0)) (fun hc8 => ?_) (fun hc8 => ?_)
 ·
  have ht9 : (m.chkV v) ≠ 0 := by simpa using hc8
  refine zz 5 ?_
  refine zx 0 #[.bool false, .slice none 0 0, .slice none 0 0] A7 ?_
  intro w10 A10 j10
  refine zz 6 ?_
  refine zrS [.cell 8 25, .tmp 9] (v := .tuple #[.agg #[.bool false, .slice none 0 0, .slice none 0 0], .int .i64 (m.chkV v)]) (Res.cM A10 0 (Res.tZ Res.nil)) ?_
  have hend := (sa_chk ht9 : m.scoreAt v i j = _)
  exact ⟨A10.upd, _, rfl, _, by rw [hend], by rw [hend]; exact raw_zero⟩
 have ht11 : (m.chkV v) = 0 := by simpa using hc8
 have hm0 : ¬ m.chkV v ≠ 0 := by simpa using ht11
 have hpos := chkV_pos hm0
 refine zz 6 ?_
 refine zt 22 (p := (i) < 0) (fun ht12 => ?_) (fun ht12 => ?_)
 ·
  refine zz 27 ?_
  refine zx 0 #[.bool false, .slice none 0 0, .slice none 0 0] A7 ?_
  intro w13 A13 j13
  refine zz 6 ?_
  refine zrS [.cell 8 25, .tmp 9] (v := .tuple #[.agg #[.bool false, .slice none 0 0, .slice none 0 0], .int .i64 8]) (Res.cM A13 0 (Res.tZ Res.nil)) ?_
  have hend := (sa_range hm0 (.inl ht12) : m.scoreAt v i j = _)
  exact ⟨A13.upd, _, rfl, _, by rw [hend], by rw [hend]; exact raw_zero⟩
 refine zz 2 ?_
 refine zo 1 A7 ?_
 refine zz 4 ?_
 refine zt 29 (p := (i) ≥ (m.states.length : Int)) (fun ht14 => ?_) (fun ht14 => ?_)
 ·
  refine zz 20 ?_
  refine zx 0 #[.bool false, .slice none 0 0, .slice none 0 0] A7 ?_
  intro w15 A15 j15
  refine zz 6 ?_
  refine zrS [.cell 8 25, .tmp 9] (v := .tuple #[.agg #[.bool false, .slice none 0 0, .slice none 0 0], .int .i64 8]) (Res.cM A15 0 (Res.tZ Res.nil)) ?_
  have hend := (sa_range hm0 (.inr (.inl (by omega))) : m.scoreAt v i j = _)
  exact ⟨A15.upd, _, rfl, _, by rw [hend], by rw [hend]; exact raw_zero⟩
 obtain ⟨b0, off0, rfl⟩ := hst.addr (by omega)
 obtain ⟨sx, ax, lx, cx, hxs, hAs, hacts⟩ := hst.at (k := i.toNat) (by omega)
 obtain rfl := hacts.hlen
 have hcapx := hacts.hcap
 have hbigx := hacts.hbig
 have hAs1 : At (rd w X) ⟨b0, off0 + i.toNat, none⟩ [.slice ax sx.length cx] := by simpa using hAs
 refine zz 4 ?_
 refine zt 33 (p := (j) < 0) (fun ht16 => ?_) (fun ht16 => ?_)
 ·
  refine zz 16 ?_
  refine zx 0 #[.bool false, .slice none 0 0, .slice none 0 0] A7 ?_
  intro w17 A17 j17
  refine zz 6 ?_
  refine zrS [.cell 8 25, .tmp 9] (v := .tuple #[.agg #[.bool false, .slice none 0 0, .slice none 0 0], .int .i64 8]) (Res.cM A17 0 (Res.tZ Res.nil)) ?_
  have hend := (sa_range hm0 (.inr (.inr (.inl ht16))) : m.scoreAt v i j = _)
  exact ⟨A17.upd, _, rfl, _, by rw [hend], by rw [hend]; exact raw_zero⟩
 refine zz 2 ?_
 refine zo 1 A7 ?_
 refine zz 1 ?_
 refine zi (b := b0) (off := off0) (len := m.states.length) (cap := cs) (kd := .i64) (i := i) 1 (off0 + i.toNat) ?_
 refine zl ((hAs1.mono (Le3 j3 j5 j7))).cells ?_
 refine zz 6 ?_
 refine zt 19 (p := (j) ≥ (sx.length : Int)) (fun ht18 => ?_) (fun ht18 => ?_)
 ·
  refine zz 4 ?_
  refine zx 0 #[.bool false, .slice none 0 0, .slice none 0 0] A7 ?_
  intro w19 A19 j19
  refine zz 6 ?_
  refine zrS [.cell 8 25, .tmp 9] (v := .tuple #[.agg #[.bool false, .slice none 0 0, .slice none 0 0], .int .i64 8]) (Res.cM A19 0 (Res.tZ Res.nil)) ?_
  have hend := (sa_range hm0 (.inr (.inr (.inr (by rw [getD_get hxs]; omega)))) : m.scoreAt v i j = _)
  exact ⟨A19.upd, _, rfl, _, by rw [hend], by rw [hend]; exact raw_zero⟩
 obtain ⟨b9a, off9a, rfl⟩ := hacts.addr (by omega)
 obtain ⟨xa, a1a, a2a, a3a, a4a, a5a, a6a, a7a, a8a, a9a, hxa, hAa, hLa, hMa, hOa⟩ := hacts.at (k := j.toNat) (by omega)
 have hin := score_range hm0 (List.mem_of_getElem? hxs) (List.mem_of_getElem? hxa)
 refine zz 5 ?_
 refine zdr A7 ?_
 refine gw 0 1 ?_
 refine gz [1, 2] ?_
 refine gw 3 1 ?_
 refine gz [4] ?_
 refine gi 5 (b := b0) (off := off0) (len := m.states.length) (cap := cs) (kd := .i64) (i := i) 1 (off0 + i.toNat) ?_
 refine gl 6 ((hAs1.mono (Le3 j3 j5 j7))) ?_
 refine gz [7] ?_
 refine gi 8 (b := b9a) (off := off9a) (len := sx.length) (cap := cx) (kd := .i64) (i := j) 4 (off9a + j.toNat * 4) ?_
 refine gl 9 ((hAa.mono (Le3 j3 j5 j7))) ?_
 have hc1_ := (Le2 j3 j5).trans j7
 refine gC 10 (vs := #[.agg #[.bool m.disc.neg, .slice ad len cap, .slice ae le ce, .slice (some ⟨b0, off0, none⟩) m.states.length cs], .slice av v.length cv, .agg #[.bool xa.cost.neg, .slice a1a a2a a3a, .slice a4a a5a a6a, .slice a7a a8a a9a]]) (fun w20 Y20 _ A20 j20 => (score_c _ _ A20.lt m.disc _ _ _ (h.mono (hc1_.trans j20)) _ _ _ (h2.mono (hc1_.trans j20)) _ _ _ v _ _ _ (hv.mono (hc1_.trans j20)) (by omega) xa _ _ _ (hLa.mono (hc1_.trans j20)) _ _ _ (hMa.mono (hc1_.trans j20)) _ _ _ (hOa.mono (hc1_.trans j20)) hin.1 hin.2)) ?_
 rintro v21 w20 Y21 w21 A20 j21 ⟨u21, rfl, ⟨ad21, len21, cap21, ae21, le21, ce21, rfl, hN21, hD21⟩⟩
 refine gz [11, 12] ?_
 refine gX 13 0 #[.bool ((scoreV m.disc v xa).1.neg), .slice ad21 len21 cap21, .slice ae21 le21 ce21] ?_
 intro w22 Y22 j22
 refine gz [14] ?_
 refine gend (fun w23 Y23 A23 j23 => ?_)
 refine zz 2 ?_
 refine zrS [.cell 8 25, .tmp 9] (v := .tuple #[.agg #[.bool ((scoreV m.disc v xa).1.neg), .slice ad21 len21 cap21, .slice ae21 le21 ce21], .int .i64 ((scoreV m.disc v xa).2)]) (Res.cM A23 0 (Res.tZ Res.nil)) ?_
 have hend := (sa_ok hm0 (by omega) (by omega) hxs (by omega) (by omega) hxa : m.scoreAt v i j = _)
 exact ⟨A23.upd, _, rfl, _, by rw [hend], by rw [hend]; exact ⟨_, _, _, _, _, _, rfl, ((hN21.mono (Le.own A20.lt A20.upd.size (Le2 j22 j23))).mono Le.orr), ((hD21.mono (Le.own A20.lt A20.upd.size (Le2 j22 j23))).mono Le.orr)⟩⟩
end Go.Proofs.YtoocgllbbihoaaaGreat
namespace Go.Proofs.YtoocgllbbihoaaaGreat
open Go Go.Gv Go.RowKit
set_option maxRecDepth 100000
set_option maxHeartbeats 1000000
section
variable {m : Mdp} {v : List Raw} {p : List Int}
theorem un_chk (h : m.chkV v ≠ 0) : m.underV p v = ([], m.chkV v) := if_pos h
theorem un_len (h : ¬ m.chkV v ≠ 0) (h2 : p.length ≠ m.states.length) : m.underV p v = ([], 16) := (if_neg h).trans (if_pos h2)
theorem un_go (h : ¬ m.chkV v ≠ 0) (h2 : p.length = m.states.length) : m.underV p v = underGo m.disc v [] m.states p := (if_neg h).trans (if_neg (by simpa using h2))
theorem rats_nil {r : Rd} : Rats r none 0 0 [] := ⟨rfl, Nat.le_refl _, by omega, .inl rfl⟩
theorem ints_nil {r : Rd} : Ints r none 0 0 [] := ⟨rfl, Nat.le_refl _, by omega, .inl rfl⟩
end
theorem Under_c (w : World) (X : Hid) (hX : ∀ k o, X k o → k < w.heap.size) (m : Mdp) (ad : Option Addr) (len cap : Nat) (h : Limbs (rd w X) ad len cap m.disc.ln) (ae : Option Addr) (le ce : Nat) (h2 : Limbs (rd w X) ae le ce m.disc.ld) (st : Option Addr) (ls cs : Nat) (hst : StatesR (rd w X) st ls cs m.states) (v : List Raw) (av : Option Addr) (lv cv : Nat) (hv : Rats (rd w X) av lv cv v) (hlv : lv ≤ 1099511627776) (p : List Int) (ap : Option Addr) (lp cp : Nat) (hp : Ints (rd w X) ap lp cp p) (hlp : lp ≤ 1099511627776) : Calls Tryz.prog 17 #[.agg #[.bool m.disc.neg, .slice ad len cap, .slice ae le ce, .slice st ls cs], .slice ap lp cp, .slice av lv cv] w (Ret E0 w fun w' u => ∃ ad len cap, u = .tuple #[.slice ad len cap, .int .i64 (m.underV p v).2] ∧ Rats (rd w' (old w)) ad len cap (m.underV p v).1) := by
 obtain rfl := hv.hlen
 have hcapv := hv.hcap
 have hbigv := hv.hbig
 obtain rfl := hst.hlen
 have hcaps := hst.hcap
 have hbigs := hst.hbig
 obtain rfl := hp.hlen
 have hcapp := hp.hcap
 have hbigp := hp.hbig
 refine zen Tryz.func17 ?_
 have A0 : St E0 w X w X [] := St.start hX
 refine zz 2 ?_
 refine zn pn (.cells #[.bool m.disc.neg, .slice ad len cap, .slice ae le ce, .slice st m.states.length cs] 28 (0, 0)) A0 ?_
 intro b3 w3 Y3 A3 j3 hu3
 refine zz 7 ?_
 refine zo 0 A3 ?_
 refine zz 1 ?_
 refine zc A3 (mcheck_c _ _ A3.lt m _ _ _ (h.mono j3) _ _ _ (h2.mono j3) _ _ _ (hst.mono j3) _ _ _ v rfl (by omega)) ?_ (vs := #[.agg #[.bool m.disc.neg, .slice ad len cap, .slice ae le ce, .slice st m.states.length cs], .slice av v.length cv])
 rintro v5 w5 A5 j5 hu5 rfl
 refine zz 11 ?_
 refine zb 16 (b := ((m.chkV v) != 0)) (fun hc6 => ?_) (fun hc6 => ?_)
 ·
  have ht7 : (m.chkV v) ≠ 0 := by simpa using hc6
  refine zz 11 ?_
  refine zr' (v := .tuple #[.slice none 0 0, .int .i64 (m.chkV v)]) ?_
  have hend : m.underV p v = _ := un_chk ht7
  exact ⟨A5.upd, _, rfl, _, _, _, by rw [hend], by rw [hend]; exact rats_nil⟩
 have ht8 : (m.chkV v) = 0 := by simpa using hc6
 have hm0 : ¬ m.chkV v ≠ 0 := by simpa using ht8
 have hpos := chkV_pos hm0
 refine zz 6 ?_
 refine zo 0 A5 ?_
 refine zz 5 ?_
 refine zb 20 (b := ((p.length : Int) != (m.states.length : Int))) (fun hc9 => ?_) (fun hc9 => ?_)
 ·
  have ht10 : (p.length : Int) ≠ (m.states.length : Int) := by simpa using hc9
  refine zz 10 ?_
  refine zr' (v := .tuple #[.slice none 0 0, .int .i64 16]) ?_
  have hend : m.underV p v = _ := un_len hm0 (by omega)
  exact ⟨A5.upd, _, rfl, _, _, _, by rw [hend], by rw [hend]; exact rats_nil⟩
 have ht11 : (p.length : Int) = (m.states.length : Int) := by simpa using hc9
 have hpl : p.length = m.states.length := by omega
 have hug := un_go hm0 hpl
 refine zz 13 ?_
 refine zlp Tryz.f17 [] [1, 1, 0, 1, 0] (fun ((k, adr, capr) : Nat × (Option Addr) × Nat) => [(2, .slice av v.length cv), (3, .pointer (some ⟨b3, 0, none⟩)), (6, .slice adr k capr), (27, .slice ap p.length cp), (28, .int .i64 (p.length : Int)), (29, .int .i64 (k : Int))]) (fun ((k, adr, capr) : Nat × (Option Addr) × Nat) w1 => ∃ (Y1 : Hid) (rb1 : List (Nat × Obj)) (es : List RE), St E0 w X w1 Y1 ((b3, .cells #[.bool m.disc.neg, .slice ad len cap, .slice ae le ce, .slice st m.states.length cs] 28 (0, 0)) :: rb1) ∧ Le (rd w5 Y3) (rd w1 Y1) ∧ (TRow 25 3 rb1 adr k capr (flat es)) ∧ (underGo m.disc v (es.map (·.x)) (m.states.drop k) (p.drop k) = underGo m.disc v [] m.states p) ∧ (∀ e ∈ es, e.ok (rd w1 (orN Y1 w.heap.size))) ∧ (k = es.length) ∧ (k ≤ p.length)) (fun ((k, adr, capr) : Nat × (Option Addr) × Nat) => p.length - k) (0, none, 0) ?_ ?_
 ·
  refine ⟨_, [], [], A5, Le.refl _, TRow.nil _ _, rfl, fun _ h => absurd h (by simp), rfl, Nat.zero_le _⟩
 rintro ⟨k, adr, capr⟩ w12 K12 G12 ⟨Y12, rb1, es, A12, j12, hp12_0, hp12_1, hp12_2, hp12_3, hp12_4⟩
 have hr1 := hp12_0
 have hgo := hp12_1
 have hk1 := hp12_2
 have hke := hp12_3
 have hkl := hp12_4
 refine zz 6 ?_
 refine zt 30 (p := (k : Int) < (p.length : Int)) (fun ht13 => ?_) (fun ht13 => ?_)
 ·
  obtain ⟨bp, offp, rfl⟩ := hp.addr (by omega)
  obtain ⟨ip, hxp, hAp⟩ := hp.at (k := k) (by omega)
  have hAp1 : At (rd w X) ⟨bp, offp + k, none⟩ [.int .i64 ip] := by have h9 := hAp; unfold IntAt at h9; simpa using h9
  refine zz 8 ?_
  refine zi (b := bp) (off := offp) (len := p.length) (cap := cp) (kd := .i64) (i := (k : Int)) 1 (offp + k) ?_
  refine zl ((hAp1.mono (Le3 j3 j5 j12))).cells ?_
  refine zz 10 ?_
  refine zt 36 (p := (ip) < 0) (fun ht14 => ?_) (fun ht14 => ?_)
  ·
   obtain ⟨sx, hxs⟩ : ∃ sx, m.states[k]? = some sx := ⟨m.states[k]'(by omega), List.getElem?_eq_getElem _⟩
   refine zz 25 ?_
   refine zr' (v := .tuple #[.slice none 0 0, .int .i64 8]) ?_
   have hend : m.underV p v = _ := hug.trans (hgo.symm.trans (underGo_range hxs hxp (.inl ht14)))
   exact ⟨A12.upd, _, rfl, _, _, _, by rw [hend], by rw [hend]; exact rats_nil⟩
  obtain ⟨b0, off0, rfl⟩ := hst.addr (by omega)
  obtain ⟨sx, ax, lx, cx, hxs, hAs, hacts⟩ := hst.at (k := k) (by omega)
  obtain rfl := hacts.hlen
  have hcapx := hacts.hcap
  have hbigx := hacts.hbig
  have hAs1 : At (rd w X) ⟨b0, off0 + k, none⟩ [.slice ax sx.length cx] := by simpa using hAs
  refine zz 2 ?_
  refine zo 0 A12 ?_
  refine zz 1 ?_
  refine zi (b := b0) (off := off0) (len := m.states.length) (cap := cs) (kd := .i64) (i := (k : Int)) 1 (off0 + k) ?_
  refine zl ((hAs1.mono (Le3 j3 j5 j12))).cells ?_
  refine zz 5 ?_
  refine zt 45 (p := (ip) ≥ (sx.length : Int)) (fun ht15 => ?_) (fun ht15 => ?_)
  ·
   refine zz 14 ?_
   refine zr' (v := .tuple #[.slice none 0 0, .int .i64 8]) ?_
   have hend : m.underV p v = _ := hug.trans (hgo.symm.trans (underGo_range hxs hxp (.inr (by omega))))
   exact ⟨A12.upd, _, rfl, _, _, _, by rw [hend], by rw [hend]; exact rats_nil⟩
  obtain ⟨b9a, off9a, rfl⟩ := hacts.addr (by omega)
  obtain ⟨xa, a1a, a2a, a3a, a4a, a5a, a6a, a7a, a8a, a9a, hxa, hAa, hLa, hMa, hOa⟩ := hacts.at (k := ip.toNat) (by omega)
  have hin := score_range hm0 (List.mem_of_getElem? hxs) (List.mem_of_getElem? hxa)
  have hact : actAt sx ip = xa := getD_get hxa
  refine zz 4 ?_
  refine zdraw [0] A12 ?_
  refine gw 0 0 ?_
  refine gz [1, 2] ?_
  refine gw 3 0 ?_
  refine gz [4] ?_
  refine gi 5 (b := b0) (off := off0) (len := m.states.length) (cap := cs) (kd := .i64) (i := (k : Int)) 1 (off0 + k) ?_
  refine gl 6 ((hAs1.mono (Le3 j3 j5 j12))) ?_
  refine gz [7] ?_
  refine gi 8 (b := b9a) (off := off9a) (len := sx.length) (cap := cx) (kd := .i64) (i := ip) 4 (off9a + ip.toNat * 4) ?_
  refine gl 9 ((hAa.mono (Le3 j3 j5 j12))) ?_
  refine gp (al 14 11 pn (.cells #[.bool false, .slice none 0 0, .slice none 0 0] 25 (0, 0))) ?_
  have hc1_ := (Le2 j3 j5).trans j12
  refine gC 10 (vs := #[.agg #[.bool m.disc.neg, .slice ad len cap, .slice ae le ce, .slice (some ⟨b0, off0, none⟩) m.states.length cs], .slice av v.length cv, .agg #[.bool xa.cost.neg, .slice a1a a2a a3a, .slice a4a a5a a6a, .slice a7a a8a a9a]]) (fun w16 Y16 _ A16 j16 => (score_c _ _ A16.lt m.disc _ _ _ (h.mono (hc1_.trans j16)) _ _ _ (h2.mono (hc1_.trans j16)) _ _ _ v _ _ _ (hv.mono (hc1_.trans j16)) (by omega) xa _ _ _ (hLa.mono (hc1_.trans j16)) _ _ _ (hMa.mono (hc1_.trans j16)) _ _ _ (hOa.mono (hc1_.trans j16)) hin.1 hin.2)) ?_ (hPd := PdOk.nil.k)
  rintro v17 w16 Y17 w17 A16 j17 ⟨u17, rfl, ⟨ad17, len17, cap17, ae17, le17, ce17, rfl, hN17, hD17⟩⟩
  refine gz [11, 12, 13] ?_
  refine gs1 (fun b18 => ?_) PdOk.nil.k
  refine gX 15 0 #[.bool ((scoreV m.disc v xa).1.neg), .slice ad17 len17 cap17, .slice ae17 le17 ce17] ?_
  intro w19 Y19 j19
  refine gz [16] ?_
  refine gend (fun w20 Y20 A20 j20 => ?_)
  refine zz 8 ?_
  refine zb 61 (b := (((scoreV m.disc v xa).2) != 0)) (fun hc21 => ?_) (fun hc21 => ?_)
  ·
   have ht22 : ((scoreV m.disc v xa).2) ≠ 0 := by simpa using hc21
   have hstop := underGo_stop (d := m.disc) (v := v) (xs := es.map (·.x)) hxs hxp (by omega) (by rw [hact]; exact ht22)
   rw [hact] at hstop
   refine zz 15 ?_
   refine zr' (v := .tuple #[.slice none 0 0, .int .i64 ((scoreV m.disc v xa).2)]) ?_
   have hend : m.underV p v = _ := hug.trans (hgo.symm.trans hstop)
   exact ⟨A20.upd, _, rfl, _, _, _, by rw [hend], by rw [hend]; exact rats_nil⟩
  have ht23 : ((scoreV m.disc v xa).2) = 0 := by simpa using hc21
  have hstep := underGo_step (d := m.disc) (v := v) (xs := es.map (·.x)) hxs hxp (by omega) (by rw [hact]; exact ht23)
  rw [hact] at hstep
  refine zz 5 ?_
  refine zo 0 A20 ?_
  refine zn (fun b => .slice (some ⟨b, 0, none⟩) 1 1) (.cells #[.bool ((scoreV m.disc v xa).1.neg), .slice ad17 len17 cap17, .slice ae17 le17 ce17] 25 (0, 0)) A20 ?_
  intro b25 w25 Y25 A25 j25 hu25
  refine zop (at1 [K12] Tryz.f17 [1, 1, 0, 1, 0, 0, 1, 1, 0, 0, 1, 1, 1, 1]) 3 (fun a26 _ C26 hz26 => op_appEZ (b := 56) (m := 1) (c := 1) (ad := ⟨b25, 0, none⟩) (news := [.bool ((scoreV m.disc v xa).1.neg), .slice ad17 len17 cap17, .slice ae17 le17 ce17]) (i0 := Tryz.t25) (R1 := []) 3 C26 A25 rfl hr1 (A25.cells 0 rfl rfl) (by omega) (by omega) ?_)
  intro rb27 ad27 cap27 w27 Y27 hrow27 A27 j27 a28 C28
  have hrw27 : TRow 25 3 rb27 ad27 (k + 1) cap27 (flat (es ++ [(RE.mk (scoreV m.disc v xa).1 ad17 len17 cap17 ae17 le17 ce17)])) := by rw [flat_snoc]; exact hrow27
  refine hz26 C28 ?_
  refine zz 6 ?_
  refine zw 67 (x := (k : Int) + 1) ?_
  refine zz 2 ?_
  have hc2_ := (Le4 j17 j19 j20 j25).trans j27
  have hc3_ := (Le3 j19 j20 j25).trans j27
  have hc4_ := (Le5 j12 j17 j19 j20 j25).trans j27
  refine znext (fun a h => G12 ((k + 1, ad27, cap27)) _ a h ⟨_, rb27, (es ++ [(RE.mk (scoreV m.disc v xa).1 ad17 len17 cap17 ae17 le17 ce17)]), A27.tail.tail, hc4_, hrw27, by rw [List.map_append]; exact hstep.symm.trans hgo, fun e he => by rcases List.mem_append.1 he with h1 | h1; exact (hk1 e h1).mono (Le.or hc2_ _); obtain rfl := List.mem_singleton.1 h1; exact ⟨(hN17.mono (Le.own A16.lt A16.upd.size hc3_)), (hD17.mono (Le.own A16.lt A16.upd.size hc3_))⟩, by rw [List.length_append, ← hke]; rfl, by omega⟩ ?_)
  first | omega | (simp <;> omega)
 refine zz 14 ?_
 refine zr' (v := .tuple #[.slice adr k capr, .int .i64 0]) ?_
 have hend : m.underV p v = _ := hug.trans (hgo.symm.trans (underGo_end (by omega)))
 obtain ⟨Y29, hSx29, j29, hRx29⟩ := St.pubRatsN (A := [(b3, .cells #[.bool m.disc.neg, .slice ad len cap, .slice ae le ce, .slice st m.states.length cs] 28 (0, 0))]) (B := []) (Nat.le_refl _) (fun rb => ((b3, .cells #[.bool m.disc.neg, .slice ad len cap, .slice ae le ce, .slice st m.states.length cs] 28 (0, 0)) :: rb)) A12 (fun _ => by simp only [List.append_assoc, List.cons_append, List.nil_append, List.append_nil]) hr1 hke (fun e he => (hk1 e he).mono (Le.or (Le.refl _) _))
 have A29 : St E0 w X w12 Y29 [(b3, .cells #[.bool m.disc.neg, .slice ad len cap, .slice ae le ce, .slice st m.states.length cs] 28 (0, 0))] := hSx29
 have hR29 : Rats (rd w12 (orN Y29 w.heap.size)) adr k capr (es.map (·.x)) := by have h9 := hRx29; exact h9
 exact ⟨A29.upd, _, rfl, _, _, _, by rw [hend], by rw [hend]; exact hR29.mono Le.orr⟩
end Go.Proofs.YtoocgllbbihoaaaGreat
namespace Go.Proofs.YtoocgllbbihoaaaGreat
open Go Go.Gv Go.RowKit
set_option maxRecDepth 100000
set_option maxHeartbeats 1000000
section
variable {m : Mdp} {v : List Raw} {sx : List Actn}
theorem bk_chk (h : m.chkV v ≠ 0) : m.backV v = ([], [], m.chkV v) := if_pos h
theorem bk_go (h : ¬ m.chkV v ≠ 0) : m.backV v = backGo m.disc v [] [] m.states := if_neg h
theorem state_len (h : ¬ m.chkV v ≠ 0) (hs : sx ∈ m.states) : 0 < sx.length ∧ sx.length ≤ 6 := by
  obtain ⟨hk, hl⟩ := Mdp.chkV_ok (Classical.not_not.1 h)
  obtain ⟨_, _, _, _, _, hst⟩ := Mdp.chk_ok hk
  exact ⟨(hst sx hs).1, (hst sx hs).2.1⟩
theorem smaller_lessB : LessC 46 lessB := smaller_less
end
theorem Backup_c (w : World) (X : Hid) (hX : ∀ k o, X k o → k < w.heap.size) (m : Mdp) (ad : Option Addr) (len cap : Nat) (h : Limbs (rd w X) ad len cap m.disc.ln) (ae : Option Addr) (le ce : Nat) (h2 : Limbs (rd w X) ae le ce m.disc.ld) (st : Option Addr) (ls cs : Nat) (hst : StatesR (rd w X) st ls cs m.states) (v : List Raw) (av : Option Addr) (lv cv : Nat) (hv : Rats (rd w X) av lv cv v) (hlv : lv ≤ 1099511627776) : Calls Tryz.prog 16 #[.agg #[.bool m.disc.neg, .slice ad len cap, .slice ae le ce, .slice st ls cs], .slice av lv cv] w (Ret E0 w fun w' u => ∃ ad len cap ad2 len2 cap2, u = .tuple #[.slice ad len cap, .slice ad2 len2 cap2, .int .i64 (m.backV v).2.2] ∧ Rats (rd w' (old w)) ad len cap (m.backV v).1 ∧ Ints (rd w' (old w)) ad2 len2 cap2 (m.backV v).2.1) := by
 obtain rfl := hv.hlen
 have hcapv := hv.hcap
 have hbigv := hv.hbig
 obtain rfl := hst.hlen
 have hcaps := hst.hcap
 have hbigs := hst.hbig
 refine m_enter (n := 56) (vs := [.agg #[.bool m.disc.neg, .slice ad len cap, .slice ae le ce, .slice st m.states.length cs], .slice av v.length cv]) Tryz.func16 rfl rfl rfl kr (fun a0 C0 => ?_)
 have C0 : Fr 56 a0 [(0, .agg #[.bool m.disc.neg, .slice ad len cap, .slice ae le ce, .slice st m.states.length cs]), (1, .slice av v.length cv)] := C0
 have A0 : St E0 w X w X [] := St.start hX
 refine zH (fun K1 G1 => ?_)
 refine zC ?_
 refine wplI C0 kr (zQ (d := 2) (fun b => .pointer (some ⟨b, 0, none⟩)) (.cells #[.bool m.disc.neg, .slice ad len cap, .slice ae le ce, .slice st m.states.length cs] 28 (0, 0)) C0 kr A0 kw ?_)
 intro b2 w2 Y2 A2 j2 hu2 a3 C3
 refine wplI C3 kr (zQ (d := 4) (fun b => .pointer (some ⟨b, 0, none⟩)) (.cells #[.slice none 0 0] 29 (0, 0)) C3 kr A2 kw ?_)
 intro b4 w4 Y4 A4 j4 hu4 a5 C5
 refine wplI C5 kr (zQ (d := 5) (fun b => .pointer (some ⟨b, 0, none⟩)) (.cells #[.slice none 0 0] 30 (0, 0)) C5 kr A4 kw ?_)
 intro b6 w6 Y6 A6 j6 hu6 a7 C7
 refine wplI C7 kr (zQ (d := 6) (fun b => .pointer (some ⟨b, 0, none⟩)) (.cells #[.int .i64 0] 37 (0, 0)) C7 kr A6 kw ?_)
 intro b8 w8 Y8 A8 j8 hu8 a9 C9
 refine zK ?_
 refine zA (G1 _ _ ?_)
 refine zH (fun K10 G10 => ?_)
 refine zH (fun K11 G11 => ?_)
 refine zC ?_
 refine wplI C9 kr (zF (d := 14) (v := .agg #[.bool m.disc.neg, .slice ad len cap, .slice ae le ce, .slice st m.states.length cs]) C9 kr (zB (t := 28) (g := true) (vs := [.bool m.disc.neg, .slice ad len cap, .slice ae le ce, .slice st m.states.length cs]) (ad := ⟨b2, 0, none⟩) rfl kr kr ir (A8.cells 3 rfl rfl)) ?_)
 intro a12 C12
 refine zD 1 [(15, .slice av v.length cv)] C12 kr kr (fun a13 C13 => ?_)
 refine wplI C13 kr (zM (d := 16) (f := 42) (cap := #[]) (vs := #[.agg #[.bool m.disc.neg, .slice ad len cap, .slice ae le ce, .slice st m.states.length cs], .slice av v.length cv]) C13 kr A8 rfl kr kr (fun w => Tryz.call42 _ w) (mcheck_c _ _ A8.lt m _ _ _ (h.mono (Le4 j2 j4 j6 j8)) _ _ _ (h2.mono (Le4 j2 j4 j6 j8)) _ _ _ (hst.mono (Le4 j2 j4 j6 j8)) _ _ _ v rfl (by omega)) ?_)
 rintro v14 w14 A14 j14 hu14 rfl a15 C15
 refine zD 1 [(7, .int .i64 (m.chkV v))] C15 kr kr (fun a16 C16 => ?_)
 refine zK ?_
 refine zA (G11 _ _ ?_)
 refine zH (fun K17 G17 => ?_)
 refine zC ?_
 refine zD 2 [(18, .bool ((m.chkV v) != 0)), (17, .int .i64 (m.chkV v))] C16 kr kr (fun a18 C18 => ?_)
 refine zK ?_
 refine zA (G17 _ _ ?_)
 refine i_cond ((m.chkV v) != 0) C18 kr kr (fun hc19 => ?_) (fun hc19 => ?_)
 ·
  have C20 := C18.set 18 (v' := .bool true) kr rfl (zJ hc19)
  have ht21 : (m.chkV v) ≠ 0 := by simpa using hc19
  refine zH (fun K22 G22 => ?_)
  refine zC ?_
  refine zD 1 [(19, .int .i64 (m.chkV v))] C20 kr kr (fun a23 C23 => ?_)
  refine wplI C23 kr (zE (t := 29) (b := b4) (off := 0) (c' := #[.slice none 0 0]) (g := false) (m := 1) 2 _ C23 kr A14 rfl kr rfl kr kr kr rfl (by first | decide | (simp; done)) kr rfl ?_)
  intro w24 A24 j24
  refine wplI C23 kr (zE (t := 30) (b := b6) (off := 0) (c' := #[.slice none 0 0]) (g := false) (m := 1) 1 _ C23 kr A24 rfl kr rfl kr kr kr rfl (by first | decide | (simp; done)) kr rfl ?_)
  intro w25 A25 j25
  refine wplI C23 kr (zE (t := 37) (b := b8) (off := 0) (c' := #[.int .i64 (m.chkV v)]) (g := false) (m := 1) 0 _ C23 kr A25 rfl kr rfl kr kr kr rfl (by first | decide | (simp; done)) kr rfl ?_)
  intro w26 A26 j26
  refine zK ?_
  refine zA (G22 _ _ ?_)
  refine i_ret ?_
  refine then_ret ?_
  refine m_ret0 (v := .tuple #[.slice none 0 0, .slice none 0 0, .int .i64 (m.chkV v)]) (rs := [.cell 4 29, .cell 5 30, .cell 6 37]) C23 kr (Res.cell (ad := ⟨b4, 0, none⟩) (cs := [.slice none 0 0]) (g := false) kr kr kr ir (A26.cells 2 rfl rfl) (Res.cell (ad := ⟨b6, 0, none⟩) (cs := [.slice none 0 0]) (g := false) kr kr kr ir (A26.cells 1 rfl rfl) (Res.cell (ad := ⟨b8, 0, none⟩) (cs := [.int .i64 (m.chkV v)]) (g := false) kr kr kr ir (A26.cells 0 rfl rfl) Res.nil))) kr ?_
  have hend : m.backV v = _ := bk_chk ht21
  exact ⟨A26.upd, _, rfl, _, _, _, _, _, _, by rw [hend], by rw [hend]; exact rats_nil, by rw [hend]; exact ints_nil⟩
 have C27 := C18.set 18 (v' := .bool false) kr rfl (zJ hc19)
 have ht28 : (m.chkV v) = 0 := by simpa using hc19
 have hm0 : ¬ m.chkV v ≠ 0 := by simpa using ht28
 have hpos := chkV_pos hm0
 have hbg := bk_go hm0
 refine i_skip ?_
 refine zA (G10 _ _ ?_)
 refine zH (fun K29 G29 => ?_)
 refine zH (fun K30 G30 => ?_)
 refine zC ?_
 refine zD 1 [(20, .pointer (some ⟨b2, 3, none⟩))] C27 kr kr (fun a31 C31 => ?_)
 refine wplI C31 kr (zF (d := 21) (v := .slice st m.states.length cs) C31 kr (zB (t := 26) (g := false) (vs := [.slice st m.states.length cs]) (ad := ⟨b2, 3, none⟩) rfl kr kr ir (A14.cells 3 rfl rfl)) ?_)
 intro a32 C32
 refine zD 2 [(23, .int .i64 0), (22, .int .i64 (m.states.length : Int))] C32 kr kr (fun a33 C33 => ?_)
 refine zK ?_
 refine zA (G30 _ _ ?_)
 refine zS ?_
 refine i_loop (fun (k : Nat) ac w1 => ∃ (Y1 : Hid) (bs : List Nat) (rbv : List (Nat × Obj)) (adv : Option Addr) (capv : Nat) (es : List RE) (rbi : List (Nat × Obj)) (adi : Option Addr) (capi : Nat) (is : List Int), Fr 56 ac [(1, .slice av v.length cv), (2, .pointer (some ⟨b2, 0, none⟩)), (4, .pointer (some ⟨b4, 0, none⟩)), (5, .pointer (some ⟨b6, 0, none⟩)), (6, .pointer (some ⟨b8, 0, none⟩)), (21, .slice st m.states.length cs), (22, .int .i64 (m.states.length : Int)), (23, .int .i64 (k : Int))] (bs.map Go.Gv.mark) ∧ St E0 w X w1 Y1 ((b8, .cells #[.int .i64 0] 37 (0, 0)) :: (b6, .cells #[.slice adi k capi] 30 (0, 0)) :: (b4, .cells #[.slice adv k capv] 29 (0, 0)) :: (b2, .cells #[.bool m.disc.neg, .slice ad len cap, .slice ae le ce, .slice st m.states.length cs] 28 (0, 0)) :: (rbv ++ (rbi ++ marks bs))) ∧ Le (rd w14 Y8) (rd w1 Y1) ∧ (TRow 25 3 rbv adv k capv (flat es)) ∧ (TRow 3 1 rbi adi k capi (ivals is)) ∧ (backGo m.disc v (es.map (·.x)) is (m.states.drop k) = backGo m.disc v [] [] m.states) ∧ (∀ e ∈ es, e.ok (rd w1 (orN Y1 w.heap.size))) ∧ (k = es.length) ∧ (k = is.length) ∧ (k ≤ m.states.length)) (fun (k : Nat) => m.states.length - k) 0 ?_ ?_
 ·
  refine ⟨_, [], [], none, 0, [], [], none, 0, [], C33.as [1, 2, 4, 5, 6, 21, 22, 23] kr kr, A14, Le.refl _, TRow.nil _ _, TRow.nil _ _, rfl, fun _ h => absurd h (by simp), rfl, rfl, Nat.zero_le _⟩
 rintro k a34 w34 ⟨Y34, bs, rbv, adv, capv, es, rbi, adi, capi, is, C34, A34, j34, hp34_0, hp34_1, hp34_2, hp34_3, hp34_4, hp34_5, hp34_6⟩
 have hr1 := hp34_0
 have hr2 := hp34_1
 have hgo := hp34_2
 have hk1 := hp34_3
 have hke := hp34_4
 have hki := hp34_5
 have hkl := hp34_6
 refine zH (fun K35 G35 => ?_)
 refine zC ?_
 refine zD 1 [(24, .bool (decide ((k : Int) < (m.states.length : Int))))] C34 kr kr (fun a36 C36 => ?_)
 refine zK ?_
 refine zA (G35 _ _ ?_)
 refine zH (fun K37 G37 => ?_)
 refine i_cond (decide ((k : Int) < (m.states.length : Int))) C36 kr kr (fun hc38 => ?_) (fun hc38 => ?_)
 ·
  have C39 := C36.set 24 (v' := .bool true) kr rfl (zJ hc38)
  have ht40 : (k : Int) < (m.states.length : Int) := of_decide_eq_true hc38
  obtain ⟨b0, off0, rfl⟩ := hst.addr (by omega)
  obtain ⟨sx, ax, lx, cx, hxs, hAs, hacts⟩ := hst.at (k := k) (by omega)
  obtain rfl := hacts.hlen
  have hcapx := hacts.hcap
  have hbigx := hacts.hbig
  have hAs1 : At (rd w X) ⟨b0, off0 + k, none⟩ [.slice ax sx.length cx] := by simpa using hAs
  have hsx := List.mem_of_getElem? hxs
  have hlen6 := state_len hm0 hsx
  refine i_skip ?_
  refine zA (G37 _ _ ?_)
  refine zH (fun K41 G41 => ?_)
  refine zS ?_
  refine zH (fun K42 G42 => ?_)
  refine zC ?_
  refine wplI C39 kr (zF (d := 25) (v := .pointer (some ⟨b0, off0 + k, none⟩)) C39 kr (zO (t := 26) (e := 64) (b := b0) (off := off0) (len := m.states.length) (cap := cs) (kd := .i64) (i := (k : Int)) (g := false) (m := 1) (off' := off0 + k) rfl kr kr kr kr (by omega) (by omega) (by first | rfl | omega | (simp; done) | (simp; omega)) _) ?_)
  intro a43 C43
  refine wplI C43 kr (zF (d := 26) (v := .slice ax sx.length cx) C43 kr (zB (t := 64) (g := false) (vs := [.slice ax sx.length cx]) (ad := ⟨b0, off0 + k, none⟩) rfl kr kr ir ((hAs1.mono (Le6 j2 j4 j6 j8 j14 j34))).cells) ?_)
  intro a44 C44
  refine zD 1 [(9, .slice ax sx.length cx)] C44 kr kr (fun a45 C45 => ?_)
  refine zK ?_
  refine zA (G42 _ _ ?_)
  refine zH (fun K46 G46 => ?_)
  refine zC ?_
  refine wplI C45 kr (zQ (d := 10) (fun b => .pointer (some ⟨b, 0, none⟩)) (.cells #[.slice none 0 0] 29 (0, 0)) C45 kr A34 kw ?_)
  intro b47 w47 Y47 A47 j47 hu47 a48 C48
  refine zK ?_
  refine zA (G46 _ _ ?_)
  refine zH (fun K49 G49 => ?_)
  refine zH (fun K50 G50 => ?_)
  refine zC ?_
  refine wplI C48 kr (zF (d := 27) (v := .agg #[.bool m.disc.neg, .slice ad len cap, .slice ae le ce, .slice (some ⟨b0, off0, none⟩) m.states.length cs]) C48 kr (zB (t := 28) (g := true) (vs := [.bool m.disc.neg, .slice ad len cap, .slice ae le ce, .slice (some ⟨b0, off0, none⟩) m.states.length cs]) (ad := ⟨b2, 0, none⟩) rfl kr kr ir (A47.cells 4 rfl rfl)) ?_)
  intro a51 C51
  refine zD 2 [(29, .slice ax sx.length cx), (28, .slice av v.length cv)] C51 kr kr (fun a52 C52 => ?_)
  refine wplI C52 kr (zM (d := 30) (f := 44) (cap := #[]) (vs := #[.agg #[.bool m.disc.neg, .slice ad len cap, .slice ae le ce, .slice (some ⟨b0, off0, none⟩) m.states.length cs], .slice av v.length cv, .slice ax sx.length cx]) C52 kr A47 rfl kr kr (fun w => Tryz.call44 _ w) (scores_c _ _ A47.lt m.disc.neg ad len cap ae le ce (some ⟨b0, off0, none⟩) m.states.length cs av v.length cv ax sx.length cx) ?_)
  rintro v53 w53 A53 j53 hu53 ⟨b1_53, b2_53, b3_53, rfl, hb1_53, hb2_53, hb3_53⟩ a54 C54
  refine zK ?_
  refine zA (G50 _ _ ?_)
  refine zS ?_
  refine i_range2 (f := 75) (caps := #[.pointer (some ⟨b1_53, 0, none⟩), .pointer (some ⟨b2_53, 0, none⟩), .pointer (some ⟨b3_53, 0, none⟩)]) C54 A53 kr kr (fun args w => Tryz.call75 args w) ?_
  intro rec55 l55 b55 w55 Y55 hr55 A55 j55 hu55
  have C56 := fr_marked b55 C54
  refine scores1_c l55 b1_53 b2_53 b3_53 _ m.disc _ _ _ (h.mono (Le9 j2 j4 j6 j8 j14 j34 j47 j53 j55)) _ _ _ (h2.mono (Le9 j2 j4 j6 j8 j14 j34 j47 j53 j55)) _ _ _ v _ _ _ (hv.mono (Le9 j2 j4 j6 j8 j14 j34 j47 j53 j55)) (by omega) sx _ _ _ (hacts.mono (Le9 j2 j4 j6 j8 j14 j34 j47 j53 j55)) (by omega) (fun a ha => score_range hm0 hsx ha) (hb1_53.mono j55) (hb2_53.mono j55) (hb3_53.mono j55) w.heap.size (fun i w' Y' => ∃ (rbl : List (Nat × Obj)) (adl : Option Addr) (kl : Nat) (capl : Nat) (el : List RE), St E0 w X w' Y' ((l55, .loop rec55) :: (b55, .deferred (some [])) :: (b47, .cells #[.slice adl kl capl] 29 (0, 0)) :: (b8, .cells #[.int .i64 0] 37 (0, 0)) :: (b6, .cells #[.slice adi k capi] 30 (0, 0)) :: (b4, .cells #[.slice adv k capv] 29 (0, 0)) :: (b2, .cells #[.bool m.disc.neg, .slice ad len cap, .slice ae le ce, .slice (some ⟨b0, off0, none⟩) m.states.length cs] 28 (0, 0)) :: (rbl ++ (rbv ++ (rbi ++ marks bs)))) ∧ Le (rd w55 Y55) (rd w' Y') ∧ (TRow 25 3 rbl adl kl capl (flat el)) ∧ (scoresGo m.disc v (el.map (·.x)) (sx.drop i) = scoresV m.disc v sx) ∧ (∀ e ∈ el, e.ok (rd w' (orN Y' w.heap.size))) ∧ (kl = el.length) ∧ (kl = i)) _ ?_ ?_ ?_ ?_ _ Y55 ?_
  ·
   rintro i w57 Y57 ⟨rbl, adl, kl, capl, el, A57, j57, hp57_0, hp57_1, hp57_2, hp57_3, hp57_4⟩
   exact ⟨A57.lt, j57, A57.upd.size⟩
  ·
   rintro i w58 Y58 ⟨rbl, adl, kl, capl, el, A58, j58, hp58_0, hp58_1, hp58_2, hp58_3, hp58_4⟩
   intro w9 hu9
   exact ⟨_, _, _, _, _, A58.call hu9, j58.trans (hu9.le _), hp58_0, hp58_1, fun e he => (hp58_2 e he).mono ((hu9.le _).or _), hp58_3, hp58_4⟩
  ·
   intro i w59 Y59 hk
   rintro ⟨rbl, adl, kl, capl, el, A59, j59, hp59_0, hp59_1, hp59_2, hp59_3, hp59_4⟩
   intro xa u hxa hu
   obtain ⟨adu, lenu, capu, aeu, leu, ceu, rfl, hNu, hDu⟩ := hu
   have hrl := hp59_0
   have hgl := hp59_1
   have hkl1 := hp59_2
   have hel := hp59_3
   have hkk := hp59_4
   refine y_round2 (p := 31) (q := 32) hr55 C54 A59 kr kr (fun a60 C60 => ?_)
   refine zH (fun K61 G61 => ?_)
   refine zC ?_
   refine wplI C60 kr (zQ (d := 11) (fun b => .pointer (some ⟨b, 0, none⟩)) (.cells #[.bool false, .slice none 0 0, .slice none 0 0] 25 (0, 0)) C60 kr A59 kw ?_)
   intro b62 w62 Y62 A62 j62 hu62 a63 C63
   refine wplI C63 kr (zE (t := 25) (b := b62) (off := 0) (c' := #[.bool ((scoreV m.disc v xa).1.neg), .slice adu lenu capu, .slice aeu leu ceu]) (g := true) (m := 3) 0 _ C63 kr A62 rfl kr rfl kr kr kr rfl (by first | decide | (simp; done)) kr rfl ?_)
   intro w64 A64 j64
   refine zK ?_
   refine zA (G61 _ _ ?_)
   refine zC ?_
   refine zD 1 [(12, .int .i64 ((scoreV m.disc v xa).2))] C63 kr kr (fun a65 C65 => ?_)
   refine zK ?_
   refine zA ?_
   refine y_begin2 hr55 (St.front [(b62, .cells #[.bool ((scoreV m.disc v xa).1.neg), .slice adu lenu capu, .slice aeu leu ceu] 25 (0, 0))] A64) (fun w66 A66 j66 => ?_)
   refine zS ?_
   refine zH (fun K67 G67 => ?_)
   refine zH (fun K68 G68 => ?_)
   refine zC ?_
   refine zD 2 [(34, .bool (((scoreV m.disc v xa).2) != 0)), (33, .int .i64 ((scoreV m.disc v xa).2))] C65 kr kr (fun a69 C69 => ?_)
   refine zK ?_
   refine zA (G68 _ _ ?_)
   refine i_cond (((scoreV m.disc v xa).2) != 0) C69 kr kr (fun hc70 => ?_) (fun hc70 => ?_)
   ·
    have C71 := C69.set 34 (v' := .bool true) kr rfl (zJ hc70)
    have ht72 : ((scoreV m.disc v xa).2) ≠ 0 := by simpa using hc70
    have hse := hgl.symm.trans (scoresGo_stop hxa ht72)
    refine zH (fun K73 G73 => ?_)
    refine zC ?_
    refine zD 1 [(35, .int .i64 ((scoreV m.disc v xa).2))] C71 kr kr (fun a74 C74 => ?_)
    refine wplI C74 kr (zE (t := 29) (b := b4) (off := 0) (c' := #[.slice none 0 0]) (g := false) (m := 1) 6 _ C74 kr A66 rfl kr rfl kr kr kr rfl (by first | decide | (simp; done)) kr rfl ?_)
    intro w75 A75 j75
    refine wplI C74 kr (zE (t := 30) (b := b6) (off := 0) (c' := #[.slice none 0 0]) (g := false) (m := 1) 5 _ C74 kr A75 rfl kr rfl kr kr kr rfl (by first | decide | (simp; done)) kr rfl ?_)
    intro w76 A76 j76
    refine wplI C74 kr (zE (t := 37) (b := b8) (off := 0) (c' := #[.int .i64 ((scoreV m.disc v xa).2)]) (g := false) (m := 1) 4 _ C74 kr A76 rfl kr rfl kr kr kr rfl (by first | decide | (simp; done)) kr rfl ?_)
    intro w77 A77 j77
    refine zK ?_
    refine zA (G73 _ _ ?_)
    refine i_ret ?_
    refine then_ret ?_
    refine blk_ret ?_
    refine y_ret2 A77 (fun w78 A78 j78 => Rounds.stop (RangeEnd.ret A78 (fun w79 A79 j79 => ?_)))
    have A79 : St E0 w X w79 Y62 ((l55, .loop (exhL (retL rec55))) :: (b62, .cells #[.bool ((scoreV m.disc v xa).1.neg), .slice adu lenu capu, .slice aeu leu ceu] 25 (0, 0)) :: (b55, .deferred (some [])) :: (b47, .cells #[.slice adl kl capl] 29 (0, 0)) :: (b8, .cells #[.int .i64 ((scoreV m.disc v xa).2)] 37 (0, 0)) :: (b6, .cells #[.slice none 0 0] 30 (0, 0)) :: (b4, .cells #[.slice none 0 0] 29 (0, 0)) :: (b2, .cells #[.bool m.disc.neg, .slice ad len cap, .slice ae le ce, .slice (some ⟨b0, off0, none⟩) m.states.length cs] 28 (0, 0)) :: (rbl ++ (rbv ++ (rbi ++ marks bs)))) := A79
    have hSm : St E0 w X w79 Y62 ((l55, .loop (exhL (retL rec55))) :: (b62, .cells #[.bool ((scoreV m.disc v xa).1.neg), .slice adu lenu capu, .slice aeu leu ceu] 25 (0, 0)) :: (b47, .cells #[.slice adl kl capl] 29 (0, 0)) :: (b8, .cells #[.int .i64 ((scoreV m.disc v xa).2)] 37 (0, 0)) :: (b6, .cells #[.slice none 0 0] 30 (0, 0)) :: (b4, .cells #[.slice none 0 0] 29 (0, 0)) :: (b2, .cells #[.bool m.disc.neg, .slice ad len cap, .slice ae le ce, .slice (some ⟨b0, off0, none⟩) m.states.length cs] 28 (0, 0)) :: (rbl ++ (rbv ++ (rbi ++ ((b55, .deferred (some [])) :: marks bs))))) := A79.perm (by have h9 := perm_mark (A := [(l55, .loop (exhL (retL rec55))), (b62, .cells #[.bool ((scoreV m.disc v xa).1.neg), .slice adu lenu capu, .slice aeu leu ceu] 25 (0, 0))]) (B := ([(b47, .cells #[.slice adl kl capl] 29 (0, 0)), (b8, .cells #[.int .i64 ((scoreV m.disc v xa).2)] 37 (0, 0)), (b6, .cells #[.slice none 0 0] 30 (0, 0)), (b4, .cells #[.slice none 0 0] 29 (0, 0)), (b2, .cells #[.bool m.disc.neg, .slice ad len cap, .slice ae le ce, .slice (some ⟨b0, off0, none⟩) m.states.length cs] 28 (0, 0))] ++ (rbl ++ (rbv ++ rbi)))) (C := marks bs) (x := (b55, .deferred (some []))); simpa only [List.append_assoc, List.cons_append, List.nil_append] using h9)
    have A79 : St E0 w X w79 Y62 ((l55, .loop (exhL (retL rec55))) :: (b62, .cells #[.bool ((scoreV m.disc v xa).1.neg), .slice adu lenu capu, .slice aeu leu ceu] 25 (0, 0)) :: (b47, .cells #[.slice adl kl capl] 29 (0, 0)) :: (b8, .cells #[.int .i64 ((scoreV m.disc v xa).2)] 37 (0, 0)) :: (b6, .cells #[.slice none 0 0] 30 (0, 0)) :: (b4, .cells #[.slice none 0 0] 29 (0, 0)) :: (b2, .cells #[.bool m.disc.neg, .slice ad len cap, .slice ae le ce, .slice (some ⟨b0, off0, none⟩) m.states.length cs] 28 (0, 0)) :: (rbl ++ (rbv ++ (rbi ++ marks (b55 :: bs))))) := hSm
    refine blk_ret ?_
    refine then_ret ?_
    refine blk_ret ?_
    refine then_ret ?_
    refine then_ret ?_
    refine blk_ret ?_
    refine then_ret ?_
    have hSr : St E0 w X w79 Y62 (([(l55, .loop (exhL (retL rec55))), (b62, .cells #[.bool ((scoreV m.disc v xa).1.neg), .slice adu lenu capu, .slice aeu leu ceu] 25 (0, 0)), (b47, .cells #[.slice adl kl capl] 29 (0, 0)), (b8, .cells #[.int .i64 ((scoreV m.disc v xa).2)] 37 (0, 0)), (b6, .cells #[.slice none 0 0] 30 (0, 0)), (b4, .cells #[.slice none 0 0] 29 (0, 0)), (b2, .cells #[.bool m.disc.neg, .slice ad len cap, .slice ae le ce, .slice (some ⟨b0, off0, none⟩) m.states.length cs] 28 (0, 0))] ++ rbl ++ rbv ++ rbi) ++ marks (b55 :: bs)) := by have h9 : St E0 w X w79 Y62 ((l55, .loop (exhL (retL rec55))) :: (b62, .cells #[.bool ((scoreV m.disc v xa).1.neg), .slice adu lenu capu, .slice aeu leu ceu] 25 (0, 0)) :: (b47, .cells #[.slice adl kl capl] 29 (0, 0)) :: (b8, .cells #[.int .i64 ((scoreV m.disc v xa).2)] 37 (0, 0)) :: (b6, .cells #[.slice none 0 0] 30 (0, 0)) :: (b4, .cells #[.slice none 0 0] 29 (0, 0)) :: (b2, .cells #[.bool m.disc.neg, .slice ad len cap, .slice ae le ce, .slice (some ⟨b0, off0, none⟩) m.states.length cs] 28 (0, 0)) :: (rbl ++ (rbv ++ (rbi ++ marks (b55 :: bs))))) := A79; simpa only [List.append_assoc, List.cons_append, List.nil_append] using h9
    refine m_rets (bs := (b55 :: bs)) (N := ([(l55, .loop (exhL (retL rec55))), (b62, .cells #[.bool ((scoreV m.disc v xa).1.neg), .slice adu lenu capu, .slice aeu leu ceu] 25 (0, 0)), (b47, .cells #[.slice adl kl capl] 29 (0, 0)), (b8, .cells #[.int .i64 ((scoreV m.disc v xa).2)] 37 (0, 0)), (b6, .cells #[.slice none 0 0] 30 (0, 0)), (b4, .cells #[.slice none 0 0] 29 (0, 0)), (b2, .cells #[.bool m.disc.neg, .slice ad len cap, .slice ae le ce, .slice (some ⟨b0, off0, none⟩) m.states.length cs] 28 (0, 0))] ++ rbl ++ rbv ++ rbi)) (v := .tuple #[.slice none 0 0, .slice none 0 0, .int .i64 ((scoreV m.disc v xa).2)]) (rs := [.cell 4 29, .cell 5 30, .cell 6 37]) (vs := [.slice none 0 0, .slice none 0 0, .int .i64 ((scoreV m.disc v xa).2)]) C56 hSr kr kr (fun w80 A80 j80 => ?_)
    have A80 : St E0 w X w80 Y62 ((l55, .loop (exhL (retL rec55))) :: (b62, .cells #[.bool ((scoreV m.disc v xa).1.neg), .slice adu lenu capu, .slice aeu leu ceu] 25 (0, 0)) :: (b47, .cells #[.slice adl kl capl] 29 (0, 0)) :: (b8, .cells #[.int .i64 ((scoreV m.disc v xa).2)] 37 (0, 0)) :: (b6, .cells #[.slice none 0 0] 30 (0, 0)) :: (b4, .cells #[.slice none 0 0] 29 (0, 0)) :: (b2, .cells #[.bool m.disc.neg, .slice ad len cap, .slice ae le ce, .slice (some ⟨b0, off0, none⟩) m.states.length cs] 28 (0, 0)) :: (rbl ++ (rbv ++ rbi))) := by have h9 := A80; simpa only [List.append_assoc, List.cons_append, List.nil_append] using h9
    refine ⟨(Res.cell (ad := ⟨b4, 0, none⟩) (cs := [.slice none 0 0]) (g := false) kr kr kr ir (A80.cells 5 rfl rfl) (Res.cell (ad := ⟨b6, 0, none⟩) (cs := [.slice none 0 0]) (g := false) kr kr kr ir (A80.cells 4 rfl rfl) (Res.cell (ad := ⟨b8, 0, none⟩) (cs := [.int .i64 ((scoreV m.disc v xa).2)]) (g := false) kr kr kr ir (A80.cells 3 rfl rfl) Res.nil))), ?_⟩
    have hend : m.backV v = _ := hbg.trans (hgo.symm.trans ((backGo_stop hxs (by rw [hse]; exact ht72)).trans (by rw [hse])))
    exact ⟨A80.upd, _, rfl, _, _, _, _, _, _, by rw [hend], by rw [hend]; exact rats_nil, by rw [hend]; exact ints_nil⟩
   have C81 := C69.set 34 (v' := .bool false) kr rfl (zJ hc70)
   have ht82 : ((scoreV m.disc v xa).2) = 0 := by simpa using hc70
   refine i_skip ?_
   refine zA (G67 _ _ ?_)
   refine zC ?_
   refine wplI C81 kr (zF (d := 36) (v := .slice adl kl capl) C81 kr (zB (t := 29) (g := false) (vs := [.slice adl kl capl]) (ad := ⟨b47, 0, none⟩) rfl kr kr ir (A66.cells 3 rfl rfl)) ?_)
   intro a83 C83
   refine wplI C83 kr (zF (d := 37) (v := .agg #[.bool ((scoreV m.disc v xa).1.neg), .slice adu lenu capu, .slice aeu leu ceu]) C83 kr (zB (t := 25) (g := true) (vs := [.bool ((scoreV m.disc v xa).1.neg), .slice adu lenu capu, .slice aeu leu ceu]) (ad := ⟨b62, 0, none⟩) rfl kr kr ir (A66.cells 1 rfl rfl)) ?_)
   intro a84 C84
   refine wplI C84 kr (zQ (d := 38) (fun b => .slice (some ⟨b, 0, none⟩) 1 1) (.cells #[.bool ((scoreV m.disc v xa).1.neg), .slice adu lenu capu, .slice aeu leu ceu] 25 (0, 0)) C84 kr A66 kw ?_)
   intro b85 w85 Y85 A85 j85 hu85 a86 C86
   refine wplI C86 kr (op_app (d := 39) (t := 29) (e := 25) (size := 3) (m := 1) (c := 1) (nn := kl) (cap := capl) (ad0 := adl) (xs := (flat el)) (news := [.bool ((scoreV m.disc v xa).1.neg), .slice adu lenu capu, .slice aeu leu ceu]) (ad := ⟨b85, 0, none⟩) (z := .agg #[.bool false, .slice none 0 0, .slice none 0 0]) (i0 := Tryz.t25) (rb := rbl) (R1 := []) (B := (rbv ++ (rbi ++ marks bs))) 9 C86 kr A85 rfl rfl kr kr kr kr kr kr kr hrl (A85.cells 0 rfl rfl) kr kr (by omega) (by simp only [maxLen]; omega) (by show (_ + 1) * 56 ≤ _; omega) ?_)
   intro rb87 ad87 cap87 w87 Y87 hrow87 A87 j87 a88 C88
   have hrw87 : TRow 25 3 rb87 ad87 (kl + 1) cap87 (flat (el ++ [(RE.mk (scoreV m.disc v xa).1 adu lenu capu aeu leu ceu)])) := by rw [flat_snoc]; exact hrow87
   refine wplI C88 kr (zE (t := 29) (b := b47) (off := 0) (c' := #[.slice ad87 (kl + 1) cap87]) (g := false) (m := 1) 4 _ C88 kr A87 rfl kr rfl kr kr kr rfl (by first | decide | (simp; done)) kr rfl ?_)
   intro w89 A89 j89
   refine zK ?_
   refine zP ?_
   refine y_next2 hr55 A89.tail.swap.tail (fun w90 A90 j90 => Rounds.next ?_)
   refine Eq.mpr (if_pos (by simpa using ht82)) ?_
   exact ⟨_, rb87, ad87, (kl + 1), cap87, (el ++ [(RE.mk (scoreV m.disc v xa).1 adu lenu capu aeu leu ceu)]), A90, (Le8 j59 j62 j64 j66 j85 j87 j89 j90), hrw87, by rw [List.map_append]; exact (scoresGo_step hxa (by simpa using ht82)).symm.trans hgl, fun e he => by rcases List.mem_append.1 he with h1 | h1; exact (hkl1 e h1).mono (Le.or (Le7 j62 j64 j66 j85 j87 j89 j90) _); obtain rfl := List.mem_singleton.1 h1; exact ⟨(hNu.mono (Le.or (Le7 j62 j64 j66 j85 j87 j89 j90) _)), (hDu.mono (Le.or (Le7 j62 j64 j66 j85 j87 j89 j90) _))⟩, by rw [List.length_append, ← hel]; rfl, by omega⟩
  ·
   rintro w91 Y91 ⟨rbl, adl, kl, capl, el, A91, j91, hp91_0, hp91_1, hp91_2, hp91_3, hp91_4⟩
   refine RangeEnd.norm hr55 A91 (fun w92 A92 j92 => ?_)
   have A92 : St E0 w X w92 Y91 ((l55, .loop (exhL rec55)) :: (b55, .deferred (some [])) :: (b47, .cells #[.slice adl kl capl] 29 (0, 0)) :: (b8, .cells #[.int .i64 0] 37 (0, 0)) :: (b6, .cells #[.slice adi k capi] 30 (0, 0)) :: (b4, .cells #[.slice adv k capv] 29 (0, 0)) :: (b2, .cells #[.bool m.disc.neg, .slice ad len cap, .slice ae le ce, .slice (some ⟨b0, off0, none⟩) m.states.length cs] 28 (0, 0)) :: (rbl ++ (rbv ++ (rbi ++ marks bs)))) := A92
   have hSm : St E0 w X w92 Y91 ((l55, .loop (exhL rec55)) :: (b47, .cells #[.slice adl kl capl] 29 (0, 0)) :: (b8, .cells #[.int .i64 0] 37 (0, 0)) :: (b6, .cells #[.slice adi k capi] 30 (0, 0)) :: (b4, .cells #[.slice adv k capv] 29 (0, 0)) :: (b2, .cells #[.bool m.disc.neg, .slice ad len cap, .slice ae le ce, .slice (some ⟨b0, off0, none⟩) m.states.length cs] 28 (0, 0)) :: (rbl ++ (rbv ++ (rbi ++ ((b55, .deferred (some [])) :: marks bs))))) := A92.perm (by have h9 := perm_mark (A := [(l55, .loop (exhL rec55))]) (B := ([(b47, .cells #[.slice adl kl capl] 29 (0, 0)), (b8, .cells #[.int .i64 0] 37 (0, 0)), (b6, .cells #[.slice adi k capi] 30 (0, 0)), (b4, .cells #[.slice adv k capv] 29 (0, 0)), (b2, .cells #[.bool m.disc.neg, .slice ad len cap, .slice ae le ce, .slice (some ⟨b0, off0, none⟩) m.states.length cs] 28 (0, 0))] ++ (rbl ++ (rbv ++ rbi)))) (C := marks bs) (x := (b55, .deferred (some []))); simpa only [List.append_assoc, List.cons_append, List.nil_append] using h9)
   have A92 : St E0 w X w92 Y91 ((l55, .loop (exhL rec55)) :: (b47, .cells #[.slice adl kl capl] 29 (0, 0)) :: (b8, .cells #[.int .i64 0] 37 (0, 0)) :: (b6, .cells #[.slice adi k capi] 30 (0, 0)) :: (b4, .cells #[.slice adv k capv] 29 (0, 0)) :: (b2, .cells #[.bool m.disc.neg, .slice ad len cap, .slice ae le ce, .slice (some ⟨b0, off0, none⟩) m.states.length cs] 28 (0, 0)) :: (rbl ++ (rbv ++ (rbi ++ marks (b55 :: bs))))) := hSm
   have hrl := hp91_0
   have hgl := hp91_1
   have hkl1 := hp91_2
   have hel := hp91_3
   have hkk := hp91_4
   have hsv : scoresV m.disc v sx = (el.map (·.x), 0) := hgl.symm.trans (scoresGo_end (Nat.le_refl _))
   have hsv0 : (scoresV m.disc v sx).2 = 0 := by rw [hsv]
   have hsv1 : el.map (·.x) = (scoresV m.disc v sx).1 := by rw [hsv]
   have hbl := best_lt hsv0 hlen6.1
   refine zP ?_
   refine zA (G49 _ _ ?_)
   refine zH (fun K93 G93 => ?_)
   refine zC ?_
   refine wplI C56 kr (zF (d := 40) (v := .slice adl kl capl) C56 kr (zB (t := 29) (g := false) (vs := [.slice adl kl capl]) (ad := ⟨b47, 0, none⟩) rfl kr kr ir (A92.cells 1 rfl rfl)) ?_)
   intro a94 C94
   obtain ⟨Y95, hSx95, j95, hRx95⟩ := St.pubRatsN (A := [(l55, .loop (exhL rec55)), (b47, .cells #[.slice adl kl capl] 29 (0, 0)), (b8, .cells #[.int .i64 0] 37 (0, 0)), (b6, .cells #[.slice adi k capi] 30 (0, 0)), (b4, .cells #[.slice adv k capv] 29 (0, 0)), (b2, .cells #[.bool m.disc.neg, .slice ad len cap, .slice ae le ce, .slice (some ⟨b0, off0, none⟩) m.states.length cs] 28 (0, 0))]) (B := (rbv ++ (rbi ++ marks (b55 :: bs)))) (Nat.le_refl _) (fun rb => ((l55, .loop (exhL rec55)) :: (b47, .cells #[.slice adl kl capl] 29 (0, 0)) :: (b8, .cells #[.int .i64 0] 37 (0, 0)) :: (b6, .cells #[.slice adi k capi] 30 (0, 0)) :: (b4, .cells #[.slice adv k capv] 29 (0, 0)) :: (b2, .cells #[.bool m.disc.neg, .slice ad len cap, .slice ae le ce, .slice (some ⟨b0, off0, none⟩) m.states.length cs] 28 (0, 0)) :: (rb ++ (rbv ++ (rbi ++ marks (b55 :: bs)))))) A92 (fun _ => by simp only [List.append_assoc, List.cons_append, List.nil_append, List.append_nil]) hrl hel (fun e he => (hkl1 e he).mono (Le.or j92 _))
   have A95 : St E0 w X w92 Y95 ((l55, .loop (exhL rec55)) :: (b47, .cells #[.slice adl kl capl] 29 (0, 0)) :: (b8, .cells #[.int .i64 0] 37 (0, 0)) :: (b6, .cells #[.slice adi k capi] 30 (0, 0)) :: (b4, .cells #[.slice adv k capv] 29 (0, 0)) :: (b2, .cells #[.bool m.disc.neg, .slice ad len cap, .slice ae le ce, .slice (some ⟨b0, off0, none⟩) m.states.length cs] 28 (0, 0)) :: (rbv ++ (rbi ++ marks (b55 :: bs)))) := hSx95
   have hR95 : Rats (rd w92 (orN Y95 w.heap.size)) adl kl capl (scoresV m.disc v sx).1 := by have h9 := hRx95; rwa [hsv1] at h9
   have hbl1 : (scoresV m.disc v sx).1.length = sx.length := by rw [(scoresV_ok hsv0).1, List.length_map]
   have hkl2 := hR95.hlen
   obtain ⟨bw, offw, xk, ank, lnk, cnk, amk, lmk, cmk, rfl, hxk, hAk, hLk, hMk⟩ := hR95.cell (k := bestI m.disc v sx) (by omega)
   have hbr : bestR m.disc v sx = xk := getD_get hxk
   have hstep : backGo m.disc v (es.map (·.x)) is (m.states.drop k) = _ := backGo_step hxs hsv0
   rw [hbr] at hstep
   refine wplI C94 kr (zM (d := 41) (f := 45) (cap := #[]) (vs := #[.slice (some ⟨bw, offw, none⟩) kl capl, .func (.func 46) #[] #[]]) C94 kr A95 rfl kr kr (fun w => Tryz.call45 _ w) (least_c 46 lessB (fun args w => Tryz.call46 args w) smaller_lessB _ _ A95.lt _ _ _ (scoresV m.disc v sx).1 ((hR95.mono Le.orl).mono (Le.refl _)) (by omega)) ?_)
   rintro v96 w96 A96 j96 hu96 rfl a97 C97
   refine zD 1 [(13, .int .i64 ((bestI m.disc v sx : Nat) : Int))] C97 kr kr (fun a98 C98 => ?_)
   refine zK ?_
   refine zA (G93 _ _ ?_)
   refine i_drawN (N := 13) (Held [(⟨b47, 0, none⟩, [.slice (some ⟨bw, offw, none⟩) kl capl]), (⟨bw, offw + bestI m.disc v sx * 3, none⟩, [.bool xk.neg, .slice ank lnk cnk, .slice amk lmk cmk]), (⟨b6, 0, none⟩, [.slice adi k capi])]) [12] kr kr kr A96 ?_
   intro w99 A99 j99 hu99
   refine with_held (Held.cons (A99.cells 1 rfl rfl) (Held.cons (((hAk.mono Le.orl).mono (Le2 j96 j99))).cells (Held.cons (A99.cells 3 rfl rfl) (Held.nil _)))) (fun hH99 => ?_)
   refine t_load (d := 43) (v := .slice (some ⟨bw, offw, none⟩) kl capl) 1 C98 rfl kr kr kr (fun w hw => zB (t := 29) (g := false) (vs := [.slice (some ⟨bw, offw, none⟩) kl capl]) (ad := ⟨b47, 0, none⟩) rfl kr kr ir (hw.get 0 kr)) hH99 ?_
   intro a100 C100
   refine zR (d := 44) (v := .int .i64 ((bestI m.disc v sx : Nat) : Int)) 2 C100 rfl kr kr kw (fun _ => hH99) ?_
   intro a101 C101
   refine zR (d := 45) (v := .pointer (some ⟨bw, offw + bestI m.disc v sx * 3, none⟩)) 3 C101 rfl kr kr (fun w => zO (t := 29) (e := 25) (b := bw) (off := offw) (len := kl) (cap := capl) (kd := .i64) (i := ((bestI m.disc v sx : Nat) : Int)) (g := true) (m := 3) (off' := offw + bestI m.disc v sx * 3) rfl kr kr kr kr (by omega) (by omega) (by first | rfl | omega | (simp; done) | (simp; omega)) w) (fun _ => hH99) ?_
   intro a102 C102
   refine t_load (d := 46) (v := .agg #[.bool xk.neg, .slice ank lnk cnk, .slice amk lmk cmk]) 4 C102 rfl kr kr kr (fun w hw => zB (t := 25) (g := true) (vs := [.bool xk.neg, .slice ank lnk cnk, .slice amk lmk cmk]) (ad := ⟨bw, offw + bestI m.disc v sx * 3, none⟩) rfl kr kr ir (hw.get 1 kr)) hH99 ?_
   intro a103 C103
   refine t_load (d := 49) (v := .slice adi k capi) 7 C103 rfl kr kr kr (fun w hw => zB (t := 30) (g := false) (vs := [.slice adi k capi]) (ad := ⟨b6, 0, none⟩) rfl kr kr ir (hw.get 2 kr)) hH99 ?_
   intro a104 C104
   refine zR (d := 50) (v := .int .i64 ((bestI m.disc v sx : Nat) : Int)) 8 C104 rfl kr kr kw (fun _ => hH99) ?_
   intro a105 C105
   refine zL [0, 5, 9] kr rfl ?_
   refine ForkT.cons (i := 0) C105 rfl kr ?_ ?_
   ·
    refine zF (d := 42) (v := .slice adv k capv) C105 kr (zB (t := 29) (g := false) (vs := [.slice adv k capv]) (ad := ⟨b4, 0, none⟩) rfl kr kr ir (A99.cells 4 rfl rfl)) ?_
    intro a106 C106
    refine zG (Held.cons (A99.cells 1 rfl rfl) (Held.cons (((hAk.mono Le.orl).mono (Le2 j96 j99))).cells (Held.cons (A99.cells 3 rfl rfl) (Held.nil _)))) (fun hH99 => ?_)
    refine zL [5, 9] kr rfl ?_
    refine ForkT.cons (i := 5) C106 rfl kr ?_ ?_
    ·
     refine zQ (d := 47) (fun b => .slice (some ⟨b, 0, none⟩) 1 1) (.cells #[.bool xk.neg, .slice ank lnk cnk, .slice amk lmk cmk] 25 (0, 0)) C106 kr A99 kw ?_
     intro b107 w107 Y107 A107 j107 hu107 a108 C108
     refine zG (hH99.up hu107) (fun hH107 => ?_)
     refine zL [6, 9] kr rfl ?_
     refine ForkT.cons (i := 6) C108 rfl kr ?_ ?_
     ·
      refine op_app (d := 48) (t := 29) (e := 25) (size := 3) (m := 1) (c := 1) (nn := k) (cap := capv) (ad0 := adv) (xs := (flat es)) (news := [.bool xk.neg, .slice ank lnk cnk, .slice amk lmk cmk]) (ad := ⟨b107, 0, none⟩) (z := .agg #[.bool false, .slice none 0 0, .slice none 0 0]) (i0 := Tryz.t25) (rb := rbv) (R1 := []) (B := (rbi ++ marks (b55 :: bs))) 7 C108 kr A107 rfl rfl kr kr kr kr kr kr kr hr1 (A107.cells 0 rfl rfl) kr kr (by omega) (by simp only [maxLen]; omega) (by show (_ + 1) * 56 ≤ _; omega) ?_
      intro rb109 ad109 cap109 w109 Y109 hrow109 A109 j109 a110 C110
      have hrw109 : TRow 25 3 rb109 ad109 (k + 1) cap109 (flat (es ++ [(RE.mk xk ank lnk cnk amk lmk cmk)])) := by rw [flat_snoc]; exact hrow109
      refine zG (Held.cons (A109.cells 2 rfl rfl) (Held.cons (((hAk.mono Le.orl).mono (Le4 j96 j99 j107 j109))).cells (Held.cons (A109.cells 4 rfl rfl) (Held.nil _)))) (fun hH109 => ?_)
      refine zL [9] kr rfl ?_
      refine ForkT.cons (i := 9) C110 rfl kr (zQ (d := 51) (fun b => .slice (some ⟨b, 0, none⟩) 1 1) (.cells #[.int .i64 ((bestI m.disc v sx : Nat) : Int)] 3 (0, 0)) C110 kr A109 kw ?_) ForkT.nil
      intro b111 w111 Y111 A111 j111 hu111 a112 C112
      refine zG (hH109.up hu111) (fun hH111 => ?_)
      refine zL [10] kr rfl ?_
      refine ForkT.cons (i := 10) C112 rfl kr (op_app (d := 52) (t := 30) (e := 3) (size := 1) (m := 1) (c := 1) (nn := k) (cap := capi) (ad0 := adi) (xs := (ivals is)) (news := [.int .i64 ((bestI m.disc v sx : Nat) : Int)]) (ad := ⟨b111, 0, none⟩) (z := .int .i64 0) (i0 := Tryz.t3) (rb := rbi) (R1 := rb109) (B := (marks (b55 :: bs))) 8 C112 kr A111 rfl rfl kr kr kr kr kr kr kr hr2 (A111.cells 0 rfl rfl) kr kr (by omega) (by simp only [maxLen]; omega) (by show (_ + 1) * 8 ≤ _; omega) ?_) ForkT.nil
      intro rb113 ad113 cap113 w113 Y113 hrow113 A113 j113 a114 C114
      have hrw113 : TRow 3 1 rb113 ad113 (k + 1) cap113 (ivals (is ++ [((bestI m.disc v sx : Nat) : Int)])) := by rw [ivals_snoc]; exact hrow113
      refine zG (Held.cons (A113.cells 3 rfl rfl) (Held.cons (((hAk.mono Le.orl).mono (Le6 j96 j99 j107 j109 j111 j113))).cells (Held.cons (A113.cells 5 rfl rfl) (Held.nil _)))) (fun hH113 => ?_)
      refine zL [11] kr rfl ?_
      refine ForkT.cons (i := 11) C114 rfl kr (zE (t := 29) (b := b4) (off := 0) (c' := #[.slice ad109 (k + 1) cap109]) (g := false) (m := 1) 6 _ C114 kr A113 rfl kr rfl kr kr kr rfl (by first | decide | (simp; done)) kr rfl ?_) ForkT.nil
      intro w115 A115 j115
      refine zG (Held.cons (A115.cells 3 rfl rfl) (Held.cons (((hAk.mono Le.orl).mono (Le7 j96 j99 j107 j109 j111 j113 j115))).cells (Held.cons (A115.cells 5 rfl rfl) (Held.nil _)))) (fun hH115 => ?_)
      refine zL [12] kr rfl ?_
      refine ForkT.cons (i := 12) C114 rfl kr (zE (t := 30) (b := b6) (off := 0) (c' := #[.slice ad113 (k + 1) cap113]) (g := false) (m := 1) 5 _ C114 kr A115 rfl kr rfl kr kr kr rfl (by first | decide | (simp; done)) kr rfl ?_) ForkT.nil
      intro w116 A116 j116
      refine ⟨begun_tt kr, ?_⟩
      refine t_done kr (nrm ?_)
      refine zP ?_
      refine zA (G41 _ _ ?_)
      refine zC ?_
      refine zD 1 [(53, .int .i64 (IntKind.i64.wrap ((k : Int) + 1)))] C114 kr kr (fun a117 C117 => ?_)
      have C118 := C117.set 53 (v' := .int .i64 ((k : Int) + 1)) kr rfl (vint (wi64 (by omega) (by omega)))
      refine zD 1 [(23, .int .i64 ((k : Int) + 1))] C118 kr kr (fun a119 C119 => ?_)
      refine zK ?_
      refine zA ?_
      refine ⟨k + 1, ⟨_, (b55 :: bs), rb109, ad109, cap109, (es ++ [(RE.mk xk ank lnk cnk amk lmk cmk)]), rb113, ad113, cap113, (is ++ [((bestI m.disc v sx : Nat) : Int)]), C119.as [1, 2, 4, 5, 6, 21, 22, 23] kr kr, A116.tail.tail.tail.tail, (Le15 j34 j47 j53 j55 j91 j92 j95 j96 j99 j107 j109 j111 j113 j115 j116), hrw109, hrw113, by rw [List.map_append]; exact hstep.symm.trans hgo, fun e he => by rcases List.mem_append.1 he with h1 | h1; exact (hk1 e h1).mono (Le.or (Le14 j47 j53 j55 j91 j92 j95 j96 j99 j107 j109 j111 j113 j115 j116) _); obtain rfl := List.mem_singleton.1 h1; exact ⟨(hLk.mono (Le.or (Le8 j96 j99 j107 j109 j111 j113 j115 j116) _)), (hMk.mono (Le.or (Le8 j96 j99 j107 j109 j111 j113 j115 j116) _))⟩, by rw [List.length_append, ← hke]; rfl, by rw [List.length_append, ← hki]; rfl, by omega⟩, ?_⟩
      first | omega | (simp; omega)
     refine ForkT.cons (i := 9) C108 rfl kr (zQ (d := 51) (fun b => .slice (some ⟨b, 0, none⟩) 1 1) (.cells #[.int .i64 ((bestI m.disc v sx : Nat) : Int)] 3 (0, 0)) C108 kr A107 kw ?_) ForkT.nil
     intro b120 w120 Y120 A120 j120 hu120 a121 C121
     refine zG (hH107.up hu120) (fun hH120 => ?_)
     refine zL [6] kr rfl ?_
     refine ForkT.cons (i := 6) C121 rfl kr (op_app (d := 48) (t := 29) (e := 25) (size := 3) (m := 1) (c := 1) (nn := k) (cap := capv) (ad0 := adv) (xs := (flat es)) (news := [.bool xk.neg, .slice ank lnk cnk, .slice amk lmk cmk]) (ad := ⟨b107, 0, none⟩) (z := .agg #[.bool false, .slice none 0 0, .slice none 0 0]) (i0 := Tryz.t25) (rb := rbv) (R1 := []) (B := (rbi ++ marks (b55 :: bs))) 8 C121 kr A120 rfl rfl kr kr kr kr kr kr kr hr1 (A120.cells 1 rfl rfl) kr kr (by omega) (by simp only [maxLen]; omega) (by show (_ + 1) * 56 ≤ _; omega) ?_) ForkT.nil
     intro rb122 ad122 cap122 w122 Y122 hrow122 A122 j122 a123 C123
     have hrw122 : TRow 25 3 rb122 ad122 (k + 1) cap122 (flat (es ++ [(RE.mk xk ank lnk cnk amk lmk cmk)])) := by rw [flat_snoc]; exact hrow122
     refine zG (Held.cons (A122.cells 3 rfl rfl) (Held.cons (((hAk.mono Le.orl).mono (Le5 j96 j99 j107 j120 j122))).cells (Held.cons (A122.cells 5 rfl rfl) (Held.nil _)))) (fun hH122 => ?_)
     refine zL [10] kr rfl ?_
     refine ForkT.cons (i := 10) C123 rfl kr (op_app (d := 52) (t := 30) (e := 3) (size := 1) (m := 1) (c := 1) (nn := k) (cap := capi) (ad0 := adi) (xs := (ivals is)) (news := [.int .i64 ((bestI m.disc v sx : Nat) : Int)]) (ad := ⟨b120, 0, none⟩) (z := .int .i64 0) (i0 := Tryz.t3) (rb := rbi) (R1 := rb122) (B := (marks (b55 :: bs))) 8 C123 kr A122 rfl rfl kr kr kr kr kr kr kr hr2 (A122.cells 0 rfl rfl) kr kr (by omega) (by simp only [maxLen]; omega) (by show (_ + 1) * 8 ≤ _; omega) ?_) ForkT.nil
     intro rb124 ad124 cap124 w124 Y124 hrow124 A124 j124 a125 C125
     have hrw124 : TRow 3 1 rb124 ad124 (k + 1) cap124 (ivals (is ++ [((bestI m.disc v sx : Nat) : Int)])) := by rw [ivals_snoc]; exact hrow124
     refine zG (Held.cons (A124.cells 3 rfl rfl) (Held.cons (((hAk.mono Le.orl).mono (Le6 j96 j99 j107 j120 j122 j124))).cells (Held.cons (A124.cells 5 rfl rfl) (Held.nil _)))) (fun hH124 => ?_)
     refine zL [11] kr rfl ?_
     refine ForkT.cons (i := 11) C125 rfl kr (zE (t := 29) (b := b4) (off := 0) (c' := #[.slice ad122 (k + 1) cap122]) (g := false) (m := 1) 6 _ C125 kr A124 rfl kr rfl kr kr kr rfl (by first | decide | (simp; done)) kr rfl ?_) ForkT.nil
     intro w126 A126 j126
     refine zG (Held.cons (A126.cells 3 rfl rfl) (Held.cons (((hAk.mono Le.orl).mono (Le7 j96 j99 j107 j120 j122 j124 j126))).cells (Held.cons (A126.cells 5 rfl rfl) (Held.nil _)))) (fun hH126 => ?_)
     refine zL [12] kr rfl ?_
     refine ForkT.cons (i := 12) C125 rfl kr (zE (t := 30) (b := b6) (off := 0) (c' := #[.slice ad124 (k + 1) cap124]) (g := false) (m := 1) 5 _ C125 kr A126 rfl kr rfl kr kr kr rfl (by first | decide | (simp; done)) kr rfl ?_) ForkT.nil
     intro w127 A127 j127
     refine ⟨begun_tt kr, ?_⟩
     refine t_done kr (nrm ?_)
     refine zP ?_
     refine zA (G41 _ _ ?_)
     refine zC ?_
     refine zD 1 [(53, .int .i64 (IntKind.i64.wrap ((k : Int) + 1)))] C125 kr kr (fun a128 C128 => ?_)
     have C129 := C128.set 53 (v' := .int .i64 ((k : Int) + 1)) kr rfl (vint (wi64 (by omega) (by omega)))
     refine zD 1 [(23, .int .i64 ((k : Int) + 1))] C129 kr kr (fun a130 C130 => ?_)
     refine zK ?_
     refine zA ?_
     refine ⟨k + 1, ⟨_, (b55 :: bs), rb122, ad122, cap122, (es ++ [(RE.mk xk ank lnk cnk amk lmk cmk)]), rb124, ad124, cap124, (is ++ [((bestI m.disc v sx : Nat) : Int)]), C130.as [1, 2, 4, 5, 6, 21, 22, 23] kr kr, A127.tail.tail.tail.tail, (Le15 j34 j47 j53 j55 j91 j92 j95 j96 j99 j107 j120 j122 j124 j126 j127), hrw122, hrw124, by rw [List.map_append]; exact hstep.symm.trans hgo, fun e he => by rcases List.mem_append.1 he with h1 | h1; exact (hk1 e h1).mono (Le.or (Le14 j47 j53 j55 j91 j92 j95 j96 j99 j107 j120 j122 j124 j126 j127) _); obtain rfl := List.mem_singleton.1 h1; exact ⟨(hLk.mono (Le.or (Le8 j96 j99 j107 j120 j122 j124 j126 j127) _)), (hMk.mono (Le.or (Le8 j96 j99 j107 j120 j122 j124 j126 j127) _))⟩, by rw [List.length_append, ← hke]; rfl, by rw [List.length_append, ← hki]; rfl, by omega⟩, ?_⟩
     first | omega | (simp; omega)
    refine ForkT.cons (i := 9) C106 rfl kr (zQ (d := 51) (fun b => .slice (some ⟨b, 0, none⟩) 1 1) (.cells #[.int .i64 ((bestI m.disc v sx : Nat) : Int)] 3 (0, 0)) C106 kr A99 kw ?_) ForkT.nil
    intro b131 w131 Y131 A131 j131 hu131 a132 C132
    refine zG (hH99.up hu131) (fun hH131 => ?_)
    refine zL [5] kr rfl ?_
    refine ForkT.cons (i := 5) C132 rfl kr (zQ (d := 47) (fun b => .slice (some ⟨b, 0, none⟩) 1 1) (.cells #[.bool xk.neg, .slice ank lnk cnk, .slice amk lmk cmk] 25 (0, 0)) C132 kr A131 kw ?_) ForkT.nil
    intro b133 w133 Y133 A133 j133 hu133 a134 C134
    refine zG (hH131.up hu133) (fun hH133 => ?_)
    refine zL [6] kr rfl ?_
    refine ForkT.cons (i := 6) C134 rfl kr (op_app (d := 48) (t := 29) (e := 25) (size := 3) (m := 1) (c := 1) (nn := k) (cap := capv) (ad0 := adv) (xs := (flat es)) (news := [.bool xk.neg, .slice ank lnk cnk, .slice amk lmk cmk]) (ad := ⟨b133, 0, none⟩) (z := .agg #[.bool false, .slice none 0 0, .slice none 0 0]) (i0 := Tryz.t25) (rb := rbv) (R1 := []) (B := (rbi ++ marks (b55 :: bs))) 8 C134 kr A133 rfl rfl kr kr kr kr kr kr kr hr1 (A133.cells 0 rfl rfl) kr kr (by omega) (by simp only [maxLen]; omega) (by show (_ + 1) * 56 ≤ _; omega) ?_) ForkT.nil
    intro rb135 ad135 cap135 w135 Y135 hrow135 A135 j135 a136 C136
    have hrw135 : TRow 25 3 rb135 ad135 (k + 1) cap135 (flat (es ++ [(RE.mk xk ank lnk cnk amk lmk cmk)])) := by rw [flat_snoc]; exact hrow135
    refine zG (Held.cons (A135.cells 3 rfl rfl) (Held.cons (((hAk.mono Le.orl).mono (Le5 j96 j99 j131 j133 j135))).cells (Held.cons (A135.cells 5 rfl rfl) (Held.nil _)))) (fun hH135 => ?_)
    refine zL [10] kr rfl ?_
    refine ForkT.cons (i := 10) C136 rfl kr (op_app (d := 52) (t := 30) (e := 3) (size := 1) (m := 1) (c := 1) (nn := k) (cap := capi) (ad0 := adi) (xs := (ivals is)) (news := [.int .i64 ((bestI m.disc v sx : Nat) : Int)]) (ad := ⟨b131, 0, none⟩) (z := .int .i64 0) (i0 := Tryz.t3) (rb := rbi) (R1 := rb135) (B := (marks (b55 :: bs))) 8 C136 kr A135 rfl rfl kr kr kr kr kr kr kr hr2 (A135.cells 1 rfl rfl) kr kr (by omega) (by simp only [maxLen]; omega) (by show (_ + 1) * 8 ≤ _; omega) ?_) ForkT.nil
    intro rb137 ad137 cap137 w137 Y137 hrow137 A137 j137 a138 C138
    have hrw137 : TRow 3 1 rb137 ad137 (k + 1) cap137 (ivals (is ++ [((bestI m.disc v sx : Nat) : Int)])) := by rw [ivals_snoc]; exact hrow137
    refine zG (Held.cons (A137.cells 3 rfl rfl) (Held.cons (((hAk.mono Le.orl).mono (Le6 j96 j99 j131 j133 j135 j137))).cells (Held.cons (A137.cells 5 rfl rfl) (Held.nil _)))) (fun hH137 => ?_)
    refine zL [11] kr rfl ?_
    refine ForkT.cons (i := 11) C138 rfl kr (zE (t := 29) (b := b4) (off := 0) (c' := #[.slice ad135 (k + 1) cap135]) (g := false) (m := 1) 6 _ C138 kr A137 rfl kr rfl kr kr kr rfl (by first | decide | (simp; done)) kr rfl ?_) ForkT.nil
    intro w139 A139 j139
    refine zG (Held.cons (A139.cells 3 rfl rfl) (Held.cons (((hAk.mono Le.orl).mono (Le7 j96 j99 j131 j133 j135 j137 j139))).cells (Held.cons (A139.cells 5 rfl rfl) (Held.nil _)))) (fun hH139 => ?_)
    refine zL [12] kr rfl ?_
    refine ForkT.cons (i := 12) C138 rfl kr (zE (t := 30) (b := b6) (off := 0) (c' := #[.slice ad137 (k + 1) cap137]) (g := false) (m := 1) 5 _ C138 kr A139 rfl kr rfl kr kr kr rfl (by first | decide | (simp; done)) kr rfl ?_) ForkT.nil
    intro w140 A140 j140
    refine ⟨begun_tt kr, ?_⟩
    refine t_done kr (nrm ?_)
    refine zP ?_
    refine zA (G41 _ _ ?_)
    refine zC ?_
    refine zD 1 [(53, .int .i64 (IntKind.i64.wrap ((k : Int) + 1)))] C138 kr kr (fun a141 C141 => ?_)
    have C142 := C141.set 53 (v' := .int .i64 ((k : Int) + 1)) kr rfl (vint (wi64 (by omega) (by omega)))
    refine zD 1 [(23, .int .i64 ((k : Int) + 1))] C142 kr kr (fun a143 C143 => ?_)
    refine zK ?_
    refine zA ?_
    refine ⟨k + 1, ⟨_, (b55 :: bs), rb135, ad135, cap135, (es ++ [(RE.mk xk ank lnk cnk amk lmk cmk)]), rb137, ad137, cap137, (is ++ [((bestI m.disc v sx : Nat) : Int)]), C143.as [1, 2, 4, 5, 6, 21, 22, 23] kr kr, A140.tail.tail.tail.tail, (Le15 j34 j47 j53 j55 j91 j92 j95 j96 j99 j131 j133 j135 j137 j139 j140), hrw135, hrw137, by rw [List.map_append]; exact hstep.symm.trans hgo, fun e he => by rcases List.mem_append.1 he with h1 | h1; exact (hk1 e h1).mono (Le.or (Le14 j47 j53 j55 j91 j92 j95 j96 j99 j131 j133 j135 j137 j139 j140) _); obtain rfl := List.mem_singleton.1 h1; exact ⟨(hLk.mono (Le.or (Le8 j96 j99 j131 j133 j135 j137 j139 j140) _)), (hMk.mono (Le.or (Le8 j96 j99 j131 j133 j135 j137 j139 j140) _))⟩, by rw [List.length_append, ← hke]; rfl, by rw [List.length_append, ← hki]; rfl, by omega⟩, ?_⟩
    first | omega | (simp; omega)
   refine ForkT.cons (i := 5) C105 rfl kr ?_ ?_
   ·
    refine zQ (d := 47) (fun b => .slice (some ⟨b, 0, none⟩) 1 1) (.cells #[.bool xk.neg, .slice ank lnk cnk, .slice amk lmk cmk] 25 (0, 0)) C105 kr A99 kw ?_
    intro b144 w144 Y144 A144 j144 hu144 a145 C145
    refine zG (hH99.up hu144) (fun hH144 => ?_)
    refine zL [0, 9] kr rfl ?_
    refine ForkT.cons (i := 0) C145 rfl kr ?_ ?_
    ·
     refine zF (d := 42) (v := .slice adv k capv) C145 kr (zB (t := 29) (g := false) (vs := [.slice adv k capv]) (ad := ⟨b4, 0, none⟩) rfl kr kr ir (A144.cells 5 rfl rfl)) ?_
     intro a146 C146
     refine zG (Held.cons (A144.cells 2 rfl rfl) (Held.cons (((hAk.mono Le.orl).mono (Le3 j96 j99 j144))).cells (Held.cons (A144.cells 4 rfl rfl) (Held.nil _)))) (fun hH144 => ?_)
     refine zL [6, 9] kr rfl ?_
     refine ForkT.cons (i := 6) C146 rfl kr ?_ ?_
     ·
      refine op_app (d := 48) (t := 29) (e := 25) (size := 3) (m := 1) (c := 1) (nn := k) (cap := capv) (ad0 := adv) (xs := (flat es)) (news := [.bool xk.neg, .slice ank lnk cnk, .slice amk lmk cmk]) (ad := ⟨b144, 0, none⟩) (z := .agg #[.bool false, .slice none 0 0, .slice none 0 0]) (i0 := Tryz.t25) (rb := rbv) (R1 := []) (B := (rbi ++ marks (b55 :: bs))) 7 C146 kr A144 rfl rfl kr kr kr kr kr kr kr hr1 (A144.cells 0 rfl rfl) kr kr (by omega) (by simp only [maxLen]; omega) (by show (_ + 1) * 56 ≤ _; omega) ?_
      intro rb147 ad147 cap147 w147 Y147 hrow147 A147 j147 a148 C148
      have hrw147 : TRow 25 3 rb147 ad147 (k + 1) cap147 (flat (es ++ [(RE.mk xk ank lnk cnk amk lmk cmk)])) := by rw [flat_snoc]; exact hrow147
      refine zG (Held.cons (A147.cells 2 rfl rfl) (Held.cons (((hAk.mono Le.orl).mono (Le4 j96 j99 j144 j147))).cells (Held.cons (A147.cells 4 rfl rfl) (Held.nil _)))) (fun hH147 => ?_)
      refine zL [9] kr rfl ?_
      refine ForkT.cons (i := 9) C148 rfl kr (zQ (d := 51) (fun b => .slice (some ⟨b, 0, none⟩) 1 1) (.cells #[.int .i64 ((bestI m.disc v sx : Nat) : Int)] 3 (0, 0)) C148 kr A147 kw ?_) ForkT.nil
      intro b149 w149 Y149 A149 j149 hu149 a150 C150
      refine zG (hH147.up hu149) (fun hH149 => ?_)
      refine zL [10] kr rfl ?_
      refine ForkT.cons (i := 10) C150 rfl kr (op_app (d := 52) (t := 30) (e := 3) (size := 1) (m := 1) (c := 1) (nn := k) (cap := capi) (ad0 := adi) (xs := (ivals is)) (news := [.int .i64 ((bestI m.disc v sx : Nat) : Int)]) (ad := ⟨b149, 0, none⟩) (z := .int .i64 0) (i0 := Tryz.t3) (rb := rbi) (R1 := rb147) (B := (marks (b55 :: bs))) 8 C150 kr A149 rfl rfl kr kr kr kr kr kr kr hr2 (A149.cells 0 rfl rfl) kr kr (by omega) (by simp only [maxLen]; omega) (by show (_ + 1) * 8 ≤ _; omega) ?_) ForkT.nil
      intro rb151 ad151 cap151 w151 Y151 hrow151 A151 j151 a152 C152
      have hrw151 : TRow 3 1 rb151 ad151 (k + 1) cap151 (ivals (is ++ [((bestI m.disc v sx : Nat) : Int)])) := by rw [ivals_snoc]; exact hrow151
      refine zG (Held.cons (A151.cells 3 rfl rfl) (Held.cons (((hAk.mono Le.orl).mono (Le6 j96 j99 j144 j147 j149 j151))).cells (Held.cons (A151.cells 5 rfl rfl) (Held.nil _)))) (fun hH151 => ?_)
      refine zL [11] kr rfl ?_
      refine ForkT.cons (i := 11) C152 rfl kr (zE (t := 29) (b := b4) (off := 0) (c' := #[.slice ad147 (k + 1) cap147]) (g := false) (m := 1) 6 _ C152 kr A151 rfl kr rfl kr kr kr rfl (by first | decide | (simp; done)) kr rfl ?_) ForkT.nil
      intro w153 A153 j153
      refine zG (Held.cons (A153.cells 3 rfl rfl) (Held.cons (((hAk.mono Le.orl).mono (Le7 j96 j99 j144 j147 j149 j151 j153))).cells (Held.cons (A153.cells 5 rfl rfl) (Held.nil _)))) (fun hH153 => ?_)
      refine zL [12] kr rfl ?_
      refine ForkT.cons (i := 12) C152 rfl kr (zE (t := 30) (b := b6) (off := 0) (c' := #[.slice ad151 (k + 1) cap151]) (g := false) (m := 1) 5 _ C152 kr A153 rfl kr rfl kr kr kr rfl (by first | decide | (simp; done)) kr rfl ?_) ForkT.nil
      intro w154 A154 j154
      refine ⟨begun_tt kr, ?_⟩
      refine t_done kr (nrm ?_)
      refine zP ?_
      refine zA (G41 _ _ ?_)
      refine zC ?_
      refine zD 1 [(53, .int .i64 (IntKind.i64.wrap ((k : Int) + 1)))] C152 kr kr (fun a155 C155 => ?_)
      have C156 := C155.set 53 (v' := .int .i64 ((k : Int) + 1)) kr rfl (vint (wi64 (by omega) (by omega)))
      refine zD 1 [(23, .int .i64 ((k : Int) + 1))] C156 kr kr (fun a157 C157 => ?_)
      refine zK ?_
      refine zA ?_
      refine ⟨k + 1, ⟨_, (b55 :: bs), rb147, ad147, cap147, (es ++ [(RE.mk xk ank lnk cnk amk lmk cmk)]), rb151, ad151, cap151, (is ++ [((bestI m.disc v sx : Nat) : Int)]), C157.as [1, 2, 4, 5, 6, 21, 22, 23] kr kr, A154.tail.tail.tail.tail, (Le15 j34 j47 j53 j55 j91 j92 j95 j96 j99 j144 j147 j149 j151 j153 j154), hrw147, hrw151, by rw [List.map_append]; exact hstep.symm.trans hgo, fun e he => by rcases List.mem_append.1 he with h1 | h1; exact (hk1 e h1).mono (Le.or (Le14 j47 j53 j55 j91 j92 j95 j96 j99 j144 j147 j149 j151 j153 j154) _); obtain rfl := List.mem_singleton.1 h1; exact ⟨(hLk.mono (Le.or (Le8 j96 j99 j144 j147 j149 j151 j153 j154) _)), (hMk.mono (Le.or (Le8 j96 j99 j144 j147 j149 j151 j153 j154) _))⟩, by rw [List.length_append, ← hke]; rfl, by rw [List.length_append, ← hki]; rfl, by omega⟩, ?_⟩
      first | omega | (simp; omega)
     refine ForkT.cons (i := 9) C146 rfl kr (zQ (d := 51) (fun b => .slice (some ⟨b, 0, none⟩) 1 1) (.cells #[.int .i64 ((bestI m.disc v sx : Nat) : Int)] 3 (0, 0)) C146 kr A144 kw ?_) ForkT.nil
     intro b158 w158 Y158 A158 j158 hu158 a159 C159
     refine zG (hH144.up hu158) (fun hH158 => ?_)
     refine zL [6] kr rfl ?_
     refine ForkT.cons (i := 6) C159 rfl kr (op_app (d := 48) (t := 29) (e := 25) (size := 3) (m := 1) (c := 1) (nn := k) (cap := capv) (ad0 := adv) (xs := (flat es)) (news := [.bool xk.neg, .slice ank lnk cnk, .slice amk lmk cmk]) (ad := ⟨b144, 0, none⟩) (z := .agg #[.bool false, .slice none 0 0, .slice none 0 0]) (i0 := Tryz.t25) (rb := rbv) (R1 := []) (B := (rbi ++ marks (b55 :: bs))) 8 C159 kr A158 rfl rfl kr kr kr kr kr kr kr hr1 (A158.cells 1 rfl rfl) kr kr (by omega) (by simp only [maxLen]; omega) (by show (_ + 1) * 56 ≤ _; omega) ?_) ForkT.nil
     intro rb160 ad160 cap160 w160 Y160 hrow160 A160 j160 a161 C161
     have hrw160 : TRow 25 3 rb160 ad160 (k + 1) cap160 (flat (es ++ [(RE.mk xk ank lnk cnk amk lmk cmk)])) := by rw [flat_snoc]; exact hrow160
     refine zG (Held.cons (A160.cells 3 rfl rfl) (Held.cons (((hAk.mono Le.orl).mono (Le5 j96 j99 j144 j158 j160))).cells (Held.cons (A160.cells 5 rfl rfl) (Held.nil _)))) (fun hH160 => ?_)
     refine zL [10] kr rfl ?_
     refine ForkT.cons (i := 10) C161 rfl kr (op_app (d := 52) (t := 30) (e := 3) (size := 1) (m := 1) (c := 1) (nn := k) (cap := capi) (ad0 := adi) (xs := (ivals is)) (news := [.int .i64 ((bestI m.disc v sx : Nat) : Int)]) (ad := ⟨b158, 0, none⟩) (z := .int .i64 0) (i0 := Tryz.t3) (rb := rbi) (R1 := rb160) (B := (marks (b55 :: bs))) 8 C161 kr A160 rfl rfl kr kr kr kr kr kr kr hr2 (A160.cells 0 rfl rfl) kr kr (by omega) (by simp only [maxLen]; omega) (by show (_ + 1) * 8 ≤ _; omega) ?_) ForkT.nil
     intro rb162 ad162 cap162 w162 Y162 hrow162 A162 j162 a163 C163
     have hrw162 : TRow 3 1 rb162 ad162 (k + 1) cap162 (ivals (is ++ [((bestI m.disc v sx : Nat) : Int)])) := by rw [ivals_snoc]; exact hrow162
     refine zG (Held.cons (A162.cells 3 rfl rfl) (Held.cons (((hAk.mono Le.orl).mono (Le6 j96 j99 j144 j158 j160 j162))).cells (Held.cons (A162.cells 5 rfl rfl) (Held.nil _)))) (fun hH162 => ?_)
     refine zL [11] kr rfl ?_
     refine ForkT.cons (i := 11) C163 rfl kr (zE (t := 29) (b := b4) (off := 0) (c' := #[.slice ad160 (k + 1) cap160]) (g := false) (m := 1) 6 _ C163 kr A162 rfl kr rfl kr kr kr rfl (by first | decide | (simp; done)) kr rfl ?_) ForkT.nil
     intro w164 A164 j164
     refine zG (Held.cons (A164.cells 3 rfl rfl) (Held.cons (((hAk.mono Le.orl).mono (Le7 j96 j99 j144 j158 j160 j162 j164))).cells (Held.cons (A164.cells 5 rfl rfl) (Held.nil _)))) (fun hH164 => ?_)
     refine zL [12] kr rfl ?_
     refine ForkT.cons (i := 12) C163 rfl kr (zE (t := 30) (b := b6) (off := 0) (c' := #[.slice ad162 (k + 1) cap162]) (g := false) (m := 1) 5 _ C163 kr A164 rfl kr rfl kr kr kr rfl (by first | decide | (simp; done)) kr rfl ?_) ForkT.nil
     intro w165 A165 j165
     refine ⟨begun_tt kr, ?_⟩
     refine t_done kr (nrm ?_)
     refine zP ?_
     refine zA (G41 _ _ ?_)
     refine zC ?_
     refine zD 1 [(53, .int .i64 (IntKind.i64.wrap ((k : Int) + 1)))] C163 kr kr (fun a166 C166 => ?_)
     have C167 := C166.set 53 (v' := .int .i64 ((k : Int) + 1)) kr rfl (vint (wi64 (by omega) (by omega)))
     refine zD 1 [(23, .int .i64 ((k : Int) + 1))] C167 kr kr (fun a168 C168 => ?_)
     refine zK ?_
     refine zA ?_
     refine ⟨k + 1, ⟨_, (b55 :: bs), rb160, ad160, cap160, (es ++ [(RE.mk xk ank lnk cnk amk lmk cmk)]), rb162, ad162, cap162, (is ++ [((bestI m.disc v sx : Nat) : Int)]), C168.as [1, 2, 4, 5, 6, 21, 22, 23] kr kr, A165.tail.tail.tail.tail, (Le15 j34 j47 j53 j55 j91 j92 j95 j96 j99 j144 j158 j160 j162 j164 j165), hrw160, hrw162, by rw [List.map_append]; exact hstep.symm.trans hgo, fun e he => by rcases List.mem_append.1 he with h1 | h1; exact (hk1 e h1).mono (Le.or (Le14 j47 j53 j55 j91 j92 j95 j96 j99 j144 j158 j160 j162 j164 j165) _); obtain rfl := List.mem_singleton.1 h1; exact ⟨(hLk.mono (Le.or (Le8 j96 j99 j144 j158 j160 j162 j164 j165) _)), (hMk.mono (Le.or (Le8 j96 j99 j144 j158 j160 j162 j164 j165) _))⟩, by rw [List.length_append, ← hke]; rfl, by rw [List.length_append, ← hki]; rfl, by omega⟩, ?_⟩
     first | omega | (simp; omega)
    refine ForkT.cons (i := 9) C145 rfl kr (zQ (d := 51) (fun b => .slice (some ⟨b, 0, none⟩) 1 1) (.cells #[.int .i64 ((bestI m.disc v sx : Nat) : Int)] 3 (0, 0)) C145 kr A144 kw ?_) ForkT.nil
    intro b169 w169 Y169 A169 j169 hu169 a170 C170
    refine zG (hH144.up hu169) (fun hH169 => ?_)
    refine zL [0] kr rfl ?_
    refine ForkT.cons (i := 0) C170 rfl kr (zF (d := 42) (v := .slice adv k capv) C170 kr (zB (t := 29) (g := false) (vs := [.slice adv k capv]) (ad := ⟨b4, 0, none⟩) rfl kr kr ir (A169.cells 6 rfl rfl)) ?_) ForkT.nil
    intro a171 C171
    refine zG (Held.cons (A169.cells 3 rfl rfl) (Held.cons (((hAk.mono Le.orl).mono (Le4 j96 j99 j144 j169))).cells (Held.cons (A169.cells 5 rfl rfl) (Held.nil _)))) (fun hH169 => ?_)
    refine zL [6] kr rfl ?_
    refine ForkT.cons (i := 6) C171 rfl kr (op_app (d := 48) (t := 29) (e := 25) (size := 3) (m := 1) (c := 1) (nn := k) (cap := capv) (ad0 := adv) (xs := (flat es)) (news := [.bool xk.neg, .slice ank lnk cnk, .slice amk lmk cmk]) (ad := ⟨b144, 0, none⟩) (z := .agg #[.bool false, .slice none 0 0, .slice none 0 0]) (i0 := Tryz.t25) (rb := rbv) (R1 := []) (B := (rbi ++ marks (b55 :: bs))) 8 C171 kr A169 rfl rfl kr kr kr kr kr kr kr hr1 (A169.cells 1 rfl rfl) kr kr (by omega) (by simp only [maxLen]; omega) (by show (_ + 1) * 56 ≤ _; omega) ?_) ForkT.nil
    intro rb172 ad172 cap172 w172 Y172 hrow172 A172 j172 a173 C173
    have hrw172 : TRow 25 3 rb172 ad172 (k + 1) cap172 (flat (es ++ [(RE.mk xk ank lnk cnk amk lmk cmk)])) := by rw [flat_snoc]; exact hrow172
    refine zG (Held.cons (A172.cells 3 rfl rfl) (Held.cons (((hAk.mono Le.orl).mono (Le5 j96 j99 j144 j169 j172))).cells (Held.cons (A172.cells 5 rfl rfl) (Held.nil _)))) (fun hH172 => ?_)
    refine zL [10] kr rfl ?_
    refine ForkT.cons (i := 10) C173 rfl kr (op_app (d := 52) (t := 30) (e := 3) (size := 1) (m := 1) (c := 1) (nn := k) (cap := capi) (ad0 := adi) (xs := (ivals is)) (news := [.int .i64 ((bestI m.disc v sx : Nat) : Int)]) (ad := ⟨b169, 0, none⟩) (z := .int .i64 0) (i0 := Tryz.t3) (rb := rbi) (R1 := rb172) (B := (marks (b55 :: bs))) 8 C173 kr A172 rfl rfl kr kr kr kr kr kr kr hr2 (A172.cells 0 rfl rfl) kr kr (by omega) (by simp only [maxLen]; omega) (by show (_ + 1) * 8 ≤ _; omega) ?_) ForkT.nil
    intro rb174 ad174 cap174 w174 Y174 hrow174 A174 j174 a175 C175
    have hrw174 : TRow 3 1 rb174 ad174 (k + 1) cap174 (ivals (is ++ [((bestI m.disc v sx : Nat) : Int)])) := by rw [ivals_snoc]; exact hrow174
    refine zG (Held.cons (A174.cells 3 rfl rfl) (Held.cons (((hAk.mono Le.orl).mono (Le6 j96 j99 j144 j169 j172 j174))).cells (Held.cons (A174.cells 5 rfl rfl) (Held.nil _)))) (fun hH174 => ?_)
    refine zL [11] kr rfl ?_
    refine ForkT.cons (i := 11) C175 rfl kr (zE (t := 29) (b := b4) (off := 0) (c' := #[.slice ad172 (k + 1) cap172]) (g := false) (m := 1) 6 _ C175 kr A174 rfl kr rfl kr kr kr rfl (by first | decide | (simp; done)) kr rfl ?_) ForkT.nil
    intro w176 A176 j176
    refine zG (Held.cons (A176.cells 3 rfl rfl) (Held.cons (((hAk.mono Le.orl).mono (Le7 j96 j99 j144 j169 j172 j174 j176))).cells (Held.cons (A176.cells 5 rfl rfl) (Held.nil _)))) (fun hH176 => ?_)
    refine zL [12] kr rfl ?_
    refine ForkT.cons (i := 12) C175 rfl kr (zE (t := 30) (b := b6) (off := 0) (c' := #[.slice ad174 (k + 1) cap174]) (g := false) (m := 1) 5 _ C175 kr A176 rfl kr rfl kr kr kr rfl (by first | decide | (simp; done)) kr rfl ?_) ForkT.nil
    intro w177 A177 j177
    refine ⟨begun_tt kr, ?_⟩
    refine t_done kr (nrm ?_)
    refine zP ?_
    refine zA (G41 _ _ ?_)
    refine zC ?_
    refine zD 1 [(53, .int .i64 (IntKind.i64.wrap ((k : Int) + 1)))] C175 kr kr (fun a178 C178 => ?_)
    have C179 := C178.set 53 (v' := .int .i64 ((k : Int) + 1)) kr rfl (vint (wi64 (by omega) (by omega)))
    refine zD 1 [(23, .int .i64 ((k : Int) + 1))] C179 kr kr (fun a180 C180 => ?_)
    refine zK ?_
    refine zA ?_
    refine ⟨k + 1, ⟨_, (b55 :: bs), rb172, ad172, cap172, (es ++ [(RE.mk xk ank lnk cnk amk lmk cmk)]), rb174, ad174, cap174, (is ++ [((bestI m.disc v sx : Nat) : Int)]), C180.as [1, 2, 4, 5, 6, 21, 22, 23] kr kr, A177.tail.tail.tail.tail, (Le15 j34 j47 j53 j55 j91 j92 j95 j96 j99 j144 j169 j172 j174 j176 j177), hrw172, hrw174, by rw [List.map_append]; exact hstep.symm.trans hgo, fun e he => by rcases List.mem_append.1 he with h1 | h1; exact (hk1 e h1).mono (Le.or (Le14 j47 j53 j55 j91 j92 j95 j96 j99 j144 j169 j172 j174 j176 j177) _); obtain rfl := List.mem_singleton.1 h1; exact ⟨(hLk.mono (Le.or (Le8 j96 j99 j144 j169 j172 j174 j176 j177) _)), (hMk.mono (Le.or (Le8 j96 j99 j144 j169 j172 j174 j176 j177) _))⟩, by rw [List.length_append, ← hke]; rfl, by rw [List.length_append, ← hki]; rfl, by omega⟩, ?_⟩
    first | omega | (simp; omega)
   refine ForkT.cons (i := 9) C105 rfl kr (zQ (d := 51) (fun b => .slice (some ⟨b, 0, none⟩) 1 1) (.cells #[.int .i64 ((bestI m.disc v sx : Nat) : Int)] 3 (0, 0)) C105 kr A99 kw ?_) ForkT.nil
   intro b181 w181 Y181 A181 j181 hu181 a182 C182
   refine zG (hH99.up hu181) (fun hH181 => ?_)
   refine zL [0, 5] kr rfl ?_
   refine ForkT.cons (i := 0) C182 rfl kr ?_ ?_
   ·
    refine zF (d := 42) (v := .slice adv k capv) C182 kr (zB (t := 29) (g := false) (vs := [.slice adv k capv]) (ad := ⟨b4, 0, none⟩) rfl kr kr ir (A181.cells 5 rfl rfl)) ?_
    intro a183 C183
    refine zG (Held.cons (A181.cells 2 rfl rfl) (Held.cons (((hAk.mono Le.orl).mono (Le3 j96 j99 j181))).cells (Held.cons (A181.cells 4 rfl rfl) (Held.nil _)))) (fun hH181 => ?_)
    refine zL [5] kr rfl ?_
    refine ForkT.cons (i := 5) C183 rfl kr (zQ (d := 47) (fun b => .slice (some ⟨b, 0, none⟩) 1 1) (.cells #[.bool xk.neg, .slice ank lnk cnk, .slice amk lmk cmk] 25 (0, 0)) C183 kr A181 kw ?_) ForkT.nil
    intro b184 w184 Y184 A184 j184 hu184 a185 C185
    refine zG (hH181.up hu184) (fun hH184 => ?_)
    refine zL [6] kr rfl ?_
    refine ForkT.cons (i := 6) C185 rfl kr (op_app (d := 48) (t := 29) (e := 25) (size := 3) (m := 1) (c := 1) (nn := k) (cap := capv) (ad0 := adv) (xs := (flat es)) (news := [.bool xk.neg, .slice ank lnk cnk, .slice amk lmk cmk]) (ad := ⟨b184, 0, none⟩) (z := .agg #[.bool false, .slice none 0 0, .slice none 0 0]) (i0 := Tryz.t25) (rb := rbv) (R1 := []) (B := (rbi ++ marks (b55 :: bs))) 8 C185 kr A184 rfl rfl kr kr kr kr kr kr kr hr1 (A184.cells 0 rfl rfl) kr kr (by omega) (by simp only [maxLen]; omega) (by show (_ + 1) * 56 ≤ _; omega) ?_) ForkT.nil
    intro rb186 ad186 cap186 w186 Y186 hrow186 A186 j186 a187 C187
    have hrw186 : TRow 25 3 rb186 ad186 (k + 1) cap186 (flat (es ++ [(RE.mk xk ank lnk cnk amk lmk cmk)])) := by rw [flat_snoc]; exact hrow186
    refine zG (Held.cons (A186.cells 3 rfl rfl) (Held.cons (((hAk.mono Le.orl).mono (Le5 j96 j99 j181 j184 j186))).cells (Held.cons (A186.cells 5 rfl rfl) (Held.nil _)))) (fun hH186 => ?_)
    refine zL [10] kr rfl ?_
    refine ForkT.cons (i := 10) C187 rfl kr (op_app (d := 52) (t := 30) (e := 3) (size := 1) (m := 1) (c := 1) (nn := k) (cap := capi) (ad0 := adi) (xs := (ivals is)) (news := [.int .i64 ((bestI m.disc v sx : Nat) : Int)]) (ad := ⟨b181, 0, none⟩) (z := .int .i64 0) (i0 := Tryz.t3) (rb := rbi) (R1 := rb186) (B := (marks (b55 :: bs))) 8 C187 kr A186 rfl rfl kr kr kr kr kr kr kr hr2 (A186.cells 1 rfl rfl) kr kr (by omega) (by simp only [maxLen]; omega) (by show (_ + 1) * 8 ≤ _; omega) ?_) ForkT.nil
    intro rb188 ad188 cap188 w188 Y188 hrow188 A188 j188 a189 C189
    have hrw188 : TRow 3 1 rb188 ad188 (k + 1) cap188 (ivals (is ++ [((bestI m.disc v sx : Nat) : Int)])) := by rw [ivals_snoc]; exact hrow188
    refine zG (Held.cons (A188.cells 3 rfl rfl) (Held.cons (((hAk.mono Le.orl).mono (Le6 j96 j99 j181 j184 j186 j188))).cells (Held.cons (A188.cells 5 rfl rfl) (Held.nil _)))) (fun hH188 => ?_)
    refine zL [11] kr rfl ?_
    refine ForkT.cons (i := 11) C189 rfl kr (zE (t := 29) (b := b4) (off := 0) (c' := #[.slice ad186 (k + 1) cap186]) (g := false) (m := 1) 6 _ C189 kr A188 rfl kr rfl kr kr kr rfl (by first | decide | (simp; done)) kr rfl ?_) ForkT.nil
    intro w190 A190 j190
    refine zG (Held.cons (A190.cells 3 rfl rfl) (Held.cons (((hAk.mono Le.orl).mono (Le7 j96 j99 j181 j184 j186 j188 j190))).cells (Held.cons (A190.cells 5 rfl rfl) (Held.nil _)))) (fun hH190 => ?_)
    refine zL [12] kr rfl ?_
    refine ForkT.cons (i := 12) C189 rfl kr (zE (t := 30) (b := b6) (off := 0) (c' := #[.slice ad188 (k + 1) cap188]) (g := false) (m := 1) 5 _ C189 kr A190 rfl kr rfl kr kr kr rfl (by first | decide | (simp; done)) kr rfl ?_) ForkT.nil
    intro w191 A191 j191
    refine ⟨begun_tt kr, ?_⟩
    refine t_done kr (nrm ?_)
    refine zP ?_
    refine zA (G41 _ _ ?_)
    refine zC ?_
    refine zD 1 [(53, .int .i64 (IntKind.i64.wrap ((k : Int) + 1)))] C189 kr kr (fun a192 C192 => ?_)
    have C193 := C192.set 53 (v' := .int .i64 ((k : Int) + 1)) kr rfl (vint (wi64 (by omega) (by omega)))
    refine zD 1 [(23, .int .i64 ((k : Int) + 1))] C193 kr kr (fun a194 C194 => ?_)
    refine zK ?_
    refine zA ?_
    refine ⟨k + 1, ⟨_, (b55 :: bs), rb186, ad186, cap186, (es ++ [(RE.mk xk ank lnk cnk amk lmk cmk)]), rb188, ad188, cap188, (is ++ [((bestI m.disc v sx : Nat) : Int)]), C194.as [1, 2, 4, 5, 6, 21, 22, 23] kr kr, A191.tail.tail.tail.tail, (Le15 j34 j47 j53 j55 j91 j92 j95 j96 j99 j181 j184 j186 j188 j190 j191), hrw186, hrw188, by rw [List.map_append]; exact hstep.symm.trans hgo, fun e he => by rcases List.mem_append.1 he with h1 | h1; exact (hk1 e h1).mono (Le.or (Le14 j47 j53 j55 j91 j92 j95 j96 j99 j181 j184 j186 j188 j190 j191) _); obtain rfl := List.mem_singleton.1 h1; exact ⟨(hLk.mono (Le.or (Le8 j96 j99 j181 j184 j186 j188 j190 j191) _)), (hMk.mono (Le.or (Le8 j96 j99 j181 j184 j186 j188 j190 j191) _))⟩, by rw [List.length_append, ← hke]; rfl, by rw [List.length_append, ← hki]; rfl, by omega⟩, ?_⟩
    first | omega | (simp; omega)
   refine ForkT.cons (i := 5) C182 rfl kr (zQ (d := 47) (fun b => .slice (some ⟨b, 0, none⟩) 1 1) (.cells #[.bool xk.neg, .slice ank lnk cnk, .slice amk lmk cmk] 25 (0, 0)) C182 kr A181 kw ?_) ForkT.nil
   intro b195 w195 Y195 A195 j195 hu195 a196 C196
   refine zG (hH181.up hu195) (fun hH195 => ?_)
   refine zL [0] kr rfl ?_
   refine ForkT.cons (i := 0) C196 rfl kr (zF (d := 42) (v := .slice adv k capv) C196 kr (zB (t := 29) (g := false) (vs := [.slice adv k capv]) (ad := ⟨b4, 0, none⟩) rfl kr kr ir (A195.cells 6 rfl rfl)) ?_) ForkT.nil
   intro a197 C197
   refine zG (Held.cons (A195.cells 3 rfl rfl) (Held.cons (((hAk.mono Le.orl).mono (Le4 j96 j99 j181 j195))).cells (Held.cons (A195.cells 5 rfl rfl) (Held.nil _)))) (fun hH195 => ?_)
   refine zL [6] kr rfl ?_
   refine ForkT.cons (i := 6) C197 rfl kr (op_app (d := 48) (t := 29) (e := 25) (size := 3) (m := 1) (c := 1) (nn := k) (cap := capv) (ad0 := adv) (xs := (flat es)) (news := [.bool xk.neg, .slice ank lnk cnk, .slice amk lmk cmk]) (ad := ⟨b195, 0, none⟩) (z := .agg #[.bool false, .slice none 0 0, .slice none 0 0]) (i0 := Tryz.t25) (rb := rbv) (R1 := []) (B := (rbi ++ marks (b55 :: bs))) 8 C197 kr A195 rfl rfl kr kr kr kr kr kr kr hr1 (A195.cells 0 rfl rfl) kr kr (by omega) (by simp only [maxLen]; omega) (by show (_ + 1) * 56 ≤ _; omega) ?_) ForkT.nil
   intro rb198 ad198 cap198 w198 Y198 hrow198 A198 j198 a199 C199
   have hrw198 : TRow 25 3 rb198 ad198 (k + 1) cap198 (flat (es ++ [(RE.mk xk ank lnk cnk amk lmk cmk)])) := by rw [flat_snoc]; exact hrow198
   refine zG (Held.cons (A198.cells 3 rfl rfl) (Held.cons (((hAk.mono Le.orl).mono (Le5 j96 j99 j181 j195 j198))).cells (Held.cons (A198.cells 5 rfl rfl) (Held.nil _)))) (fun hH198 => ?_)
   refine zL [10] kr rfl ?_
   refine ForkT.cons (i := 10) C199 rfl kr (op_app (d := 52) (t := 30) (e := 3) (size := 1) (m := 1) (c := 1) (nn := k) (cap := capi) (ad0 := adi) (xs := (ivals is)) (news := [.int .i64 ((bestI m.disc v sx : Nat) : Int)]) (ad := ⟨b181, 0, none⟩) (z := .int .i64 0) (i0 := Tryz.t3) (rb := rbi) (R1 := rb198) (B := (marks (b55 :: bs))) 8 C199 kr A198 rfl rfl kr kr kr kr kr kr kr hr2 (A198.cells 1 rfl rfl) kr kr (by omega) (by simp only [maxLen]; omega) (by show (_ + 1) * 8 ≤ _; omega) ?_) ForkT.nil
   intro rb200 ad200 cap200 w200 Y200 hrow200 A200 j200 a201 C201
   have hrw200 : TRow 3 1 rb200 ad200 (k + 1) cap200 (ivals (is ++ [((bestI m.disc v sx : Nat) : Int)])) := by rw [ivals_snoc]; exact hrow200
   refine zG (Held.cons (A200.cells 3 rfl rfl) (Held.cons (((hAk.mono Le.orl).mono (Le6 j96 j99 j181 j195 j198 j200))).cells (Held.cons (A200.cells 5 rfl rfl) (Held.nil _)))) (fun hH200 => ?_)
   refine zL [11] kr rfl ?_
   refine ForkT.cons (i := 11) C201 rfl kr (zE (t := 29) (b := b4) (off := 0) (c' := #[.slice ad198 (k + 1) cap198]) (g := false) (m := 1) 6 _ C201 kr A200 rfl kr rfl kr kr kr rfl (by first | decide | (simp; done)) kr rfl ?_) ForkT.nil
   intro w202 A202 j202
   refine zG (Held.cons (A202.cells 3 rfl rfl) (Held.cons (((hAk.mono Le.orl).mono (Le7 j96 j99 j181 j195 j198 j200 j202))).cells (Held.cons (A202.cells 5 rfl rfl) (Held.nil _)))) (fun hH202 => ?_)
   refine zL [12] kr rfl ?_
   refine ForkT.cons (i := 12) C201 rfl kr (zE (t := 30) (b := b6) (off := 0) (c' := #[.slice ad200 (k + 1) cap200]) (g := false) (m := 1) 5 _ C201 kr A202 rfl kr rfl kr kr kr rfl (by first | decide | (simp; done)) kr rfl ?_) ForkT.nil
   intro w203 A203 j203
   refine ⟨begun_tt kr, ?_⟩
   refine t_done kr (nrm ?_)
   refine zP ?_
   refine zA (G41 _ _ ?_)
   refine zC ?_
   refine zD 1 [(53, .int .i64 (IntKind.i64.wrap ((k : Int) + 1)))] C201 kr kr (fun a204 C204 => ?_)
   have C205 := C204.set 53 (v' := .int .i64 ((k : Int) + 1)) kr rfl (vint (wi64 (by omega) (by omega)))
   refine zD 1 [(23, .int .i64 ((k : Int) + 1))] C205 kr kr (fun a206 C206 => ?_)
   refine zK ?_
   refine zA ?_
   refine ⟨k + 1, ⟨_, (b55 :: bs), rb198, ad198, cap198, (es ++ [(RE.mk xk ank lnk cnk amk lmk cmk)]), rb200, ad200, cap200, (is ++ [((bestI m.disc v sx : Nat) : Int)]), C206.as [1, 2, 4, 5, 6, 21, 22, 23] kr kr, A203.tail.tail.tail.tail, (Le15 j34 j47 j53 j55 j91 j92 j95 j96 j99 j181 j195 j198 j200 j202 j203), hrw198, hrw200, by rw [List.map_append]; exact hstep.symm.trans hgo, fun e he => by rcases List.mem_append.1 he with h1 | h1; exact (hk1 e h1).mono (Le.or (Le14 j47 j53 j55 j91 j92 j95 j96 j99 j181 j195 j198 j200 j202 j203) _); obtain rfl := List.mem_singleton.1 h1; exact ⟨(hLk.mono (Le.or (Le8 j96 j99 j181 j195 j198 j200 j202 j203) _)), (hMk.mono (Le.or (Le8 j96 j99 j181 j195 j198 j200 j202 j203) _))⟩, by rw [List.length_append, ← hke]; rfl, by rw [List.length_append, ← hki]; rfl, by omega⟩, ?_⟩
   first | omega | (simp; omega)
  ·
   exact ⟨[], none, 0, 0, [], A55, Le.refl _, TRow.nil _ _, rfl, fun _ h => absurd h (by simp), rfl, rfl⟩
 have C207 := C36.set 24 (v' := .bool false) kr rfl (zJ hc38)
 have ht208 : ¬ ((k : Int) < (m.states.length : Int)) := of_decide_eq_false hc38
 refine i_exit ?_
 refine then_exit ?_
 refine then_exit ?_
 refine blk_here ?_
 refine zA (G29 _ _ ?_)
 refine zH (fun K209 G209 => ?_)
 refine i_drawN (N := 5) (Held [(⟨b6, 0, none⟩, [.slice adi k capi])]) [3, 4] kr kr kr A34 ?_
 intro w210 A210 j210 hu210
 refine with_held (Held.cons (A210.cells 1 rfl rfl) (Held.nil _)) (fun hH210 => ?_)
 refine t_load (d := 55) (v := .slice adi k capi) 1 C207 rfl kr kr kr (fun w hw => zB (t := 30) (g := false) (vs := [.slice adi k capi]) (ad := ⟨b6, 0, none⟩) rfl kr kr ir (hw.get 0 kr)) hH210 ?_
 intro a211 C211
 refine zL [0] kr rfl ?_
 refine ForkT.cons (i := 0) C211 rfl kr (zF (d := 54) (v := .slice adv k capv) C211 kr (zB (t := 29) (g := false) (vs := [.slice adv k capv]) (ad := ⟨b4, 0, none⟩) rfl kr kr ir (A210.cells 2 rfl rfl)) ?_) ForkT.nil
 intro a212 C212
 refine zG (Held.cons (A210.cells 1 rfl rfl) (Held.nil _)) (fun hH210 => ?_)
 refine zL [2] kr rfl ?_
 refine ForkT.cons (i := 2) C212 rfl kr (zE (t := 29) (b := b4) (off := 0) (c' := #[.slice adv k capv]) (g := false) (m := 1) 2 _ C212 kr A210 rfl kr rfl kr kr kr rfl (by first | decide | (simp; done)) kr rfl ?_) ForkT.nil
 intro w213 A213 j213
 refine zG (Held.cons (A213.cells 1 rfl rfl) (Held.nil _)) (fun hH213 => ?_)
 refine zL [3] kr rfl ?_
 refine ForkT.cons (i := 3) C212 rfl kr (zE (t := 30) (b := b6) (off := 0) (c' := #[.slice adi k capi]) (g := false) (m := 1) 1 _ C212 kr A213 rfl kr rfl kr kr kr rfl (by first | decide | (simp; done)) kr rfl ?_) ForkT.nil
 intro w214 A214 j214
 refine ⟨begun_tt kr, ?_⟩
 refine zL [4] kr rfl ?_
 refine ForkT.cons (i := 4) C212 rfl kr (zE (t := 37) (b := b8) (off := 0) (c' := #[.int .i64 0]) (g := false) (m := 1) 0 _ C212 kr A214 rfl kr rfl kr kr kr rfl (by first | decide | (simp; done)) kr rfl ?_) ForkT.nil
 intro w215 A215 j215
 refine ⟨begun_tt kr, ?_⟩
 refine t_done kr (nrm ?_)
 refine zA (G209 _ _ ?_)
 refine i_ret ?_
 have hSr : St E0 w X w215 Y34 (([(b8, .cells #[.int .i64 0] 37 (0, 0)), (b6, .cells #[.slice adi k capi] 30 (0, 0)), (b4, .cells #[.slice adv k capv] 29 (0, 0)), (b2, .cells #[.bool m.disc.neg, .slice ad len cap, .slice ae le ce, .slice st m.states.length cs] 28 (0, 0))] ++ rbv ++ rbi) ++ marks bs) := by have h9 : St E0 w X w215 Y34 ((b8, .cells #[.int .i64 0] 37 (0, 0)) :: (b6, .cells #[.slice adi k capi] 30 (0, 0)) :: (b4, .cells #[.slice adv k capv] 29 (0, 0)) :: (b2, .cells #[.bool m.disc.neg, .slice ad len cap, .slice ae le ce, .slice st m.states.length cs] 28 (0, 0)) :: (rbv ++ (rbi ++ marks bs))) := A215; simpa only [List.append_assoc, List.cons_append, List.nil_append] using h9
 refine m_rets (bs := bs) (N := ([(b8, .cells #[.int .i64 0] 37 (0, 0)), (b6, .cells #[.slice adi k capi] 30 (0, 0)), (b4, .cells #[.slice adv k capv] 29 (0, 0)), (b2, .cells #[.bool m.disc.neg, .slice ad len cap, .slice ae le ce, .slice st m.states.length cs] 28 (0, 0))] ++ rbv ++ rbi)) (v := .tuple #[.slice adv k capv, .slice adi k capi, .int .i64 0]) (rs := [.cell 4 29, .cell 5 30, .cell 6 37]) (vs := [.slice adv k capv, .slice adi k capi, .int .i64 0]) C212 hSr kr kr (fun w216 A216 j216 => ?_)
 have A216 : St E0 w X w216 Y34 ((b8, .cells #[.int .i64 0] 37 (0, 0)) :: (b6, .cells #[.slice adi k capi] 30 (0, 0)) :: (b4, .cells #[.slice adv k capv] 29 (0, 0)) :: (b2, .cells #[.bool m.disc.neg, .slice ad len cap, .slice ae le ce, .slice st m.states.length cs] 28 (0, 0)) :: (rbv ++ rbi)) := by have h9 := A216; simpa only [List.append_assoc, List.cons_append, List.nil_append] using h9
 refine ⟨(Res.cell (ad := ⟨b4, 0, none⟩) (cs := [.slice adv k capv]) (g := false) kr kr kr ir (A216.cells 2 rfl rfl) (Res.cell (ad := ⟨b6, 0, none⟩) (cs := [.slice adi k capi]) (g := false) kr kr kr ir (A216.cells 1 rfl rfl) (Res.cell (ad := ⟨b8, 0, none⟩) (cs := [.int .i64 0]) (g := false) kr kr kr ir (A216.cells 0 rfl rfl) Res.nil))), ?_⟩
 have hend : m.backV v = _ := hbg.trans (hgo.symm.trans (backGo_end (by omega)))
 obtain ⟨Y217, hSx217, j217, hRx217⟩ := St.pubRatsN (A := [(b8, .cells #[.int .i64 0] 37 (0, 0)), (b6, .cells #[.slice adi k capi] 30 (0, 0)), (b4, .cells #[.slice adv k capv] 29 (0, 0)), (b2, .cells #[.bool m.disc.neg, .slice ad len cap, .slice ae le ce, .slice st m.states.length cs] 28 (0, 0))]) (B := rbi) (Nat.le_refl _) (fun rb => ((b8, .cells #[.int .i64 0] 37 (0, 0)) :: (b6, .cells #[.slice adi k capi] 30 (0, 0)) :: (b4, .cells #[.slice adv k capv] 29 (0, 0)) :: (b2, .cells #[.bool m.disc.neg, .slice ad len cap, .slice ae le ce, .slice st m.states.length cs] 28 (0, 0)) :: (rb ++ rbi))) A216 (fun _ => by simp only [List.append_assoc, List.cons_append, List.nil_append, List.append_nil]) hr1 hke (fun e he => (hk1 e he).mono (Le.or (Le5 j210 j213 j214 j215 j216) _))
 have A217 : St E0 w X w216 Y217 ((b8, .cells #[.int .i64 0] 37 (0, 0)) :: (b6, .cells #[.slice adi k capi] 30 (0, 0)) :: (b4, .cells #[.slice adv k capv] 29 (0, 0)) :: (b2, .cells #[.bool m.disc.neg, .slice ad len cap, .slice ae le ce, .slice st m.states.length cs] 28 (0, 0)) :: rbi) := hSx217
 have hR217 : Rats (rd w216 (orN Y217 w.heap.size)) adv k capv (es.map (·.x)) := by have h9 := hRx217; exact h9
 obtain ⟨Y218, hSx218, j218, hRx218⟩ := St.pubIntsN (A := [(b8, .cells #[.int .i64 0] 37 (0, 0)), (b6, .cells #[.slice adi k capi] 30 (0, 0)), (b4, .cells #[.slice adv k capv] 29 (0, 0)), (b2, .cells #[.bool m.disc.neg, .slice ad len cap, .slice ae le ce, .slice st m.states.length cs] 28 (0, 0))]) (B := []) (Nat.le_refl _) (fun rb => ((b8, .cells #[.int .i64 0] 37 (0, 0)) :: (b6, .cells #[.slice adi k capi] 30 (0, 0)) :: (b4, .cells #[.slice adv k capv] 29 (0, 0)) :: (b2, .cells #[.bool m.disc.neg, .slice ad len cap, .slice ae le ce, .slice st m.states.length cs] 28 (0, 0)) :: rb)) A217 (fun _ => by simp only [List.append_assoc, List.cons_append, List.nil_append, List.append_nil]) hr2 hki
 have A218 : St E0 w X w216 Y218 [(b8, .cells #[.int .i64 0] 37 (0, 0)), (b6, .cells #[.slice adi k capi] 30 (0, 0)), (b4, .cells #[.slice adv k capv] 29 (0, 0)), (b2, .cells #[.bool m.disc.neg, .slice ad len cap, .slice ae le ce, .slice st m.states.length cs] 28 (0, 0))] := hSx218
 have hR218 : Ints (rd w216 (orN Y218 w.heap.size)) adi k capi is := by have h9 := hRx218; exact h9
 exact ⟨A218.upd, _, rfl, _, _, _, _, _, _, by rw [hend], by rw [hend]; exact (hR217.mono (Le.or j218 _)).mono Le.orr, by rw [hend]; exact hR218.mono Le.orr⟩
end Go.Proofs.YtoocgllbbihoaaaGreat
namespace Go.Proofs.YtoocgllbbihoaaaGreat
open Go Go.Gv Go.RowKit
set_option maxRecDepth 100000
set_option maxHeartbeats 1000000
def VisitAt (m : Mdp) (u : Nat) : Prop := ∀ (w : World) (X : Hid) (wc : World) (Yc : Hid) (A rbl : List (Nat × Obj)) (b8 b7 gS b4 b2 : Nat) (dn : Bool) (ad : Option Addr) (len cap : Nat) (ae : Option Addr) (le ce : Nat) (st : Option Addr) (cs : Nat) (S : List Bool) (adl : Option Addr) (ml capl : Nat) (is : List Int) (s : Int),
  St E0 w X wc Yc ((b8, .cells #[.func (.func 59) #[] #[.pointer (some ⟨b7, 0, none⟩), .pointer (some ⟨b4, 0, none⟩), .pointer (some ⟨b2, 0, none⟩), .pointer (some ⟨b8, 0, none⟩)]] 91 (0, 0)) :: (b7, .cells #[.slice (some ⟨gS, 0, none⟩) m.states.length m.states.length] 90 (0, 0)) :: (gS, .cells (bvals S) 4 (0, 0)) :: (b4, .cells #[.slice adl ml capl] 30 (0, 0)) :: (b2, .cells #[.bool dn, .slice ad len cap, .slice ae le ce, .slice st m.states.length cs] 28 (0, 0)) :: (rbl ++ A)) → StatesR (rd wc Yc) st m.states.length cs m.states → m.chk = 0 → S.length = m.states.length → TRow 3 1 rbl adl ml capl (ivals is) → ml = is.length → ml + unseen S ≤ 200 → 0 ≤ s → s < m.states.length → unseen S = u →
  Calls Tryz.prog 59 #[.int .i64 s, .pointer (some ⟨b7, 0, none⟩), .pointer (some ⟨b4, 0, none⟩), .pointer (some ⟨b2, 0, none⟩), .pointer (some ⟨b8, 0, none⟩)] wc (fun e w' => ∃ v, e = .returned v ∧ (v = .tuple #[] ∧ ∃ (Y' : Hid) (rb' : List (Nat × Obj)) (ad' : Option Addr) (ml' cap' : Nat) (S' : List Bool) (N : List Int), St E0 w X w' Y' ((b8, .cells #[.func (.func 59) #[] #[.pointer (some ⟨b7, 0, none⟩), .pointer (some ⟨b4, 0, none⟩), .pointer (some ⟨b2, 0, none⟩), .pointer (some ⟨b8, 0, none⟩)]] 91 (0, 0)) :: (b7, .cells #[.slice (some ⟨gS, 0, none⟩) m.states.length m.states.length] 90 (0, 0)) :: (gS, .cells (bvals S') 4 (0, 0)) :: (b4, .cells #[.slice ad' ml' cap'] 30 (0, 0)) :: (b2, .cells #[.bool dn, .slice ad len cap, .slice ae le ce, .slice st m.states.length cs] 28 (0, 0)) :: (rb' ++ A)) ∧ Le (rd wc Yc) (rd w' Y') ∧ TRow 3 1 rb' ad' ml' cap' (ivals (is ++ N)) ∧ ml' = (is ++ N).length ∧ Vis m S N S' (· = s) ∧ S'.getD s.toNat false = true ∧ ml' + unseen S' ≤ 200))
theorem all_snoc {l : List Actn} {a : Actn} {p : Out → Prop} (h : ∀ x ∈ l, ∀ o ∈ x.next, p o) (h2 : ∀ o ∈ a.next, p o) : ∀ x ∈ l ++ [a], ∀ o ∈ x.next, p o := by
  intro x hx
  rcases List.mem_append.1 hx with h1 | h1
  · exact h x h1
  · obtain rfl := List.mem_singleton.1 h1; exact h2
theorem all_snoc1 {l : List Out} {a : Out} {p : Out → Prop} (h : ∀ x ∈ l, p x) (h2 : p a) : ∀ x ∈ l ++ [a], p x := by
  intro x hx
  rcases List.mem_append.1 hx with h1 | h1
  · exact h x h1
  · obtain rfl := List.mem_singleton.1 h1; exact h2
theorem visit_c (m : Mdp) : ∀ u, VisitAt m u := by
 intro u
 induction u using Nat.strongRecOn with
 | _ u ih =>
 intro w X wc Yc A rbl b8 b7 gS b4 b2 dn ad len cap ae le ce st cs S adl ml capl is s hS hst hchk hSl hrow hml hbu h0 h1 hu
 have hcaps := hst.hcap
 have hbigs := hst.hbig
 have hn200 := (Mdp.chk_ok hchk).2.2.2.2.1
 refine i_enter (n := 44) (vs := [.int .i64 s, .pointer (some ⟨b7, 0, none⟩), .pointer (some ⟨b4, 0, none⟩), .pointer (some ⟨b2, 0, none⟩), .pointer (some ⟨b8, 0, none⟩)]) Tryz.func59 rfl rfl rfl kr (fun a0 C0 => ?_)
 have C0 : Fr 44 a0 [(0, .int .i64 s), (1, .pointer (some ⟨b7, 0, none⟩)), (2, .pointer (some ⟨b4, 0, none⟩)), (3, .pointer (some ⟨b2, 0, none⟩)), (4, .pointer (some ⟨b8, 0, none⟩))] := C0
 have A1 := hS
 refine zH (fun K2 G2 => ?_)
 refine zH (fun K3 G3 => ?_)
 refine zC ?_
 refine wplI C0 kr (zF (d := 10) (v := .slice (some ⟨gS, 0, none⟩) m.states.length m.states.length) C0 kr (zB (t := 90) (g := false) (vs := [.slice (some ⟨gS, 0, none⟩) m.states.length m.states.length]) (ad := ⟨b7, 0, none⟩) rfl kr kr ir (A1.cells 1 rfl rfl)) ?_)
 intro a4 C4
 refine zD 1 [(11, .int .i64 s)] C4 kr kr (fun a5 C5 => ?_)
 refine wplI C5 kr (zF (d := 12) (v := .pointer (some ⟨gS, s.toNat, none⟩)) C5 kr (zO (t := 90) (e := 4) (b := gS) (off := 0) (len := m.states.length) (cap := m.states.length) (kd := .i64) (i := s) (g := false) (m := 1) (off' := s.toNat) rfl kr kr kr kr (by omega) (by omega) (by first | rfl | omega | (simp; done) | (simp; omega)) _) ?_)
 intro a6 C6
 refine wplI C6 kr (zF (d := 13) (v := .bool (S.getD s.toNat false)) C6 kr (zB (t := 4) (g := false) (vs := [.bool (S.getD s.toNat false)]) (ad := ⟨gS, s.toNat, none⟩) rfl kr kr ir (A1.boolCells 2 rfl (by have := hSl; omega))) ?_)
 intro a7 C7
 refine zK ?_
 refine zA (G3 _ _ ?_)
 refine i_cond (S.getD s.toNat false) C7 kr kr (fun hc8 => ?_) (fun hc8 => ?_)
 ·
  have C9 := C7.set 13 (v' := .bool true) kr rfl (zJ hc8)
  have ht10 : (S.getD s.toNat false) = true := by simpa using hc8
  refine i_ret ?_
  refine then_ret ?_
  refine c_ret (v := .tuple #[]) (rs := []) C9 kr Res.nil kr ?_
  exact ⟨_, rfl, rfl, Yc, rbl, adl, ml, capl, S, [], A1, (Le.refl _), by rw [List.append_nil]; exact hrow, by rw [List.append_nil]; exact hml, Vis.same, ht10, hbu⟩
 have C11 := C7.set 13 (v' := .bool false) kr rfl (zJ hc8)
 have ht12 : (S.getD s.toNat false) = false := by simpa using hc8
 have hsl : s.toNat < S.length := by omega
 have hun := unseen_set hsl ht12
 obtain ⟨b0, off0, rfl⟩ := hst.addr (by omega)
 obtain ⟨sx, ax, lx, cx, hxs, hAs, hacts⟩ := hst.at (k := s.toNat) (by omega)
 obtain rfl := hacts.hlen
 have hcapx := hacts.hcap
 have hbigx := hacts.hbig
 have hAs1 : At (rd wc Yc) ⟨b0, off0 + s.toNat, none⟩ [.slice ax sx.length cx] := by simpa using hAs
 have hsx := List.mem_of_getElem? hxs
 have hgd : m.states.getD s.toNat [] = sx := getD_get hxs
 refine i_skip ?_
 refine zA (G2 _ _ ?_)
 refine zH (fun K13 G13 => ?_)
 refine zC ?_
 refine wplI C11 kr (zF (d := 14) (v := .slice (some ⟨gS, 0, none⟩) m.states.length m.states.length) C11 kr (zB (t := 90) (g := false) (vs := [.slice (some ⟨gS, 0, none⟩) m.states.length m.states.length]) (ad := ⟨b7, 0, none⟩) rfl kr kr ir (A1.cells 1 rfl rfl)) ?_)
 intro a14 C14
 refine zD 1 [(15, .int .i64 s)] C14 kr kr (fun a15 C15 => ?_)
 refine wplI C15 kr (zF (d := 16) (v := .pointer (some ⟨gS, s.toNat, none⟩)) C15 kr (zO (t := 90) (e := 4) (b := gS) (off := 0) (len := m.states.length) (cap := m.states.length) (kd := .i64) (i := s) (g := false) (m := 1) (off' := s.toNat) rfl kr kr kr kr (by omega) (by omega) (by first | rfl | omega | (simp; done) | (simp; omega)) _) ?_)
 intro a16 C16
 refine wplI C16 kr (zE (t := 4) (b := gS) (off := s.toNat) (c' := bvals (S.set s.toNat true)) (g := false) (m := 1) 2 _ C16 kr A1 rfl kr rfl kr kr kr rfl (by have := hSl; rw [bvals_size]; omega) bvals_set rfl ?_)
 intro w17 A17 j17
 refine zK ?_
 refine zA (G13 _ _ ?_)
 refine zH (fun K18 G18 => ?_)
 refine zC ?_
 refine wplI C16 kr (zF (d := 17) (v := .slice adl ml capl) C16 kr (zB (t := 30) (g := false) (vs := [.slice adl ml capl]) (ad := ⟨b4, 0, none⟩) rfl kr kr ir (A17.cells 3 rfl rfl)) ?_)
 intro a19 C19
 refine zD 1 [(18, .int .i64 s)] C19 kr kr (fun a20 C20 => ?_)
 refine wplI C20 kr (zQ (d := 19) (fun b => .slice (some ⟨b, 0, none⟩) 1 1) (.cells #[.int .i64 s] 3 (0, 0)) C20 kr A17 kw ?_)
 intro b21 w21 Y21 A21 j21 hu21 a22 C22
 refine wplI C22 kr (op_app (d := 20) (t := 30) (e := 3) (size := 1) (m := 1) (c := 1) (nn := ml) (cap := capl) (ad0 := adl) (xs := (ivals is)) (news := [.int .i64 s]) (ad := ⟨b21, 0, none⟩) (z := .int .i64 0) (i0 := Tryz.t3) (rb := rbl) (R1 := []) (B := A) 6 C22 kr A21 rfl rfl kr kr kr kr kr kr kr hrow (A21.cells 0 rfl rfl) kr kr (by omega) (by simp only [maxLen]; omega) (by show (_ + 1) * 8 ≤ _; omega) ?_)
 intro rb23 ad23 cap23 w23 Y23 hrow23 A23 j23 a24 C24
 have hrw23 : TRow 3 1 rb23 ad23 (ml + 1) cap23 (ivals (is ++ [s])) := by rw [ivals_snoc]; exact hrow23
 refine wplI C24 kr (zE (t := 30) (b := b4) (off := 0) (c' := #[.slice ad23 (ml + 1) cap23]) (g := false) (m := 1) 4 _ C24 kr A23 rfl kr rfl kr kr kr rfl (by first | decide | (simp; done)) kr rfl ?_)
 intro w25 A25 j25
 refine zK ?_
 refine zA (G18 _ _ ?_)
 refine zH (fun K26 G26 => ?_)
 refine zC ?_
 refine zD 1 [(21, .pointer (some ⟨b2, 3, none⟩))] C24 kr kr (fun a27 C27 => ?_)
 refine wplI C27 kr (zF (d := 22) (v := .slice (some ⟨b0, off0, none⟩) m.states.length cs) C27 kr (zB (t := 26) (g := false) (vs := [.slice (some ⟨b0, off0, none⟩) m.states.length cs]) (ad := ⟨b2, 3, none⟩) rfl kr kr ir (A25.cells 5 rfl rfl)) ?_)
 intro a28 C28
 refine zD 1 [(23, .int .i64 s)] C28 kr kr (fun a29 C29 => ?_)
 refine wplI C29 kr (zF (d := 24) (v := .pointer (some ⟨b0, off0 + s.toNat, none⟩)) C29 kr (zO (t := 26) (e := 64) (b := b0) (off := off0) (len := m.states.length) (cap := cs) (kd := .i64) (i := s) (g := false) (m := 1) (off' := off0 + s.toNat) rfl kr kr kr kr (by omega) (by omega) (by first | rfl | omega | (simp; done) | (simp; omega)) _) ?_)
 intro a30 C30
 refine wplI C30 kr (zF (d := 25) (v := .slice ax sx.length cx) C30 kr (zB (t := 64) (g := false) (vs := [.slice ax sx.length cx]) (ad := ⟨b0, off0 + s.toNat, none⟩) rfl kr kr ir ((hAs1.mono (Le4 j17 j21 j23 j25))).cells) ?_)
 intro a31 C31
 refine zD 2 [(27, .int .i64 0), (26, .int .i64 (sx.length : Int))] C31 kr kr (fun a32 C32 => ?_)
 refine zK ?_
 refine zA (G26 _ _ ?_)
 refine zS ?_
 refine i_loop (fun (i : Nat) ac w1 => ∃ (Y1 : Hid) (rb : List (Nat × Obj)) (ad1 : Option Addr) (ml1 : Nat) (cap1 : Nat) (S2 : List Bool) (N : List Int), Fr 44 ac [(4, .pointer (some ⟨b8, 0, none⟩)), (25, .slice ax sx.length cx), (26, .int .i64 (sx.length : Int)), (27, .int .i64 (i : Int))] ∧ St E0 w X w1 Y1 ((b8, .cells #[.func (.func 59) #[] #[.pointer (some ⟨b7, 0, none⟩), .pointer (some ⟨b4, 0, none⟩), .pointer (some ⟨b2, 0, none⟩), .pointer (some ⟨b8, 0, none⟩)]] 91 (0, 0)) :: (b7, .cells #[.slice (some ⟨gS, 0, none⟩) m.states.length m.states.length] 90 (0, 0)) :: (gS, .cells (bvals S2) 4 (0, 0)) :: (b4, .cells #[.slice ad1 ml1 cap1] 30 (0, 0)) :: (b2, .cells #[.bool dn, .slice ad len cap, .slice ae le ce, .slice (some ⟨b0, off0, none⟩) m.states.length cs] 28 (0, 0)) :: (rb ++ A)) ∧ Le (rd w25 Y23) (rd w1 Y1) ∧ (TRow 3 1 rb ad1 ml1 cap1 (ivals (is ++ ([s] ++ N)))) ∧ (ml1 = (is ++ ([s] ++ N)).length) ∧ (Vis m (S.set s.toNat true) N S2 (Succ m s)) ∧ (ml1 + unseen S2 ≤ 200) ∧ (∀ a ∈ sx.take i, ∀ o ∈ a.next, S2.getD o.to.toNat false = true) ∧ (i ≤ sx.length)) (fun (i : Nat) => sx.length - i) 0 ?_ ?_
 ·
  refine ⟨_, rb23, ad23, (ml + 1), cap23, (S.set s.toNat true), [], C32.as [4, 25, 26, 27] kr kr, A25.tail, Le.refl _, hrw23, by rw [hml]; simp, Vis.nil, by omega, fun a ha => by simp at ha, Nat.zero_le _⟩
 rintro i a33 w33 ⟨Y33, rb, ad1, ml1, cap1, S2, N, C33, A33, j33, hp33_0, hp33_1, hp33_2, hp33_3, hp33_4, hp33_5⟩
 have hr1 := hp33_0
 have hm1 := hp33_1
 have hV1 := hp33_2
 have hb1 := hp33_3
 have hall := hp33_4
 have hil := hp33_5
 have hSl2 : S2.length = m.states.length := by have h9 := hV1.len; rw [List.length_set] at h9; omega
 refine zH (fun K34 G34 => ?_)
 refine zC ?_
 refine zD 1 [(28, .bool (decide ((i : Int) < (sx.length : Int))))] C33 kr kr (fun a35 C35 => ?_)
 refine zK ?_
 refine zA (G34 _ _ ?_)
 refine zH (fun K36 G36 => ?_)
 refine i_cond (decide ((i : Int) < (sx.length : Int))) C35 kr kr (fun hc37 => ?_) (fun hc37 => ?_)
 ·
  have C38 := C35.set 28 (v' := .bool true) kr rfl (zJ hc37)
  have ht39 : (i : Int) < (sx.length : Int) := of_decide_eq_true hc37
  obtain ⟨b9, off9, rfl⟩ := hacts.addr (by omega)
  obtain ⟨xa, a1a, a2a, a3a, a4a, a5a, a6a, a7a, a8a, a9a, hxa, hAa, hLa, hMa, hOa⟩ := hacts.at (k := i) (by omega)
  obtain rfl := hOa.hlen
  have hcapo := hOa.hcap
  have hbigo := hOa.hbig
  have hxin := List.mem_of_getElem? hxa
  refine i_skip ?_
  refine zA (G36 _ _ ?_)
  refine zH (fun K40 G40 => ?_)
  refine zS ?_
  refine zH (fun K41 G41 => ?_)
  refine zC ?_
  refine wplI C38 kr (zF (d := 29) (v := .pointer (some ⟨b9, off9 + i * 4, none⟩)) C38 kr (zO (t := 64) (e := 63) (b := b9) (off := off9) (len := sx.length) (cap := cx) (kd := .i64) (i := (i : Int)) (g := true) (m := 4) (off' := off9 + i * 4) rfl kr kr kr kr (by omega) (by omega) (by first | rfl | omega | (simp; done) | (simp; omega)) _) ?_)
  intro a42 C42
  refine wplI C42 kr (zF (d := 30) (v := .agg #[.bool xa.cost.neg, .slice a1a a2a a3a, .slice a4a a5a a6a, .slice a7a xa.next.length a9a]) C42 kr (zB (t := 63) (g := true) (vs := [.bool xa.cost.neg, .slice a1a a2a a3a, .slice a4a a5a a6a, .slice a7a xa.next.length a9a]) (ad := ⟨b9, off9 + i * 4, none⟩) rfl kr kr ir ((hAa.mono (Le5 j17 j21 j23 j25 j33))).cells) ?_)
  intro a43 C43
  refine wplI C43 kr (zQ (d := 7) (fun b => .pointer (some ⟨b, 0, none⟩)) (.cells #[.bool false, .slice none 0 0, .slice none 0 0, .slice none 0 0] 63 (0, 0)) C43 kr A33 kw ?_)
  intro b44 w44 Y44 A44 j44 hu44 a45 C45
  refine wplI C45 kr (zE (t := 63) (b := b44) (off := 0) (c' := #[.bool xa.cost.neg, .slice a1a a2a a3a, .slice a4a a5a a6a, .slice a7a xa.next.length a9a]) (g := true) (m := 4) 0 _ C45 kr A44 rfl kr rfl kr kr kr rfl (by first | decide | (simp; done)) kr rfl ?_)
  intro w46 A46 j46
  refine zK ?_
  refine zA (G41 _ _ ?_)
  refine zH (fun K47 G47 => ?_)
  refine zC ?_
  refine zD 1 [(31, .pointer (some ⟨b44, 3, none⟩))] C45 kr kr (fun a48 C48 => ?_)
  refine wplI C48 kr (zF (d := 32) (v := .slice a7a xa.next.length a9a) C48 kr (zB (t := 61) (g := false) (vs := [.slice a7a xa.next.length a9a]) (ad := ⟨b44, 3, none⟩) rfl kr kr ir (A46.cells 0 rfl rfl)) ?_)
  intro a49 C49
  refine zD 2 [(34, .int .i64 0), (33, .int .i64 (xa.next.length : Int))] C49 kr kr (fun a50 C50 => ?_)
  refine zK ?_
  refine zA (G47 _ _ ?_)
  refine zS ?_
  refine i_loop (fun (j : Nat) ac w1 => ∃ (Y1 : Hid) (rb : List (Nat × Obj)) (ad1 : Option Addr) (ml1 : Nat) (cap1 : Nat) (S2 : List Bool) (N : List Int), Fr 44 ac [(4, .pointer (some ⟨b8, 0, none⟩)), (25, .slice (some ⟨b9, off9, none⟩) sx.length cx), (26, .int .i64 (sx.length : Int)), (27, .int .i64 (i : Int)), (32, .slice a7a xa.next.length a9a), (33, .int .i64 (xa.next.length : Int)), (34, .int .i64 (j : Int))] ∧ St E0 w X w1 Y1 ((b8, .cells #[.func (.func 59) #[] #[.pointer (some ⟨b7, 0, none⟩), .pointer (some ⟨b4, 0, none⟩), .pointer (some ⟨b2, 0, none⟩), .pointer (some ⟨b8, 0, none⟩)]] 91 (0, 0)) :: (b7, .cells #[.slice (some ⟨gS, 0, none⟩) m.states.length m.states.length] 90 (0, 0)) :: (gS, .cells (bvals S2) 4 (0, 0)) :: (b4, .cells #[.slice ad1 ml1 cap1] 30 (0, 0)) :: (b2, .cells #[.bool dn, .slice ad len cap, .slice ae le ce, .slice (some ⟨b0, off0, none⟩) m.states.length cs] 28 (0, 0)) :: (rb ++ A)) ∧ Le (rd w46 Y44) (rd w1 Y1) ∧ (TRow 3 1 rb ad1 ml1 cap1 (ivals (is ++ ([s] ++ N)))) ∧ (ml1 = (is ++ ([s] ++ N)).length) ∧ (Vis m (S.set s.toNat true) N S2 (Succ m s)) ∧ (ml1 + unseen S2 ≤ 200) ∧ (∀ a ∈ sx.take i, ∀ o ∈ a.next, S2.getD o.to.toNat false = true) ∧ (∀ o ∈ xa.next.take j, S2.getD o.to.toNat false = true) ∧ (j ≤ xa.next.length)) (fun (j : Nat) => xa.next.length - j) 0 ?_ ?_
  ·
   refine ⟨_, rb, ad1, ml1, cap1, S2, N, C50.as [4, 25, 26, 27, 32, 33, 34] kr kr, A46.tail, Le.refl _, hr1, hm1, hV1, hb1, hall, fun o ho => by simp at ho, Nat.zero_le _⟩
  rintro j a51 w51 ⟨Y51, rb, ad1, ml1, cap1, S2, N, C51, A51, j51, hp51_0, hp51_1, hp51_2, hp51_3, hp51_4, hp51_5, hp51_6⟩
  have hr1 := hp51_0
  have hm1 := hp51_1
  have hV1 := hp51_2
  have hb1 := hp51_3
  have hall2 := hp51_4
  have hin2 := hp51_5
  have hjl := hp51_6
  have hSl2 : S2.length = m.states.length := by have h9 := hV1.len; rw [List.length_set] at h9; omega
  refine zH (fun K52 G52 => ?_)
  refine zC ?_
  refine zD 1 [(35, .bool (decide ((j : Int) < (xa.next.length : Int))))] C51 kr kr (fun a53 C53 => ?_)
  refine zK ?_
  refine zA (G52 _ _ ?_)
  refine zH (fun K54 G54 => ?_)
  refine i_cond (decide ((j : Int) < (xa.next.length : Int))) C53 kr kr (fun hc55 => ?_) (fun hc55 => ?_)
  ·
   have C56 := C53.set 35 (v' := .bool true) kr rfl (zJ hc55)
   have ht57 : (j : Int) < (xa.next.length : Int) := of_decide_eq_true hc55
   obtain ⟨bo, offo, rfl⟩ := hOa.addr (by omega)
   obtain ⟨ox, anx, lnx, cnx, amx, lmx, cmx, hxx, hAx, hLx, hMx⟩ := hOa.at (k := j) (by omega)
   have hoin := List.mem_of_getElem? hxx
   have hor := m_range hchk hsx hxin hoin
   refine i_skip ?_
   refine zA (G54 _ _ ?_)
   refine zH (fun K58 G58 => ?_)
   refine zS ?_
   refine zH (fun K59 G59 => ?_)
   refine zC ?_
   refine wplI C56 kr (zF (d := 36) (v := .pointer (some ⟨bo, offo + j * 4, none⟩)) C56 kr (zO (t := 61) (e := 60) (b := bo) (off := offo) (len := xa.next.length) (cap := a9a) (kd := .i64) (i := (j : Int)) (g := true) (m := 4) (off' := offo + j * 4) rfl kr kr kr kr (by omega) (by omega) (by first | rfl | omega | (simp; done) | (simp; omega)) _) ?_)
   intro a60 C60
   refine wplI C60 kr (zF (d := 37) (v := .agg #[.int .i64 ox.to, .bool ox.p.neg, .slice anx lnx cnx, .slice amx lmx cmx]) C60 kr (zB (t := 60) (g := true) (vs := [.int .i64 ox.to, .bool ox.p.neg, .slice anx lnx cnx, .slice amx lmx cmx]) (ad := ⟨bo, offo + j * 4, none⟩) rfl kr kr ir ((hAx.mono (Le8 j17 j21 j23 j25 j33 j44 j46 j51))).cells) ?_)
   intro a61 C61
   refine wplI C61 kr (zQ (d := 9) (fun b => .pointer (some ⟨b, 0, none⟩)) (.cells #[.int .i64 0, .bool false, .slice none 0 0, .slice none 0 0] 60 (0, 0)) C61 kr A51 kw ?_)
   intro b62 w62 Y62 A62 j62 hu62 a63 C63
   refine wplI C63 kr (zE (t := 60) (b := b62) (off := 0) (c' := #[.int .i64 ox.to, .bool ox.p.neg, .slice anx lnx cnx, .slice amx lmx cmx]) (g := true) (m := 4) 0 _ C63 kr A62 rfl kr rfl kr kr kr rfl (by first | decide | (simp; done)) kr rfl ?_)
   intro w64 A64 j64
   refine zK ?_
   refine zA (G59 _ _ ?_)
   refine zC ?_
   refine wplI C63 kr (zF (d := 38) (v := .func (.func 59) #[] #[.pointer (some ⟨b7, 0, none⟩), .pointer (some ⟨b4, 0, none⟩), .pointer (some ⟨b2, 0, none⟩), .pointer (some ⟨b8, 0, none⟩)]) C63 kr (zB (t := 91) (g := false) (vs := [.func (.func 59) #[] #[.pointer (some ⟨b7, 0, none⟩), .pointer (some ⟨b4, 0, none⟩), .pointer (some ⟨b2, 0, none⟩), .pointer (some ⟨b8, 0, none⟩)]]) (ad := ⟨b8, 0, none⟩) rfl kr kr ir (A64.cells 1 rfl rfl)) ?_)
   intro a65 C65
   refine zD 1 [(39, .pointer (some ⟨b62, 0, none⟩))] C65 kr kr (fun a66 C66 => ?_)
   refine wplI C66 kr (zF (d := 40) (v := .int .i64 ox.to) C66 kr (zB (t := 3) (g := false) (vs := [.int .i64 ox.to]) (ad := ⟨b62, 0, none⟩) rfl kr kr ir (A64.cells 0 rfl rfl)) ?_)
   intro a67 C67
   refine wplI C67 kr (op_callF (d := 41) (f := 59) (cap := #[.pointer (some ⟨b7, 0, none⟩), .pointer (some ⟨b4, 0, none⟩), .pointer (some ⟨b2, 0, none⟩), .pointer (some ⟨b8, 0, none⟩)]) (vs := #[.int .i64 ox.to, .pointer (some ⟨b7, 0, none⟩), .pointer (some ⟨b4, 0, none⟩), .pointer (some ⟨b2, 0, none⟩), .pointer (some ⟨b8, 0, none⟩)]) C67 kr rfl kr kr (fun w => Tryz.call59 _ w) (ih (unseen S2) (by have := hV1.less; omega) w X _ _ A rb b8 b7 gS b4 b2 dn ad len cap ae le ce _ cs S2 ad1 ml1 cap1 _ ox.to A64.tail (hst.mono (Le10 j17 j21 j23 j25 j33 j44 j46 j51 j62 j64)) hchk hSl2 hr1 hm1 hb1 hor.1 hor.2 rfl) ?_)
   rintro v68 w68 ⟨rfl, Y68, rb68, ad68, ml68, cap68, S68, N68, A68, j68, hr8, hm8, hV9, hroot, hb2⟩ a69 C69
   have hr2 : TRow 3 1 rb68 ad68 ml68 cap68 (ivals (is ++ ([s] ++ (N ++ N68)))) := by simpa only [List.append_assoc] using hr8
   have hm2 : ml68 = (is ++ ([s] ++ (N ++ N68))).length := by simpa only [List.append_assoc] using hm8
   have hV2 := hV1.trans (hV9.weaken (R' := Succ m s) (fun r hr => ⟨xa, by rw [hgd]; exact hxin, ox, hoin, hr⟩))
   refine zK ?_
   refine zP ?_
   refine zA (G58 _ _ ?_)
   refine zC ?_
   refine zD 1 [(42, .int .i64 (IntKind.i64.wrap ((j : Int) + 1)))] C69 kr kr (fun a70 C70 => ?_)
   have C71 := C70.set 42 (v' := .int .i64 ((j : Int) + 1)) kr rfl (vint (wi64 (by omega) (by omega)))
   refine zD 1 [(34, .int .i64 ((j : Int) + 1))] C71 kr kr (fun a72 C72 => ?_)
   refine zK ?_
   refine zA ?_
   refine ⟨j + 1, ⟨_, rb68, ad68, ml68, cap68, S68, (N ++ N68), C72.as [4, 25, 26, 27, 32, 33, 34] kr kr, A68, (Le4 j51 j62 j64 j68), hr2, hm2, hV2, hb2, fun a ha o ho => hV9.up (hall2 a ha o ho), by rw [take_snoc hxx]; exact all_snoc1 (fun o ho => hV9.up (hin2 o ho)) hroot, by omega⟩, ?_⟩
   first | omega | (simp; omega)
  have C73 := C53.set 35 (v' := .bool false) kr rfl (zJ hc55)
  have ht74 : ¬ ((j : Int) < (xa.next.length : Int)) := of_decide_eq_false hc55
  refine i_exit ?_
  refine then_exit ?_
  refine then_exit ?_
  refine blk_here ?_
  refine zP ?_
  refine zA (G40 _ _ ?_)
  refine zC ?_
  refine zD 1 [(43, .int .i64 (IntKind.i64.wrap ((i : Int) + 1)))] C73 kr kr (fun a75 C75 => ?_)
  have C76 := C75.set 43 (v' := .int .i64 ((i : Int) + 1)) kr rfl (vint (wi64 (by omega) (by omega)))
  refine zD 1 [(27, .int .i64 ((i : Int) + 1))] C76 kr kr (fun a77 C77 => ?_)
  refine zK ?_
  refine zA ?_
  refine ⟨i + 1, ⟨_, rb, ad1, ml1, cap1, S2, N, C77.as [4, 25, 26, 27] kr kr, A51, (Le4 j33 j44 j46 j51), hr1, hm1, hV1, hb1, by rw [take_snoc hxa]; exact all_snoc hall2 (fun o ho => hin2 o (by rw [List.take_of_length_le (by omega)]; exact ho)), by omega⟩, ?_⟩
  first | omega | (simp; omega)
 have C78 := C35.set 28 (v' := .bool false) kr rfl (zJ hc37)
 have ht79 : ¬ ((i : Int) < (sx.length : Int)) := of_decide_eq_false hc37
 refine i_exit ?_
 refine then_exit ?_
 refine then_exit ?_
 refine blk_here ?_
 refine c_end (v := .tuple #[]) (rs := []) C78 kr Res.nil kr ?_
 have hall9 : ∀ a ∈ m.states.getD s.toNat [], ∀ o ∈ a.next, S2.getD o.to.toNat false = true := by rw [hgd]; intro a ha; exact hall a (by rw [List.take_of_length_le (by omega)]; exact ha)
 have hVw := Vis.wrap hSl h0 (by omega) ht12 hV1 hall9
 exact ⟨_, rfl, rfl, _, rb, ad1, ml1, cap1, S2, [s] ++ N, A33, (Le5 j17 j21 j23 j25 j33), hr1, hm1, hVw, hVw.root h0 (by omega), hb1⟩
end Go.Proofs.YtoocgllbbihoaaaGreat
namespace Go.Proofs.YtoocgllbbihoaaaGreat
open Go Go.Gv Go.RowKit
set_option maxRecDepth 100000
set_option maxHeartbeats 1000000
theorem take_eq {α : Type} {l l2 : List α} {k : Nat} {x : α} (h : l.take k = l2.take k) (hx : l[k]? = some x) (hy : l2[k]? = some x) : l.take (k + 1) = l2.take (k + 1) := by rw [take_snoc hx, take_snoc hy, h]
theorem take_all {α : Type} {l l2 : List α} {k : Nat} (h : l.take k = l2.take k) (hl : l.length = l2.length) (hk : l.length ≤ k) : l = l2 := by
  rwa [List.take_of_length_le hk, List.take_of_length_le (by omega)] at h
theorem ne_at {α : Type} {l l2 : List α} {k : Nat} {x y : α} (hx : l[k]? = some x) (hy : l2[k]? = some y) (h : x ≠ y) : l ≠ l2 := by
  rintro rfl; exact h (Option.some.inj (hx.symm.trans hy))
theorem getD_some {l : List Nat} {k : Nat} (h : k < l.length) : l[k]? = some (l.getD k 0) := by
  rw [List.getD_eq_getElem?_getD, List.getElem?_eq_getElem h]; rfl
theorem vboolE {x y : Bool} (h : x = y) : Value.bool x = .bool y := h ▸ rfl
theorem EqualLimbs_c (w : World) (X : Hid) (hX : ∀ k o, X k o → k < w.heap.size) (ad : Option Addr) (len cap : Nat) (l : List Nat) (h : Limbs (rd w X) ad len cap l) (ad2 : Option Addr) (len2 cap2 : Nat) (l2 : List Nat) (h2 : Limbs (rd w X) ad2 len2 cap2 l2) : Calls Tryz.prog 85 #[.slice ad len cap, .slice ad2 len2 cap2] w (Ret E0 w fun _ v => v = .bool (decide (l = l2))) := by
 obtain rfl := h.hlen
 obtain rfl := h2.hlen
 have hcap := h.hcap
 have hbig := h.hbig
 have hcap2 := h2.hcap
 have hbig2 := h2.hbig
 refine zen Tryz.func85 ?_
 have A0 : St E0 w X w X [] := St.start hX
 refine zz 15 ?_
 refine zb 10 (b := ((l.length : Int) != (l2.length : Int))) (fun hc2 => ?_) (fun hc2 => ?_)
 ·
  have ht3 : (l.length : Int) ≠ (l2.length : Int) := by simpa using hc2
  refine zz 8 ?_
  refine zr' (v := .bool false) ?_
  exact ⟨A0.upd, _, rfl, vboolE ((decide_eq_false (fun e => by rw [e] at ht3; exact ht3 rfl)).symm)⟩
 have ht4 : (l.length : Int) = (l2.length : Int) := by simpa using hc2
 have hlen : l.length = l2.length := by omega
 refine zz 10 ?_
 refine zlp Tryz.f85 [] [1, 1, 0, 1, 0] (fun (k : Nat) => [(0, .slice ad l.length cap), (1, .slice ad2 l2.length cap2), (5, .int .i64 (k : Int))]) (fun (k : Nat) w1 => ∃ (Y1 : Hid), St E0 w X w1 Y1 [] ∧ Le (rd w X) (rd w1 Y1) ∧ (l.take k = l2.take k) ∧ (k ≤ l.length)) (fun (k : Nat) => l.length - k) 0 ?_ ?_
 ·
  refine ⟨_, A0, Le.refl _, rfl, Nat.zero_le _⟩
 rintro k w5 K5 G5 ⟨Y5, A5, j5, hp5_0, hp5_1⟩
 refine zz 9 ?_
 refine zt 14 (p := (k : Int) < (l.length : Int)) (fun ht6 => ?_) (fun ht6 => ?_)
 ·
  obtain ⟨b1, off1, rfl, _⟩ := h.addr (by omega)
  have hx1 := getD_some (l := l) (k := k) (by omega)
  obtain ⟨b2, off2, rfl, _⟩ := h2.addr (by omega)
  have hx2 := getD_some (l := l2) (k := k) (by omega)
  refine zz 6 ?_
  refine zdr A5 ?_
  refine gz [0, 1] ?_
  refine gi 2 (b := b1) (off := off1) (len := l.length) (cap := cap) (kd := .i64) (i := (k : Int)) 1 (off1 + k) ?_
  refine gl 3 ((h.cell (i := k) (by omega)).mono j5) ?_
  refine gz [4, 5] ?_
  refine gi 6 (b := b2) (off := off2) (len := l2.length) (cap := cap2) (kd := .i64) (i := (k : Int)) 1 (off2 + k) ?_
  refine gl 7 ((h2.cell (i := k) (by omega)).mono j5) ?_
  refine gz [8] ?_
  refine gend (fun w7 Y7 A7 j7 => ?_)
  refine zz 1 ?_
  refine zb 25 (b := (((l.getD k 0 : Nat) : Int) != ((l2.getD k 0 : Nat) : Int))) (fun hc8 => ?_) (fun hc8 => ?_)
  ·
   have ht9 : ((l.getD k 0 : Nat) : Int) ≠ ((l2.getD k 0 : Nat) : Int) := by simpa using hc8
   refine zz 12 ?_
   refine zr' (v := .bool false) ?_
   exact ⟨A7.upd, _, rfl, vboolE ((decide_eq_false (ne_at hx1 hx2 (fun e => ht9 (by rw [e])))).symm)⟩
  have ht10 : ((l.getD k 0 : Nat) : Int) = ((l2.getD k 0 : Nat) : Int) := by simpa using hc8
  refine zz 7 ?_
  refine zw 16 (x := (k : Int) + 1) ?_
  refine zz 2 ?_
  refine znext (fun a h => G5 (k + 1) _ a h ⟨_, A7, (Le2 j5 j7), take_eq hp5_0 hx1 (by rw [show l.getD k 0 = l2.getD k 0 by omega]; exact hx2), by omega⟩ ?_)
  first | omega | (simp <;> omega)
 refine zz 12 ?_
 refine zr' (v := .bool true) ?_
 exact ⟨A5.upd, _, rfl, vboolE ((decide_eq_true (take_all hp5_0 hlen (by omega))).symm)⟩
theorem EqualNat_c (w : World) (X : Hid) (hX : ∀ k o, X k o → k < w.heap.size) (ad : Option Addr) (len cap : Nat) (l : List Nat) (h : Limbs (rd w X) ad len cap l) (ad2 : Option Addr) (len2 cap2 : Nat) (l2 : List Nat) (h2 : Limbs (rd w X) ad2 len2 cap2 l2) : Calls Tryz.prog 53 #[.slice ad len cap, .slice ad2 len2 cap2] w (Ret E0 w fun _ v => v = .bool (decide (l = l2))) := by
 obtain rfl := h.hlen
 obtain rfl := h2.hlen
 have hcap := h.hcap
 have hbig := h.hbig
 have hcap2 := h2.hcap
 have hbig2 := h2.hbig
 refine zen Tryz.func53 ?_
 have A0 : St E0 w X w X [] := St.start hX
 refine zz 9 ?_
 refine zc A0 (EqualLimbs_c _ _ A0.lt _ _ _ _ h _ _ _ _ h2) ?_
 rintro v3 w3 A3 j3 hu3 rfl
 refine zz 4 ?_
 refine zr' (v := .bool (decide (l = l2))) ?_
 exact ⟨A3.upd, _, rfl, rfl⟩
theorem raw_ext {a b : Raw} : a = b ↔ a.neg = b.neg ∧ a.ln = b.ln ∧ a.ld = b.ld := by cases a; cases b; simp
theorem EqualRat_c (w : World) (X : Hid) (hX : ∀ k o, X k o → k < w.heap.size) (a : Raw) (ad₁ : Option Addr) (len₁ cap₁ : Nat) (h₁ : Limbs (rd w X) ad₁ len₁ cap₁ a.ln) (ae₁ : Option Addr) (le₁ ce₁ : Nat) (k₁ : Limbs (rd w X) ae₁ le₁ ce₁ a.ld) (b : Raw) (ad₂ : Option Addr) (len₂ cap₂ : Nat) (h₂ : Limbs (rd w X) ad₂ len₂ cap₂ b.ln) (ae₂ : Option Addr) (le₂ ce₂ : Nat) (k₂ : Limbs (rd w X) ae₂ le₂ ce₂ b.ld) : Calls Tryz.prog 20 #[.agg #[.bool a.neg, .slice ad₁ len₁ cap₁, .slice ae₁ le₁ ce₁], .agg #[.bool b.neg, .slice ad₂ len₂ cap₂, .slice ae₂ le₂ ce₂]] w (Ret E0 w fun _ v => v = .bool (decide (a = b))) := by
 refine zen Tryz.func20 ?_
 have A0 : St E0 w X w X [] := St.start hX
 refine zz 2 ?_
 refine zn pn (.cells #[.bool a.neg, .slice ad₁ len₁ cap₁, .slice ae₁ le₁ ce₁] 25 (0, 0)) A0 ?_
 intro b3 w3 Y3 A3 j3 hu3
 refine zn pn (.cells #[.bool b.neg, .slice ad₂ len₂ cap₂, .slice ae₂ le₂ ce₂] 25 (0, 0)) A3 ?_
 intro b5 w5 Y5 A5 j5 hu5
 refine zz 6 ?_
 refine zo 1 A5 ?_
 refine zz 1 ?_
 refine zo 0 A5 ?_
 refine zz 2 ?_
 refine zb 10 (b := (a.neg == b.neg)) (fun hc6 => ?_) (fun hc6 => ?_)
 ·
  have ht7 : a.neg = b.neg := by simpa using hc6
  refine zz 1 ?_
  refine zo 1 A5 ?_
  refine zz 1 ?_
  refine zo 0 A5 ?_
  refine zc A5 (EqualNat_c _ _ A5.lt _ _ _ _ (h₁.mono (Le2 j3 j5)) _ _ _ _ (h₂.mono (Le2 j3 j5))) ?_
  rintro v9 w9 A9 j9 hu9 rfl
  refine zz 2 ?_
  refine zb 17 (b := (decide (a.ln = b.ln))) (fun hc10 => ?_) (fun hc10 => ?_)
  ·
   have ht11 : a.ln = b.ln := of_decide_eq_true hc10
   refine zz 1 ?_
   refine zo 1 A9 ?_
   refine zz 1 ?_
   refine zo 0 A9 ?_
   refine zc A9 (EqualNat_c _ _ A9.lt _ _ _ _ (k₁.mono (Le3 j3 j5 j9)) _ _ _ _ (k₂.mono (Le3 j3 j5 j9))) ?_
   rintro v13 w13 A13 j13 hu13 rfl
   refine zz 5 ?_
   refine zr' (v := .bool (decide (a.ld = b.ld))) ?_
   refine ⟨A13.upd, _, rfl, vboolE ?_⟩
   refine Bool.eq_iff_iff.2 ?_; rw [show (decide (a = b) = true) ↔ _ from decide_eq_true_iff.trans raw_ext]; simp_all
  have ht14 : ¬ (a.ln = b.ln) := of_decide_eq_false hc10
  refine zz 10 ?_
  refine zr' (v := .bool false) ?_
  refine ⟨A9.upd, _, rfl, vboolE ?_⟩
  refine Bool.eq_iff_iff.2 ?_; rw [show (decide (a = b) = true) ↔ _ from decide_eq_true_iff.trans raw_ext]; simp_all
 have ht15 : a.neg ≠ b.neg := by simpa using hc6
 refine zz 17 ?_
 refine zr' (v := .bool false) ?_
 refine ⟨A5.upd, _, rfl, vboolE ?_⟩
 refine Bool.eq_iff_iff.2 ?_; rw [show (decide (a = b) = true) ↔ _ from decide_eq_true_iff.trans raw_ext]; simp_all
theorem EqualRats_c (w : World) (X : Hid) (hX : ∀ k o, X k o → k < w.heap.size) (ad : Option Addr) (len cap : Nat) (xs : List Raw) (h : Rats (rd w X) ad len cap xs) (ad2 : Option Addr) (len2 cap2 : Nat) (ys : List Raw) (h2 : Rats (rd w X) ad2 len2 cap2 ys) : Calls Tryz.prog 21 #[.slice ad len cap, .slice ad2 len2 cap2] w (Ret E0 w fun _ v => v = .bool (decide (xs = ys))) := by
 obtain rfl := h.hlen
 have hcap := h.hcap
 have hbig := h.hbig
 obtain rfl := h2.hlen
 have hcap2 := h2.hcap
 have hbig2 := h2.hbig
 refine zen Tryz.func21 ?_
 have A0 : St E0 w X w X [] := St.start hX
 refine zz 15 ?_
 refine zb 10 (b := ((xs.length : Int) != (ys.length : Int))) (fun hc2 => ?_) (fun hc2 => ?_)
 ·
  have ht3 : (xs.length : Int) ≠ (ys.length : Int) := by simpa using hc2
  refine zz 8 ?_
  refine zr' (v := .bool false) ?_
  exact ⟨A0.upd, _, rfl, vboolE ((decide_eq_false (fun e => by rw [e] at ht3; exact ht3 rfl)).symm)⟩
 have ht4 : (xs.length : Int) = (ys.length : Int) := by simpa using hc2
 have hlen : xs.length = ys.length := by omega
 refine zz 10 ?_
 refine zlp Tryz.f21 [] [1, 1, 0, 1, 0] (fun (k : Nat) => [(0, .slice ad xs.length cap), (1, .slice ad2 ys.length cap2), (5, .int .i64 (k : Int))]) (fun (k : Nat) w1 => ∃ (Y1 : Hid), St E0 w X w1 Y1 [] ∧ Le (rd w X) (rd w1 Y1) ∧ (xs.take k = ys.take k) ∧ (k ≤ xs.length)) (fun (k : Nat) => xs.length - k) 0 ?_ ?_
 ·
  refine ⟨_, A0, Le.refl _, rfl, Nat.zero_le _⟩
 rintro k w5 K5 G5 ⟨Y5, A5, j5, hp5_0, hp5_1⟩
 refine zz 9 ?_
 refine zt 14 (p := (k : Int) < (xs.length : Int)) (fun ht6 => ?_) (fun ht6 => ?_)
 ·
  obtain ⟨bx, offx, xx, anx, lnx, cnx, amx, lmx, cmx, rfl, hxx, hAx, hLx, hMx⟩ := h.cell (k := k) (by omega)
  obtain ⟨bz, offz, xz, anz, lnz, cnz, amz, lmz, cmz, rfl, hxz, hAz, hLz, hMz⟩ := h2.cell (k := k) (by omega)
  have hx1 := hxx
  have hx2 := hxz
  refine zz 6 ?_
  refine zdr A5 ?_
  refine gz [0, 1] ?_
  refine gi 2 (b := bx) (off := offx) (len := xs.length) (cap := cap) (kd := .i64) (i := (k : Int)) 3 (offx + k * 3) ?_
  refine gl 3 ((hAx.mono j5)) ?_
  refine gz [4, 5] ?_
  refine gi 6 (b := bz) (off := offz) (len := ys.length) (cap := cap2) (kd := .i64) (i := (k : Int)) 3 (offz + k * 3) ?_
  refine gl 7 ((hAz.mono j5)) ?_
  refine gC 8 (fun w7 Y7 _ A7 j7 => (EqualRat_c _ _ A7.lt xx _ _ _ (hLx.mono (Le2 j5 j7)) _ _ _ (hMx.mono (Le2 j5 j7)) xz _ _ _ (hLz.mono (Le2 j5 j7)) _ _ _ (hMz.mono (Le2 j5 j7)))) ?_
  rintro v8 w7 Y8 w8 A7 j8 rfl
  refine gz [9] ?_
  refine gend (fun w9 Y9 A9 j9 => ?_)
  refine zz 1 ?_
  refine zb 26 (b := !(decide (xx = xz))) (fun hc10 => ?_) (fun hc10 => ?_)
  ·
   have ht11 : ¬ (xx = xz) := by simpa using hc10
   refine zz 12 ?_
   refine zr' (v := .bool false) ?_
   exact ⟨A9.upd, _, rfl, vboolE ((decide_eq_false (ne_at hx1 hx2 ht11)).symm)⟩
  have ht12 : xx = xz := by simpa using hc10
  refine zz 7 ?_
  refine zw 16 (x := (k : Int) + 1) ?_
  refine zz 2 ?_
  refine znext (fun a h => G5 (k + 1) _ a h ⟨_, A9, (Le3 j5 j8 j9), take_eq hp5_0 hx1 (by rw [show xx = xz from ht12]; exact hx2), by omega⟩ ?_)
  first | omega | (simp <;> omega)
 refine zz 12 ?_
 refine zr' (v := .bool true) ?_
 exact ⟨A5.upd, _, rfl, vboolE ((decide_eq_true (take_all hp5_0 hlen (by omega))).symm)⟩
theorem EqualInts_c (w : World) (X : Hid) (hX : ∀ k o, X k o → k < w.heap.size) (ad : Option Addr) (len cap : Nat) (xs : List Int) (h : Ints (rd w X) ad len cap xs) (ad2 : Option Addr) (len2 cap2 : Nat) (ys : List Int) (h2 : Ints (rd w X) ad2 len2 cap2 ys) : Calls Tryz.prog 22 #[.slice ad len cap, .slice ad2 len2 cap2] w (Ret E0 w fun _ v => v = .bool (decide (xs = ys))) := by
 obtain rfl := h.hlen
 have hcap := h.hcap
 have hbig := h.hbig
 obtain rfl := h2.hlen
 have hcap2 := h2.hcap
 have hbig2 := h2.hbig
 refine zen Tryz.func22 ?_
 have A0 : St E0 w X w X [] := St.start hX
 refine zz 15 ?_
 refine zb 10 (b := ((xs.length : Int) != (ys.length : Int))) (fun hc2 => ?_) (fun hc2 => ?_)
 ·
  have ht3 : (xs.length : Int) ≠ (ys.length : Int) := by simpa using hc2
  refine zz 8 ?_
  refine zr' (v := .bool false) ?_
  exact ⟨A0.upd, _, rfl, vboolE ((decide_eq_false (fun e => by rw [e] at ht3; exact ht3 rfl)).symm)⟩
 have ht4 : (xs.length : Int) = (ys.length : Int) := by simpa using hc2
 have hlen : xs.length = ys.length := by omega
 refine zz 10 ?_
 refine zlp Tryz.f22 [] [1, 1, 0, 1, 0] (fun (k : Nat) => [(0, .slice ad xs.length cap), (1, .slice ad2 ys.length cap2), (5, .int .i64 (k : Int))]) (fun (k : Nat) w1 => ∃ (Y1 : Hid), St E0 w X w1 Y1 [] ∧ Le (rd w X) (rd w1 Y1) ∧ (xs.take k = ys.take k) ∧ (k ≤ xs.length)) (fun (k : Nat) => xs.length - k) 0 ?_ ?_
 ·
  refine ⟨_, A0, Le.refl _, rfl, Nat.zero_le _⟩
 rintro k w5 K5 G5 ⟨Y5, A5, j5, hp5_0, hp5_1⟩
 refine zz 9 ?_
 refine zt 14 (p := (k : Int) < (xs.length : Int)) (fun ht6 => ?_) (fun ht6 => ?_)
 ·
  obtain ⟨b1, off1, rfl⟩ := h.addr (by omega)
  obtain ⟨x1, hx1, hA1⟩ := h.at (k := k) (by omega)
  have hB1 : At (rd w X) ⟨b1, off1 + k, none⟩ [.int .i64 x1] := by have h9 := hA1; unfold IntAt at h9; simpa using h9
  obtain ⟨b2, off2, rfl⟩ := h2.addr (by omega)
  obtain ⟨x2, hx2, hA2⟩ := h2.at (k := k) (by omega)
  have hB2 : At (rd w X) ⟨b2, off2 + k, none⟩ [.int .i64 x2] := by have h9 := hA2; unfold IntAt at h9; simpa using h9
  refine zz 6 ?_
  refine zdr A5 ?_
  refine gz [0, 1] ?_
  refine gi 2 (b := b1) (off := off1) (len := xs.length) (cap := cap) (kd := .i64) (i := (k : Int)) 1 (off1 + k) ?_
  refine gl 3 ((hB1.mono j5)) ?_
  refine gz [4, 5] ?_
  refine gi 6 (b := b2) (off := off2) (len := ys.length) (cap := cap2) (kd := .i64) (i := (k : Int)) 1 (off2 + k) ?_
  refine gl 7 ((hB2.mono j5)) ?_
  refine gz [8] ?_
  refine gend (fun w7 Y7 A7 j7 => ?_)
  refine zz 1 ?_
  refine zb 25 (b := ((x1) != x2)) (fun hc8 => ?_) (fun hc8 => ?_)
  ·
   have ht9 : (x1) ≠ x2 := by simpa using hc8
   refine zz 12 ?_
   refine zr' (v := .bool false) ?_
   exact ⟨A7.upd, _, rfl, vboolE ((decide_eq_false (ne_at hx1 hx2 ht9)).symm)⟩
  have ht10 : (x1) = x2 := by simpa using hc8
  refine zz 7 ?_
  refine zw 16 (x := (k : Int) + 1) ?_
  refine zz 2 ?_
  refine znext (fun a h => G5 (k + 1) _ a h ⟨_, A7, (Le2 j5 j7), take_eq hp5_0 hx1 (by rw [show x1 = x2 from ht10]; exact hx2), by omega⟩ ?_)
  first | omega | (simp <;> omega)
 refine zz 12 ?_
 refine zr' (v := .bool true) ?_
 exact ⟨A5.upd, _, rfl, vboolE ((decide_eq_true (take_all hp5_0 hlen (by omega))).symm)⟩
theorem not_take {l : List Int} {k : Nat} {x y : Int} (h : y ∉ l.take k) (hx : l[k]? = some x) (h2 : x ≠ y) : y ∉ l.take (k + 1) := by
  rw [take_snoc hx]; simp [h]; exact fun e => h2 e.symm
def atMostV (a b : Raw) : Bool := decide (cmpE a b = 0) && decide (cmpR a b ≤ 0)
theorem Long06_c (w : World) (X : Hid) (hX : ∀ k o, X k o → k < w.heap.size) (ad : Option Addr) (len cap : Nat) (xs : List Raw) (h : Rats (rd w X) ad len cap xs) : Calls Tryz.prog 33 #[.slice ad len cap] w (Ret E0 w fun _ v => ∃ b, v = .bool b ∧ (b = false → ∀ x ∈ xs, x.ln.length ≤ 200 ∧ x.ld.length ≤ 200)) := by
 obtain rfl := h.hlen
 have hcap := h.hcap
 have hbig := h.hbig
 refine zen Tryz.func33 ?_
 have A0 : St E0 w X w X [] := St.start hX
 refine zz 12 ?_
 refine zlp Tryz.f33 [] [1, 0, 1, 0] (fun (k : Nat) => [(0, .slice ad xs.length cap), (3, .int .i64 (k : Int))]) (fun (k : Nat) w1 => ∃ (Y1 : Hid), St E0 w X w1 Y1 [] ∧ Le (rd w X) (rd w1 Y1) ∧ (k ≤ xs.length) ∧ (∀ x ∈ xs.take k, x.ln.length ≤ 200 ∧ x.ld.length ≤ 200)) (fun (k : Nat) => xs.length - k) 0 ?_ ?_
 ·
  refine ⟨_, A0, Le.refl _, Nat.zero_le _, fun _ h => absurd h (by simp)⟩
 rintro k w2 K2 G2 ⟨Y2, A2, j2, hp2_0, hp2_1⟩
 refine zz 9 ?_
 refine zt 9 (p := (k : Int) < (xs.length : Int)) (fun ht3 => ?_) (fun ht3 => ?_)
 ·
  obtain ⟨bx, offx, xx, anx, lnx, cnx, amx, lmx, cmx, rfl, hxx, hAx, hLx, hMx⟩ := h.cell (k := k) (by omega)
  have hA1 := hAx.one (i := 1) rfl
  have hA2 := hAx.one (i := 2) rfl
  refine zz 6 ?_
  refine zdr A2 ?_
  refine gz [0, 1] ?_
  refine gi 2 (b := bx) (off := offx) (len := xs.length) (cap := cap) (kd := .i64) (i := (k : Int)) 3 (offx + k * 3) ?_
  refine gz [3] ?_
  refine gl 4 ((hA1.mono j2)) ?_
  refine gz [5, 6, 7] ?_
  refine gi 8 (b := bx) (off := offx) (len := xs.length) (cap := cap) (kd := .i64) (i := (k : Int)) 3 (offx + k * 3) ?_
  refine gz [9] ?_
  refine gl 10 ((hA2.mono j2)) ?_
  refine gz [11, 12, 13] ?_
  refine gend (fun w4 Y4 A4 j4 => ?_)
  refine zz 1 ?_
  refine zjoin (fun (bj5_45 : Bool) => [(0, .slice (some ⟨bx, offx, none⟩) xs.length cap), (3, .int .i64 (k : Int)), (45, .bool bj5_45)]) (fun (bj5_45 : Bool) w1 => ∃ Y1 : Hid, St E0 w X w1 Y1 [] ∧ Le (rd w4 Y4) (rd w1 Y1) ∧ (bj5_45 = false → lnx ≤ 200 ∧ lmx ≤ 200)) ?_ ?_
  ·
   rintro bj5_45 w5 ⟨Y5, A5, j5, hjp5⟩
   refine zb 45 (b := bj5_45) (fun hc6 => ?_) (fun hc6 => ?_)
   ·
    have ht7 : bj5_45 = true := by simpa using hc6
    refine zz 12 ?_
    refine zr' (v := .bool true) ?_
    exact ⟨A5.upd, _, rfl, _, rfl, fun e => by cases e⟩
   have ht8 : bj5_45 = false := by simpa using hc6
   refine zz 7 ?_
   refine zw 11 (x := (k : Int) + 1) ?_
   refine zz 2 ?_
   refine znext (fun a h => G2 (k + 1) _ a h ⟨_, A5, (Le3 j2 j4 j5), by omega, by rw [take_snoc hxx]; intro x hx; rcases List.mem_append.1 hx with h1 | h1; exact hp2_1 x h1; obtain rfl := List.mem_singleton.1 h1; have h9 := hjp5 ht8; have h8 := hLx.hlen; have h7 := hMx.hlen; omega⟩ ?_)
   first | omega | (simp <;> omega)
  intro K9 G9
  refine zz 4 ?_
  refine zt 26 (p := (lnx : Int) > 6) (fun ht10 => ?_) (fun ht10 => ?_)
  ·
   refine zz 4 ?_
   refine zt 30 (p := (lnx : Int) ≤ 128) (fun ht11 => ?_) (fun ht11 => ?_)
   ·
    refine zz 16 ?_
    exact znext (fun a h => G9 true _ a h ⟨_, A4, (Le.refl _), fun e => by first | (cases e; done) | (have e9 := of_decide_eq_false e; omega)⟩)
   refine zz 3 ?_
   refine zt 33 (p := (lmx : Int) > 6) (fun ht12 => ?_) (fun ht12 => ?_)
   ·
    refine zz 5 ?_
    refine zt 38 (p := (lmx : Int) ≤ 128) (fun ht13 => ?_) (fun ht13 => ?_)
    ·
     refine zz 8 ?_
     exact znext (fun a h => G9 true _ a h ⟨_, A4, (Le.refl _), fun e => by first | (cases e; done) | (have e9 := of_decide_eq_false e; omega)⟩)
    refine zz 4 ?_
    refine zt 42 (p := (lnx : Int) > 200) (fun ht14 => ?_) (fun ht14 => ?_)
    ·
     refine zz 4 ?_
     exact znext (fun a h => G9 true _ a h ⟨_, A4, (Le.refl _), fun e => by first | (cases e; done) | (have e9 := of_decide_eq_false e; omega)⟩)
    refine zz 4 ?_
    exact znext (fun a h => G9 (decide ((lmx : Int) > 200)) _ a h ⟨_, A4, (Le.refl _), fun e => by first | (cases e; done) | (have e9 := of_decide_eq_false e; omega)⟩)
   refine zz 9 ?_
   refine zt 42 (p := (lnx : Int) > 200) (fun ht15 => ?_) (fun ht15 => ?_)
   ·
    refine zz 4 ?_
    exact znext (fun a h => G9 true _ a h ⟨_, A4, (Le.refl _), fun e => by first | (cases e; done) | (have e9 := of_decide_eq_false e; omega)⟩)
   refine zz 4 ?_
   exact znext (fun a h => G9 (decide ((lmx : Int) > 200)) _ a h ⟨_, A4, (Le.refl _), fun e => by first | (cases e; done) | (have e9 := of_decide_eq_false e; omega)⟩)
  refine zz 7 ?_
  refine zt 33 (p := (lmx : Int) > 6) (fun ht16 => ?_) (fun ht16 => ?_)
  ·
   refine zz 5 ?_
   refine zt 38 (p := (lmx : Int) ≤ 128) (fun ht17 => ?_) (fun ht17 => ?_)
   ·
    refine zz 8 ?_
    exact znext (fun a h => G9 true _ a h ⟨_, A4, (Le.refl _), fun e => by first | (cases e; done) | (have e9 := of_decide_eq_false e; omega)⟩)
   refine zz 4 ?_
   refine zt 42 (p := (lnx : Int) > 200) (fun ht18 => ?_) (fun ht18 => ?_)
   ·
    refine zz 4 ?_
    exact znext (fun a h => G9 true _ a h ⟨_, A4, (Le.refl _), fun e => by first | (cases e; done) | (have e9 := of_decide_eq_false e; omega)⟩)
   refine zz 4 ?_
   exact znext (fun a h => G9 (decide ((lmx : Int) > 200)) _ a h ⟨_, A4, (Le.refl _), fun e => by first | (cases e; done) | (have e9 := of_decide_eq_false e; omega)⟩)
  refine zz 9 ?_
  refine zt 42 (p := (lnx : Int) > 200) (fun ht19 => ?_) (fun ht19 => ?_)
  ·
   refine zz 4 ?_
   exact znext (fun a h => G9 true _ a h ⟨_, A4, (Le.refl _), fun e => by first | (cases e; done) | (have e9 := of_decide_eq_false e; omega)⟩)
  refine zz 4 ?_
  exact znext (fun a h => G9 (decide ((lmx : Int) > 200)) _ a h ⟨_, A4, (Le.refl _), fun e => by first | (cases e; done) | (have e9 := of_decide_eq_false e; omega)⟩)
 refine zz 12 ?_
 refine zr' (v := .bool false) ?_
 exact ⟨A2.upd, _, rfl, _, rfl, fun _ => by have h9 := hp2_1; rwa [List.take_of_length_le (by omega)] at h9⟩
end Go.Proofs.YtoocgllbbihoaaaGreat
namespace Go.Proofs.YtoocgllbbihoaaaGreat
open Go Go.Gv Go.RowKit
set_option maxRecDepth 100000
set_option maxHeartbeats 1000000
theorem LongList_c (w : World) (X : Hid) (hX : ∀ k o, X k o → k < w.heap.size) (ad : Option Addr) (len cap : Nat) (xs : List Raw) (h : Rats (rd w X) ad len cap xs) : Calls Tryz.prog 7 #[.slice ad len cap] w (Ret E0 w fun _ v => ∃ b, v = .bool b ∧ (b = false → xs.length ≤ 20 ∧ ∀ x ∈ xs, x.ln.length ≤ 200 ∧ x.ld.length ≤ 200)) := by
 obtain rfl := h.hlen
 have hcap := h.hcap
 have hbig := h.hbig
 refine zen Tryz.func7 ?_
 have A0 : St E0 w X w X [] := St.start hX
 refine zz 11 ?_
 refine zt 6 (p := (xs.length : Int) > 20) (fun ht2 => ?_) (fun ht2 => ?_)
 ·
  refine zz 7 ?_
  refine zr' (v := .bool true) ?_
  exact ⟨A0.upd, _, rfl, _, rfl, fun e => by cases e⟩
 have hll : xs.length ≤ 20 := by omega
 refine zz 1 ?_
 refine zc A0 (Long06_c _ _ A0.lt _ _ _ _ h) ?_
 rintro v4 w4 A4 j4 hu4 ⟨bb4, rfl, hbl4⟩
 refine zz 5 ?_
 refine zr' (v := .bool bb4) ?_
 exact ⟨A4.upd, _, rfl, _, rfl, fun e => ⟨by omega, hbl4 e⟩⟩
theorem At.drop {r : Rd} {b o : Nat} {vs us : List Value} (h : At r ⟨b, o, none⟩ vs) (i : Nat) (e : vs.drop i = us) : At r ⟨b, o + i, none⟩ us := by
  subst e
  intro j v hj
  rw [List.getElem?_drop] at hj
  have := h (i + j) v hj
  rw [add_mk] at this ⊢
  rwa [Nat.add_assoc]
theorem Long_c (w : World) (X : Hid) (hX : ∀ k o, X k o → k < w.heap.size) (m : Mdp) (ad : Option Addr) (len cap : Nat) (h : Limbs (rd w X) ad len cap m.disc.ln) (ae : Option Addr) (le ce : Nat) (h2 : Limbs (rd w X) ae le ce m.disc.ld) (st : Option Addr) (ls cs : Nat) (hst : StatesR (rd w X) st ls cs m.states) : Calls Tryz.prog 6 #[.agg #[.bool m.disc.neg, .slice ad len cap, .slice ae le ce, .slice st ls cs]] w (Ret E0 w fun _ v => ∃ b, v = .bool b) := by
 obtain rfl := hst.hlen
 have hcaps := hst.hcap
 have hbigs := hst.hbig
 refine zen Tryz.func6 ?_
 have A0 : St E0 w X w X [] := St.start hX
 refine zz 2 ?_
 refine zn pn (.cells #[.bool m.disc.neg, .slice ad len cap, .slice ae le ce, .slice st m.states.length cs] 28 (0, 0)) A0 ?_
 intro b3 w3 Y3 A3 j3 hu3
 refine zz 4 ?_
 refine zjoin (fun (bj4_28 : Bool) => [(1, .pointer (some ⟨b3, 0, none⟩)), (28, .bool bj4_28)]) (fun (bj4_28 : Bool) w1 => ∃ Y1 : Hid, St E0 w X w1 Y1 [(b3, .cells #[.bool m.disc.neg, .slice ad len cap, .slice ae le ce, .slice st m.states.length cs] 28 (0, 0))] ∧ Le (rd w3 Y3) (rd w1 Y1)) ?_ ?_
 ·
  rintro bj4_28 w4 ⟨Y4, A4, j4⟩
  refine zb 28 (b := bj4_28) (fun hc5 => ?_) (fun hc5 => ?_)
  ·
   have ht6 : bj4_28 = true := by simpa using hc5
   refine zz 8 ?_
   refine zr' (v := .bool true) ?_
   exact ⟨A4.upd, _, rfl, _, rfl⟩
  have ht7 : bj4_28 = false := by simpa using hc5
  refine zz 10 ?_
  refine zlp Tryz.f6 [] [1, 1, 0, 1, 0] (fun (i : Nat) => [(1, .pointer (some ⟨b3, 0, none⟩)), (3, .int .i64 (i : Int))]) (fun (i : Nat) w1 => ∃ (Y1 : Hid), St E0 w X w1 Y1 [(b3, .cells #[.bool m.disc.neg, .slice ad len cap, .slice ae le ce, .slice st m.states.length cs] 28 (0, 0))] ∧ Le (rd w4 Y4) (rd w1 Y1) ∧ (i ≤ m.states.length)) (fun (i : Nat) => m.states.length - i) 0 ?_ ?_
  ·
   refine ⟨_, A4, Le.refl _, Nat.zero_le _⟩
  rintro i w8 K8 G8 ⟨Y8, A8, j8, hp8_0⟩
  refine zz 5 ?_
  refine zo 0 A8 ?_
  refine zz 3 ?_
  refine zt 34 (p := (i : Int) < (m.states.length : Int)) (fun ht9 => ?_) (fun ht9 => ?_)
  ·
   obtain ⟨b0, off0, rfl⟩ := hst.addr (by omega)
   obtain ⟨sx, ax, lx, cx, hxs, hAs, hacts⟩ := hst.at (k := i) (by omega)
   obtain rfl := hacts.hlen
   have hcapx := hacts.hcap
   have hbigx := hacts.hbig
   have hAs1 : At (rd w X) ⟨b0, off0 + i, none⟩ [.slice ax sx.length cx] := by simpa using hAs
   refine zz 5 ?_
   refine zt 37 (p := (i : Int) < 12) (fun ht10 => ?_) (fun ht10 => ?_)
   ·
    refine zz 9 ?_
    refine zo 0 A8 ?_
    refine zz 1 ?_
    refine zi (b := b0) (off := off0) (len := m.states.length) (cap := cs) (kd := .i64) (i := (i : Int)) 1 (off0 + i) ?_
    refine zl ((hAs1.mono (Le3 j3 j4 j8))).cells ?_
    refine zz 4 ?_
    refine zt 46 (p := (sx.length : Int) > 8) (fun ht11 => ?_) (fun ht11 => ?_)
    ·
     refine zz 13 ?_
     refine zr' (v := .bool true) ?_
     exact ⟨A8.upd, _, rfl, _, rfl⟩
    refine zz 9 ?_
    refine zlp Tryz.f6 [K8] [1, 1, 0, 1, 0, 0, 1, 0, 0, 1, 1, 0] (fun (j : Nat) => [(1, .pointer (some ⟨b3, 0, none⟩)), (3, .int .i64 (i : Int)), (4, .int .i64 (j : Int))]) (fun (j : Nat) w1 => ∃ (Y1 : Hid), St E0 w X w1 Y1 [(b3, .cells #[.bool m.disc.neg, .slice ad len cap, .slice ae le ce, .slice (some ⟨b0, off0, none⟩) m.states.length cs] 28 (0, 0))] ∧ Le (rd w8 Y8) (rd w1 Y1) ∧ (j ≤ sx.length)) (fun (j : Nat) => sx.length - j) 0 ?_ ?_
    ·
     refine ⟨_, A8, Le.refl _, Nat.zero_le _⟩
    rintro j w12 K12 G12 ⟨Y12, A12, j12, hp12_0⟩
    refine zz 5 ?_
    refine zo 0 A12 ?_
    refine zz 1 ?_
    refine zi (b := b0) (off := off0) (len := m.states.length) (cap := cs) (kd := .i64) (i := (i : Int)) 1 (off0 + i) ?_
    have hc1_ := (Le3 j3 j4 j8).trans j12
    refine zl ((hAs1.mono hc1_)).cells ?_
    refine zz 4 ?_
    refine zt 54 (p := (j : Int) < (sx.length : Int)) (fun ht13 => ?_) (fun ht13 => ?_)
    ·
     obtain ⟨b9, off9, rfl⟩ := hacts.addr (by omega)
     obtain ⟨xa, a1a, a2a, a3a, a4a, a5a, a6a, a7a, a8a, a9a, hxa, hAa, hLa, hMa, hOa⟩ := hacts.at (k := j) (by omega)
     obtain rfl := hOa.hlen
     have hcapo := hOa.hcap
     have hbigo := hOa.hbig
     refine zz 8 ?_
     refine zo 0 A12 ?_
     refine zz 1 ?_
     refine zi (b := b0) (off := off0) (len := m.states.length) (cap := cs) (kd := .i64) (i := (i : Int)) 1 (off0 + i) ?_
     refine zl ((hAs1.mono hc1_)).cells ?_
     refine zz 1 ?_
     refine zi (b := b9) (off := off9) (len := sx.length) (cap := cx) (kd := .i64) (i := (j : Int)) 4 (off9 + j * 4) ?_
     refine zl ((hAa.mono hc1_)).cells ?_
     refine zn pn (.cells #[.bool false, .slice none 0 0, .slice none 0 0, .slice none 0 0] 63 (0, 0)) A12 ?_
     intro b15 w15 Y15 A15 j15 hu15
     refine zx 0 #[.bool xa.cost.neg, .slice a1a a2a a3a, .slice a4a a5a a6a, .slice a7a xa.next.length a9a] A15 ?_
     intro w16 A16 j16
     refine zz 3 ?_
     refine zjoin (fun (bj17_86 : Bool) => [(1, .pointer (some ⟨b3, 0, none⟩)), (3, .int .i64 (i : Int)), (4, .int .i64 (j : Int)), (5, .pointer (some ⟨b15, 0, none⟩)), (86, .bool bj17_86)]) (fun (bj17_86 : Bool) w1 => ∃ Y1 : Hid, St E0 w X w1 Y1 [(b15, .cells #[.bool xa.cost.neg, .slice a1a a2a a3a, .slice a4a a5a a6a, .slice a7a xa.next.length a9a] 63 (0, 0)), (b3, .cells #[.bool m.disc.neg, .slice ad len cap, .slice ae le ce, .slice (some ⟨b0, off0, none⟩) m.states.length cs] 28 (0, 0))] ∧ Le (rd w16 Y15) (rd w1 Y1)) ?_ ?_
     ·
      rintro bj17_86 w17 ⟨Y17, A17, j17⟩
      refine zb 86 (b := bj17_86) (fun hc18 => ?_) (fun hc18 => ?_)
      ·
       have ht19 : bj17_86 = true := by simpa using hc18
       refine zz 17 ?_
       refine zr' (v := .bool true) ?_
       exact ⟨A17.upd, _, rfl, _, rfl⟩
      have ht20 : bj17_86 = false := by simpa using hc18
      refine zz 9 ?_
      refine zlp Tryz.f6 [K8, K12] [1, 1, 0, 1, 0, 0, 1, 0, 0, 1, 1, 0, 0, 1, 0, 0, 1, 1, 1, 0] (fun (k : Nat) => [(1, .pointer (some ⟨b3, 0, none⟩)), (3, .int .i64 (i : Int)), (4, .int .i64 (j : Int)), (5, .pointer (some ⟨b15, 0, none⟩)), (6, .int .i64 (k : Int))]) (fun (k : Nat) w1 => ∃ (Y1 : Hid), St E0 w X w1 Y1 [(b15, .cells #[.bool xa.cost.neg, .slice a1a a2a a3a, .slice a4a a5a a6a, .slice a7a xa.next.length a9a] 63 (0, 0)), (b3, .cells #[.bool m.disc.neg, .slice ad len cap, .slice ae le ce, .slice (some ⟨b0, off0, none⟩) m.states.length cs] 28 (0, 0))] ∧ Le (rd w17 Y17) (rd w1 Y1) ∧ (k ≤ xa.next.length)) (fun (k : Nat) => xa.next.length - k) 0 ?_ ?_
      ·
       refine ⟨_, A17, Le.refl _, Nat.zero_le _⟩
      rintro k w21 K21 G21 ⟨Y21, A21, j21, hp21_0⟩
      refine zz 5 ?_
      refine zo 0 A21 ?_
      refine zz 4 ?_
      refine zt 91 (p := (k : Int) < (xa.next.length : Int)) (fun ht22 => ?_) (fun ht22 => ?_)
      ·
       obtain ⟨bo, offo, rfl⟩ := hOa.addr (by omega)
       obtain ⟨ox, anx, lnx, cnx, amx, lmx, cmx, hxx, hAx, hLx, hMx⟩ := hOa.at (k := k) (by omega)
       have hA3 : At (rd w X) ⟨bo, offo + k * 4 + 1, none⟩ [.bool ox.p.neg, .slice anx lnx cnx, .slice amx lmx cmx] := At.drop hAx 1 rfl
       refine zz 8 ?_
       refine zo 0 A21 ?_
       refine zz 1 ?_
       refine zi (b := bo) (off := offo) (len := xa.next.length) (cap := a9a) (kd := .i64) (i := (k : Int)) 4 (offo + k * 4) ?_
       refine zz 1 ?_
       have hc3_ := (((hc1_.trans j15).trans j16).trans j17).trans j21
       refine zl ((hA3.mono hc3_)).cells ?_
       refine zn (fun b => .slice (some ⟨b, 0, none⟩) 1 1) (.cells #[.bool ox.p.neg, .slice anx lnx cnx, .slice amx lmx cmx] 25 (0, 0)) A21 ?_
       intro b24 w24 Y24 A24 j24 hu24
       obtain ⟨A26, j26, hat26⟩ := St.publish A24 (A24.own_ge 0 rfl)
       have hc4_ := (hc3_.trans j24).trans j26
       have hR26 : Rats (rd w24 (show_ b24 Y24)) (some ⟨b24, 0, none⟩) 1 1 [ox.p] := Rats.one hat26 (hLx.mono hc4_) (hMx.mono hc4_)
       refine zc A26 (Long06_c _ _ A26.lt _ _ _ _ hR26) ?_
       rintro v27 w27 A27 j27 hu27 ⟨bb27, rfl, hbl27⟩
       refine zz 2 ?_
       refine zb 101 (b := bb27) (fun hc28 => ?_) (fun hc28 => ?_)
       ·
        have ht29 : bb27 = true := by simpa using hc28
        refine zz 20 ?_
        refine zr' (v := .bool true) ?_
        exact ⟨A27.upd, _, rfl, _, rfl⟩
       have ht30 : bb27 = false := by simpa using hc28
       refine zz 7 ?_
       refine zw 93 (x := (k : Int) + 1) ?_
       refine zz 2 ?_
       have hc5_ := (Le3 j21 j24 j26).trans j27
       refine znext (fun a h => G21 (k + 1) _ a h ⟨_, A27, hc5_, by omega⟩ ?_)
       first | omega | (simp <;> omega)
      refine zz 10 ?_
      refine zw 56 (x := (j : Int) + 1) ?_
      refine zz 2 ?_
      have hc6_ := (Le4 j12 j15 j16 j17).trans j21
      refine znext (fun a h => G12 (j + 1) _ a h ⟨_, A21.tail, hc6_, by omega⟩ ?_)
      first | omega | (simp <;> omega)
     intro K31 G31
     refine zz 2 ?_
     refine zo 0 A16 ?_
     refine zn (fun b => .slice (some ⟨b, 0, none⟩) 1 1) (.cells #[.bool xa.cost.neg, .slice a1a a2a a3a, .slice a4a a5a a6a] 25 (0, 0)) A16 ?_
     intro b33 w33 Y33 A33 j33 hu33
     obtain ⟨A35, j35, hat35⟩ := St.publish A33 (A33.own_ge 0 rfl)
     have hc7_ := (((hc1_.trans j15).trans j16).trans j33).trans j35
     have hR35 : Rats (rd w33 (show_ b33 Y33)) (some ⟨b33, 0, none⟩) 1 1 [xa.cost] := Rats.one hat35 (hLa.mono hc7_) (hMa.mono hc7_)
     refine zc A35 (Long06_c _ _ A35.lt _ _ _ _ hR35) ?_
     rintro v36 w36 A36 j36 hu36 ⟨bb36, rfl, hbl36⟩
     refine zz 1 ?_
     refine zb 69 (b := bb36) (fun hc37 => ?_) (fun hc37 => ?_)
     ·
      have ht38 : bb36 = true := by simpa using hc37
      refine zz 18 ?_
      exact znext (fun a h => G31 true _ a h ⟨_, A36, (Le3 j33 j35 j36)⟩)
     have ht39 : bb36 = false := by simpa using hc37
     refine zz 1 ?_
     refine zo 0 A36 ?_
     refine zz 3 ?_
     refine zt 74 (p := (xa.next.length : Int) > 16) (fun ht40 => ?_) (fun ht40 => ?_)
     ·
      refine zz 1 ?_
      refine zo 0 A36 ?_
      refine zz 5 ?_
      refine zt 81 (p := (xa.next.length : Int) ≤ 64) (fun ht41 => ?_) (fun ht41 => ?_)
      ·
       refine zz 6 ?_
       exact znext (fun a h => G31 true _ a h ⟨_, A36, (Le3 j33 j35 j36)⟩)
      refine zz 1 ?_
      refine zo 0 A36 ?_
      refine zz 4 ?_
      exact znext (fun a h => G31 (decide ((xa.next.length : Int) > 70)) _ a h ⟨_, A36, (Le3 j33 j35 j36)⟩)
     refine zz 8 ?_
     refine zo 0 A36 ?_
     refine zz 4 ?_
     exact znext (fun a h => G31 (decide ((xa.next.length : Int) > 70)) _ a h ⟨_, A36, (Le3 j33 j35 j36)⟩)
    refine zz 10 ?_
    refine zw 39 (x := (i : Int) + 1) ?_
    refine zz 2 ?_
    refine znext (fun a h => G8 (i + 1) _ a h ⟨_, A12, (Le2 j8 j12), by omega⟩ ?_)
    first | omega | (simp <;> omega)
   refine zz 12 ?_
   refine zr' (v := .bool false) ?_
   exact ⟨A8.upd, _, rfl, _, rfl⟩
  refine zz 17 ?_
  refine zr' (v := .bool false) ?_
  exact ⟨A8.upd, _, rfl, _, rfl⟩
 intro K42 G42
 refine zz 2 ?_
 refine zo 0 A3 ?_
 refine zz 3 ?_
 refine zt 11 (p := (m.states.length : Int) > 12) (fun ht43 => ?_) (fun ht43 => ?_)
 ·
  refine zz 1 ?_
  refine zo 0 A3 ?_
  refine zz 4 ?_
  refine zt 17 (p := (m.states.length : Int) ≤ 200) (fun ht44 => ?_) (fun ht44 => ?_)
  ·
   refine zz 12 ?_
   exact znext (fun a h => G42 true _ a h ⟨_, A3, (Le.refl _)⟩)
  refine zz 1 ?_
  refine zo 0 A3 ?_
  refine zz 4 ?_
  refine zt 23 (p := (m.states.length : Int) > 210) (fun ht45 => ?_) (fun ht45 => ?_)
  ·
   refine zz 6 ?_
   exact znext (fun a h => G42 true _ a h ⟨_, A3, (Le.refl _)⟩)
  refine zz 1 ?_
  refine zo 0 A3 ?_
  refine zn (fun b => .slice (some ⟨b, 0, none⟩) 1 1) (.cells #[.bool m.disc.neg, .slice ad len cap, .slice ae le ce] 25 (0, 0)) A3 ?_
  intro b47 w47 Y47 A47 j47 hu47
  obtain ⟨A49, j49, hat49⟩ := St.publish A47 (A47.own_ge 0 rfl)
  have hR49 : Rats (rd w47 (show_ b47 Y47)) (some ⟨b47, 0, none⟩) 1 1 [m.disc] := Rats.one hat49 (h.mono (Le3 j3 j47 j49)) (h2.mono (Le3 j3 j47 j49))
  refine zc A49 (Long06_c _ _ A49.lt _ _ _ _ hR49) ?_
  rintro v50 w50 A50 j50 hu50 ⟨bb50, rfl, hbl50⟩
  refine zz 2 ?_
  exact znext (fun a h => G42 bb50 _ a h ⟨_, A50, (Le3 j47 j49 j50)⟩)
 refine zz 7 ?_
 refine zo 0 A3 ?_
 refine zz 4 ?_
 refine zt 23 (p := (m.states.length : Int) > 210) (fun ht51 => ?_) (fun ht51 => ?_)
 ·
  refine zz 6 ?_
  exact znext (fun a h => G42 true _ a h ⟨_, A3, (Le.refl _)⟩)
 refine zz 1 ?_
 refine zo 0 A3 ?_
 refine zn (fun b => .slice (some ⟨b, 0, none⟩) 1 1) (.cells #[.bool m.disc.neg, .slice ad len cap, .slice ae le ce] 25 (0, 0)) A3 ?_
 intro b53 w53 Y53 A53 j53 hu53
 obtain ⟨A55, j55, hat55⟩ := St.publish A53 (A53.own_ge 0 rfl)
 have hR55 : Rats (rd w53 (show_ b53 Y53)) (some ⟨b53, 0, none⟩) 1 1 [m.disc] := Rats.one hat55 (h.mono (Le3 j3 j53 j55)) (h2.mono (Le3 j3 j53 j55))
 refine zc A55 (Long06_c _ _ A55.lt _ _ _ _ hR55) ?_
 rintro v56 w56 A56 j56 hu56 ⟨bb56, rfl, hbl56⟩
 refine zz 2 ?_
 exact znext (fun a h => G42 bb56 _ a h ⟨_, A56, (Le3 j53 j55 j56)⟩)
end Go.Proofs.YtoocgllbbihoaaaGreat
namespace Go.Proofs.YtoocgllbbihoaaaGreat
open Go Go.Gv Go.RowKit
set_option maxRecDepth 100000
set_option maxHeartbeats 1000000
theorem cut5_c (w : World) (X : Hid) (hX : ∀ k o, X k o → k < w.heap.size) (ad : Option Addr) (len cap : Nat) (l : List Nat) (h : Limbs (rd w X) ad len cap l) :
    Calls Tryz.prog 129 #[.slice ad len cap] w (Ret E0 w fun _ v => v = .slice ad (trimN l) cap) := by
 obtain rfl := h.hlen
 have hl := h.hlen
 have hcap := h.hcap
 have hbig := h.hbig
 refine zen Tryz.func129 ?_
 have A0 : St E0 w X w X [] := St.start hX
 refine zz 7 ?_
 refine zlp Tryz.f129 [] [1, 0, 0] (fun (k : Nat) => [(0, .slice ad k cap)]) (fun (k : Nat) w1 => ∃ (Y1 : Hid), St E0 w X w1 Y1 [] ∧ Le (rd w X) (rd w1 Y1) ∧ (k ≤ l.length) ∧ (trimTo l k = trimTo l l.length)) (fun (k : Nat) => k) l.length ?_ ?_
 ·
  refine ⟨_, A0, Le.refl _, Nat.le_refl _, rfl⟩
 rintro k w2 K2 G2 ⟨Y2, A2, j2, hp2_0, hp2_1⟩
 have hk := hp2_0
 have ht := hp2_1
 refine zz 7 ?_
 refine zt 6 (p := (k : Int) > 0) (fun ht3 => ?_) (fun ht3 => ?_)
 ·
  obtain ⟨bk4, of5, rfl, _⟩ := h.addr (by omega)
  have hcell := (h.cell (i := k - 1) (by omega))
  refine zz 4 ?_
  refine zw 10 (x := (k : Int) - 1) ?_
  refine zi (b := bk4) (off := of5) (len := k) (cap := cap) (kd := .i64) (i := (k : Int) - 1) 1 (of5 + (k - 1)) ?_ (hoff := (by first | omega | (simp; done) | (simp; omega)))
  refine zl ((hcell.mono j2)).cells ?_
  refine zz 4 ?_
  refine zb 14 (b := (((l.getD (k - 1) 0 : Nat) : Int) == 0)) (fun hc6 => ?_) (fun hc6 => ?_)
  ·
   have ht7 : ((l.getD (k - 1) 0 : Nat) : Int) = 0 := by simpa using hc6
   have hk2 := trimTo_pred (l := l) (k := k) (by omega) (by omega)
   refine zz 9 ?_
   refine zw 18 (x := (k : Int) - 1) ?_
   refine zop (at1 [K2] Tryz.f129 [1, 0, 0, 0, 1, 0]) 4 (fun a8 _ C8 hz8 => zF (d := 19) (v := .slice (some ⟨bk4, of5, none⟩) (k - 1) cap) C8 kr (run_sliceTo' (t := 23) (e := 124) (ad := (some ⟨bk4, of5, none⟩)) (len := k) (cap := cap) (kd := .i64) (i := (k : Int) - 1) (h' := (k - 1)) (g := false) (m := 1) rfl kr kr kr kr (by omega) (by omega) (by first | omega | (simp; done) | (simp; omega)) _) ?_)
   intro a9 C9
   refine hz8 C9 ?_
   refine zz 3 ?_
   refine znext (fun a h => G2 (k - 1) _ a h ⟨_, A2, j2, by omega, by omega⟩ ?_)
   first | omega | (simp <;> omega)
  have ht10 : ((l.getD (k - 1) 0 : Nat) : Int) ≠ 0 := by simpa using hc6
  have hk2 := trimTo_here (l := l) (k := k) (by omega) (by omega)
  refine zz 13 ?_
  refine zr' (v := .slice (some ⟨bk4, of5, none⟩) k cap) ?_
  exact ⟨A2.upd, _, rfl, by unfold trimN; first | rw [← ht, hk2] | rw [← ht]; rfl⟩
 obtain rfl : k = 0 := by omega
 refine zz 23 ?_
 refine zr' (v := .slice ad 0 cap) ?_
 exact ⟨A2.upd, _, rfl, by unfold trimN; first | rw [← ht, hk2] | rw [← ht]; rfl⟩
theorem check5_c (w : World) (X : Hid) (hX : ∀ k o, X k o → k < w.heap.size) (ad : Option Addr) (len cap : Nat) (l : List Nat) (h : Limbs (rd w X) ad len cap l) : Calls Tryz.prog 83 #[.slice ad len cap] w (Ret E0 w fun _ v => v = .int .i64 (chkN l)) := by
 obtain rfl := h.hlen
 have hcap := h.hcap
 have hbig := h.hbig
 refine zen Tryz.func83 ?_
 have A0 : St E0 w X w X [] := St.start hX
 refine zz 13 ?_
 refine zt 5 (p := (l.length : Int) > 512) (fun ht2 => ?_) (fun ht2 => ?_)
 ·
  refine zz 8 ?_
  refine zr' (v := .int .i64 4) ?_
  exact ⟨A0.upd, _, rfl, vint (by unfold chkN; (repeat' split) <;> first | rfl | omega)⟩
 refine zz 10 ?_
 refine zt 9 (p := (l.length : Int) > 0) (fun ht3 => ?_) (fun ht3 => ?_)
 ·
  obtain ⟨bk4, of5, rfl, _⟩ := h.addr (by omega)
  refine zz 4 ?_
  refine zw 13 (x := (l.length : Int) - 1) ?_
  refine zi (b := bk4) (off := of5) (len := l.length) (cap := cap) (kd := .i64) (i := (l.length : Int) - 1) 1 (of5 + (l.length - 1)) ?_ (hoff := (by first | omega | (simp; done) | (simp; omega)))
  refine zl ((h.cell (i := (l.length - 1)) (by omega)).mono (Le.refl _)).cells ?_
  refine zz 4 ?_
  refine zb 17 (b := (((l.getD (l.length - 1) 0 : Nat) : Int) == 0)) (fun hc6 => ?_) (fun hc6 => ?_)
  ·
   have ht7 : ((l.getD (l.length - 1) 0 : Nat) : Int) = 0 := by simpa using hc6
   refine zz 8 ?_
   refine zr' (v := .int .i64 2) ?_
   exact ⟨A0.upd, _, rfl, vint (by unfold chkN; (repeat' split) <;> first | rfl | omega)⟩
  have ht8 : ((l.getD (l.length - 1) 0 : Nat) : Int) ≠ 0 := by simpa using hc6
  refine zz 9 ?_
  refine zr' (v := .int .i64 0) ?_
  exact ⟨A0.upd, _, rfl, vint (by unfold chkN; (repeat' split) <;> first | rfl | omega)⟩
 refine zz 19 ?_
 refine zr' (v := .int .i64 0) ?_
 exact ⟨A0.upd, _, rfl, vint (by unfold chkN; (repeat' split) <;> first | rfl | omega)⟩
theorem limb5_c (w : World) (X : Hid) (hX : ∀ k o, X k o → k < w.heap.size) (ad : Option Addr) (len cap : Nat) (l : List Nat) (h : Limbs (rd w X) ad len cap l) (i : Nat) : Calls Tryz.prog 132 #[.slice ad len cap, .int .i64 (i : Int)] w (Ret E0 w fun _ v => v = .int .u64 ((l.getD i 0 : Nat) : Int)) := by
 obtain rfl := h.hlen
 have hcap := h.hcap
 have hbig := h.hbig
 have hlt := h.getD_lt i
 refine zen Tryz.func132 ?_
 have A0 : St E0 w X w X [] := St.start hX
 refine zz 14 ?_
 refine zt 8 (p := (i : Int) < (l.length : Int)) (fun ht2 => ?_) (fun ht2 => ?_)
 ·
  obtain ⟨bk3, of4, rfl, _⟩ := h.addr (by omega)
  refine zz 5 ?_
  refine zi (b := bk3) (off := of4) (len := l.length) (cap := cap) (kd := .i64) (i := (i : Int)) 1 (of4 + i) ?_
  refine zl ((h.cell (i := i) (by omega)).mono (Le.refl _)).cells ?_
  refine zz 1 ?_
  refine zs 13 (v := .int .u64 (IntKind.u64.wrap (((l.getD i 0 : Nat) : Int)))) (v' := .int .u64 ((l.getD i 0 : Nat) : Int)) (vint (wu64 (by omega) (by omega))) ?_
  refine zz 5 ?_
  refine zr' (v := .int .u64 ((l.getD i 0 : Nat) : Int)) ?_
  exact ⟨A0.upd, _, rfl, vint (by first | rfl | (rw [List.getD_eq_getElem?_getD, List.getElem?_eq_none (by omega)]; rfl))⟩
 refine zz 9 ?_
 refine zr' (v := .int .u64 0) ?_
 exact ⟨A0.upd, _, rfl, vint (by first | rfl | (rw [List.getD_eq_getElem?_getD, List.getElem?_eq_none (by omega)]; rfl))⟩
end Go.Proofs.YtoocgllbbihoaaaGreat
namespace Go.Proofs.YtoocgllbbihoaaaGreat
open Go Go.Gv Go.RowKit
set_option maxRecDepth 100000
set_option maxHeartbeats 1000000
theorem trimN_le {len : Nat} (l : List Nat) (h : len = l.length) : trimN l ≤ len := by rw [h]; exact trimTo_le l _
theorem mx1 {l l2 : List Nat} {k c : Nat} (hc : ¬ 0 < c) (h1 : ¬ k < l.length) (h2 : ¬ k < l2.length) {v : Nat} (h : v + c * 4294967296 ^ k = val (l.take k) + val (l2.take k)) : v = val l + val l2 := by
  rw [List.take_of_length_le (by omega), List.take_of_length_le (by omega), show c = 0 by omega] at h; omega
theorem snoc_lt {ls : List Nat} {x : Nat} (h : ∀ y ∈ ls, y < 4294967296) (hx : x < 4294967296) : ∀ y ∈ ls ++ [x], y < 4294967296 := fun y hy => by
  rcases List.mem_append.1 hy with h1 | h1
  · exact h y h1
  · obtain rfl := List.mem_singleton.1 h1; exact hx
theorem getD_out {l : List Nat} {k : Nat} (h : l.length ≤ k) : l.getD k 0 = 0 := by rw [List.getD_eq_getElem?_getD, List.getElem?_eq_none h]; rfl
theorem sum5_c (w : World) (X : Hid) (hX : ∀ k o, X k o → k < w.heap.size) (ad : Option Addr) (len cap : Nat) (l : List Nat) (h : Limbs (rd w X) ad len cap l) (ad2 : Option Addr) (len2 cap2 : Nat) (l2 : List Nat) (h2 : Limbs (rd w X) ad2 len2 cap2 l2) (hm : len ≤ 1000000) (hm2 : len2 ≤ 1000000) : Calls Tryz.prog 102 #[.slice ad len cap, .slice ad2 len2 cap2] w (Ret E0 w fun w' v => NatX X w' v (val l + val l2)) := by
 obtain rfl := h.hlen
 obtain rfl := h2.hlen
 have hcap := h.hcap
 have hbig := h.hbig
 have hcap2 := h2.hcap
 have hbig2 := h2.hbig
 refine zen Tryz.func102 ?_
 have A0 : St E0 w X w X [] := St.start hX
 refine zz 22 ?_
 refine zlp Tryz.f102 [] [1, 1, 1, 0, 1, 0] (fun ((k, ad8, cap8, c) : Nat × (Option Addr) × Nat × Nat) => [(0, .slice ad l.length cap), (1, .slice ad2 l2.length cap2), (5, .slice ad8 k cap8), (6, .int .u64 (c : Int)), (7, .int .i64 (k : Int))]) (fun ((k, ad8, cap8, c) : Nat × (Option Addr) × Nat × Nat) w1 => ∃ (Y1 : Hid) (rb : List (Nat × Obj)) (ls : List Nat), St E0 w X w1 Y1 (rb) ∧ Le (rd w X) (rd w1 Y1) ∧ (TRow 124 1 rb ad8 k cap8 (U32 ls)) ∧ (ls.length = k) ∧ (∀ x ∈ ls, x < 4294967296) ∧ (val ls + c * 4294967296 ^ k = val (l.take k) + val (l2.take k)) ∧ (c ≤ 1) ∧ (k ≤ max l.length l2.length + 1) ∧ (k = max l.length l2.length + 1 → c = 0)) (fun ((k, ad8, cap8, c) : Nat × (Option Addr) × Nat × Nat) => max l.length l2.length + 1 - k) (0, none, 0, 0) ?_ ?_
 ·
  refine ⟨_, [], [], A0, Le.refl _, TRow.nil _ _, rfl, fun _ h => absurd h (by simp), by simp [val], by omega, Nat.zero_le _, fun _ => rfl⟩
 rintro ⟨k, ad8, cap8, c⟩ w2 K2 G2 ⟨Y2, rb, ls, A2, j2, hp2_0, hp2_1, hp2_2, hp2_3, hp2_4, hp2_5, hp2_6⟩
 have hrw := hp2_0
 have hrl := hp2_1
 have hrt := hp2_2
 have hv := hp2_3
 have hc := hp2_4
 have hk := hp2_5
 have hkc := hp2_6
 have hlt1 := h.getD_lt k
 have hlt2 := h2.getD_lt k
 refine zz 1 ?_
 refine zjoin (fun (bj3_22 : Bool) => [(0, .slice ad l.length cap), (1, .slice ad2 l2.length cap2), (5, .slice ad8 k cap8), (6, .int .u64 (c : Int)), (7, .int .i64 (k : Int)), (22, .bool bj3_22)]) (fun (bj3_22 : Bool) w1 => ∃ Y1 : Hid, St E0 w X w1 Y1 (rb) ∧ Le (rd w2 Y2) (rd w1 Y1) ∧ (bj3_22 = true ↔ (k < l.length ∨ k < l2.length ∨ 0 < c))) ?_ ?_
 ·
  rintro bj3_22 w3 ⟨Y3, A3, j3, hjp3⟩
  refine zb 22 (b := bj3_22) (fun hc4 => ?_) (fun hc4 => ?_)
  ·
   have ht5 : bj3_22 = true := by simpa using hc4
   have hgo := hjp3.1 ht5
   refine zz 9 ?_
   refine zc A3 (limb5_c _ X0 (X0_lt _) _ _ _ l ((h.mono (Le2 j2 j3)).mono Le.x0) k) ?_
   rintro v7 w7 A7 j7 hu7 rfl
   refine zz 2 ?_
   refine zc A7 (limb5_c _ X0 (X0_lt _) _ _ _ l2 ((h2.mono (Le3 j2 j3 j7)).mono Le.x0) k) ?_
   rintro v9 w9 A9 j9 hu9 rfl
   refine zz 1 ?_
   refine zs 31 (v := .int .u64 (IntKind.u64.wrap (((l.getD k 0 : Nat) : Int) + ((l2.getD k 0 : Nat) : Int)))) (v' := .int .u64 (((l.getD k 0 : Nat) : Int) + ((l2.getD k 0 : Nat) : Int))) (vint (wu64 (by omega) (by omega))) ?_
   refine zz 2 ?_
   refine zs 33 (v := .int .u64 (IntKind.u64.wrap ((((l.getD k 0 : Nat) : Int) + ((l2.getD k 0 : Nat) : Int)) + (c : Int)))) (v' := .int .u64 (((l.getD k 0 + l2.getD k 0 + c) : Nat) : Int)) (vint ((wu64 (by omega) (by omega)).trans (by omega))) ?_
   refine zz 8 ?_
   refine zs 36 (v := .int .u64 (Int.tmod ((((l.getD k 0 + l2.getD k 0 + c) : Nat) : Int)) (4294967296))) (v' := .int .u64 (((l.getD k 0 + l2.getD k 0 + c) % 4294967296 : Nat) : Int)) (vint (by rfl)) ?_
   refine zz 1 ?_
   refine zs 37 (v := .int .u32 (IntKind.u32.wrap ((((l.getD k 0 + l2.getD k 0 + c) % 4294967296 : Nat) : Int)))) (v' := .int .u32 (((l.getD k 0 + l2.getD k 0 + c) % 4294967296 : Nat) : Int)) (vint (wu32 (by omega) (by omega))) ?_
   refine zn (fun b => .slice (some ⟨b, 0, none⟩) 1 1) (.cells #[.int .u32 (((l.getD k 0 + l2.getD k 0 + c) % 4294967296 : Nat) : Int)] 124 (0, 0)) A9 ?_
   intro b11 w11 Y11 A11 j11 hu11
   refine zop (at1 [K2] Tryz.f102 [1, 1, 1, 0, 1, 0, 0, 1, 0, 0, 1, 0]) 5 (fun a12 _ C12 hz12 => op_appEZ (b := 4) (m := 1) (c := 1) (ad := ⟨b11, 0, none⟩) (news := [.int .u32 (((l.getD k 0 + l2.getD k 0 + c) % 4294967296 : Nat) : Int)]) (i0 := Tryz.t124) (R1 := []) 1 C12 A11 rfl hrw (A11.cells 0 rfl rfl) (by omega) (by omega) ?_)
   intro rb13 ad13 cap13 w13 Y13 hrow13 A13 j13 a14 C14
   have hrw13 : TRow 124 1 rb13 ad13 (k + 1) cap13 (U32 (ls ++ [(l.getD k 0 + l2.getD k 0 + c) % 4294967296])) := by rw [← U32_snoc]; exact hrow13
   refine hz12 C14 ?_
   refine zz 6 ?_
   refine zs 41 (v := .int .u64 (IntKind.u64.wrap (Int.tdiv ((((l.getD k 0 + l2.getD k 0 + c) : Nat) : Int)) (4294967296)))) (v' := .int .u64 (((l.getD k 0 + l2.getD k 0 + c) / 4294967296 : Nat) : Int)) (vint (u64_quo _ (by omega))) ?_
   refine zz 7 ?_
   refine zw 24 (x := (k : Int) + 1) ?_
   refine zz 2 ?_
   have hc1_ := (Le5 j2 j3 j7 j9 j11).trans j13
   refine znext (fun a h => G2 ((k + 1, ad13, cap13, (l.getD k 0 + l2.getD k 0 + c) / 4294967296)) _ a h ⟨_, rb13, (ls ++ [(l.getD k 0 + l2.getD k 0 + c) % 4294967296]), A13.tail, hc1_, hrw13, by rw [List.length_append, hrl]; rfl, snoc_lt hrt (by omega), sumstep _ _ _ _ _ hrl hv, by omega, by omega, fun hk9 => by have e1 : l.getD k 0 = 0 := getD_out (by omega); have e2 : l2.getD k 0 = 0 := getD_out (by omega); omega⟩ ?_)
   first | omega | (simp <;> omega)
  have ht15 : bj3_22 = false := by simpa using hc4
  have hno : ¬ (k < l.length ∨ k < l2.length ∨ 0 < c) := fun e => by rw [hjp3.2 e] at ht15; cases ht15
  have hend := mx1 (fun e => hno (.inr (.inr e))) (fun e => hno (.inl e)) (fun e => hno (.inr (.inl e))) hv
  refine zz 9 ?_
  obtain ⟨Y17, hSx17, j17, hL17⟩ := St.pubLimbs (A := []) (B := []) (fun rb => (rb)) A3 (fun _ => by simp only [List.append_assoc, List.cons_append, List.nil_append, List.append_nil]) hrw hrl.symm hrt
  have A17 : St E0 w X w3 Y17 [] := hSx17
  refine zc A17 (cut5_c _ _ A17.lt _ _ _ ls hL17) ?_
  rintro v18 w18 A18 j18 hu18 rfl
  refine zz 4 ?_
  refine zr' (v := .slice ad8 (trimN ls) cap8) ?_
  exact ⟨A18.upd, _, rfl, _, _, _, rfl, _, ((hL17.sub (trimN_le _ hL17.hlen)).mono (Le.trans j18 A18.le)), canon_trimmed _, by rw [show List.take (trimN ls) ls = Go.Gv.trimmed ls from rfl, val_trimmed]; exact hend⟩
 intro K19 G19
 refine zz 6 ?_
 refine zt 13 (p := (k : Int) < (l.length : Int)) (fun ht20 => ?_) (fun ht20 => ?_)
 ·
  refine zz 10 ?_
  exact znext (fun a h => G19 true _ a h ⟨_, A2, (Le.refl _), by first | exact ⟨fun _ => by omega, fun _ => rfl⟩ | exact ⟨fun e => by have := of_decide_eq_true e; omega, fun e => decide_eq_true (by omega)⟩⟩)
 refine zz 6 ?_
 refine zt 19 (p := (k : Int) < (l2.length : Int)) (fun ht21 => ?_) (fun ht21 => ?_)
 ·
  refine zz 4 ?_
  exact znext (fun a h => G19 true _ a h ⟨_, A2, (Le.refl _), by first | exact ⟨fun _ => by omega, fun _ => rfl⟩ | exact ⟨fun e => by have := of_decide_eq_true e; omega, fun e => decide_eq_true (by omega)⟩⟩)
 refine zz 4 ?_
 exact znext (fun a h => G19 (decide ((c : Int) > 0)) _ a h ⟨_, A2, (Le.refl _), by first | exact ⟨fun _ => by omega, fun _ => rfl⟩ | exact ⟨fun e => by have := of_decide_eq_true e; omega, fun e => decide_eq_true (by omega)⟩⟩)
end Go.Proofs.YtoocgllbbihoaaaGreat
namespace Go.Proofs.YtoocgllbbihoaaaGreat
open Go Go.Gv Go.RowKit
set_option maxRecDepth 100000
set_option maxHeartbeats 1000000
theorem diff5_c (w : World) (X : Hid) (hX : ∀ k o, X k o → k < w.heap.size) (ad : Option Addr) (len cap : Nat) (l : List Nat) (h : Limbs (rd w X) ad len cap l) (ad2 : Option Addr) (len2 cap2 : Nat) (l2 : List Nat) (h2 : Limbs (rd w X) ad2 len2 cap2 l2) (hm : len ≤ 1000000) (hll : l2.length ≤ l.length) (hle : val l2 ≤ val l) : Calls Tryz.prog 104 #[.slice ad len cap, .slice ad2 len2 cap2] w (Ret E0 w fun w' v => NatX X w' v (val l - val l2)) := by
 obtain rfl := h.hlen
 obtain rfl := h2.hlen
 have hcap := h.hcap
 have hbig := h.hbig
 have hcap2 := h2.hcap
 have hbig2 := h2.hbig
 refine zen Tryz.func104 ?_
 have A0 : St E0 w X w X [] := St.start hX
 refine zz 22 ?_
 refine zlp Tryz.f104 [] [1, 1, 1, 0, 1, 0] (fun ((k, ad8, cap8, c) : Nat × (Option Addr) × Nat × Nat) => [(0, .slice ad l.length cap), (1, .slice ad2 l2.length cap2), (5, .slice ad8 k cap8), (6, .int .u64 (c : Int)), (7, .int .i64 (k : Int))]) (fun ((k, ad8, cap8, c) : Nat × (Option Addr) × Nat × Nat) w1 => ∃ (Y1 : Hid) (rb : List (Nat × Obj)) (ls : List Nat), St E0 w X w1 Y1 (rb) ∧ Le (rd w X) (rd w1 Y1) ∧ (TRow 124 1 rb ad8 k cap8 (U32 ls)) ∧ (ls.length = k) ∧ (∀ x ∈ ls, x < 4294967296) ∧ (val ls + val (l2.take k) = val (l.take k) + c * 4294967296 ^ k) ∧ (c ≤ 1) ∧ (k ≤ l.length)) (fun ((k, ad8, cap8, c) : Nat × (Option Addr) × Nat × Nat) => l.length - k) (0, none, 0, 0) ?_ ?_
 ·
  refine ⟨_, [], [], A0, Le.refl _, TRow.nil _ _, rfl, fun _ h => absurd h (by simp), by simp [val], by omega, Nat.zero_le _⟩
 rintro ⟨k, ad8, cap8, c⟩ w2 K2 G2 ⟨Y2, rb, ls, A2, j2, hp2_0, hp2_1, hp2_2, hp2_3, hp2_4, hp2_5⟩
 have hrw := hp2_0
 have hrl := hp2_1
 have hrt := hp2_2
 have hv := hp2_3
 have hc := hp2_4
 have hk := hp2_5
 have hlt1 := h.getD_lt k
 have hlt2 := h2.getD_lt k
 refine zz 9 ?_
 refine zt 12 (p := (k : Int) < (l.length : Int)) (fun ht3 => ?_) (fun ht3 => ?_)
 ·
  refine zz 9 ?_
  refine zc A2 (limb5_c _ X0 (X0_lt _) _ _ _ l ((h.mono j2).mono Le.x0) k) ?_
  rintro v5 w5 A5 j5 hu5 rfl
  refine zz 1 ?_
  refine zs 18 (v := .int .u64 (IntKind.u64.wrap ((4294967296 : Int) + ((l.getD k 0 : Nat) : Int)))) (v' := .int .u64 ((4294967296 : Int) + ((l.getD k 0 : Nat) : Int))) (vint (wu64 (by omega) (by omega))) ?_
  refine zz 2 ?_
  refine zc A5 (limb5_c _ X0 (X0_lt _) _ _ _ l2 ((h2.mono (Le2 j2 j5)).mono Le.x0) k) ?_
  rintro v7 w7 A7 j7 hu7 rfl
  refine zz 1 ?_
  refine zs 22 (v := .int .u64 (IntKind.u64.wrap (((4294967296 : Int) + ((l.getD k 0 : Nat) : Int)) - ((l2.getD k 0 : Nat) : Int)))) (v' := .int .u64 (((4294967296 : Int) + ((l.getD k 0 : Nat) : Int)) - ((l2.getD k 0 : Nat) : Int))) (vint (wu64 (by omega) (by omega))) ?_
  refine zz 2 ?_
  refine zs 24 (v := .int .u64 (IntKind.u64.wrap ((((4294967296 : Int) + ((l.getD k 0 : Nat) : Int)) - ((l2.getD k 0 : Nat) : Int)) - (c : Int)))) (v' := .int .u64 (((4294967296 + l.getD k 0 - l2.getD k 0 - c) : Nat) : Int)) (vint ((wu64 (by omega) (by omega)).trans (by omega))) ?_
  refine zz 8 ?_
  refine zs 27 (v := .int .u64 (Int.tmod ((((4294967296 + l.getD k 0 - l2.getD k 0 - c) : Nat) : Int)) (4294967296))) (v' := .int .u64 (((4294967296 + l.getD k 0 - l2.getD k 0 - c) % 4294967296 : Nat) : Int)) (vint (by rfl)) ?_
  refine zz 1 ?_
  refine zs 28 (v := .int .u32 (IntKind.u32.wrap ((((4294967296 + l.getD k 0 - l2.getD k 0 - c) % 4294967296 : Nat) : Int)))) (v' := .int .u32 (((4294967296 + l.getD k 0 - l2.getD k 0 - c) % 4294967296 : Nat) : Int)) (vint (wu32 (by omega) (by omega))) ?_
  refine zn (fun b => .slice (some ⟨b, 0, none⟩) 1 1) (.cells #[.int .u32 (((4294967296 + l.getD k 0 - l2.getD k 0 - c) % 4294967296 : Nat) : Int)] 124 (0, 0)) A7 ?_
  intro b9 w9 Y9 A9 j9 hu9
  refine zop (at1 [K2] Tryz.f104 [1, 1, 1, 0, 1, 0, 0, 1, 0, 0, 1, 0]) 5 (fun a10 _ C10 hz10 => op_appEZ (b := 4) (m := 1) (c := 1) (ad := ⟨b9, 0, none⟩) (news := [.int .u32 (((4294967296 + l.getD k 0 - l2.getD k 0 - c) % 4294967296 : Nat) : Int)]) (i0 := Tryz.t124) (R1 := []) 1 C10 A9 rfl hrw (A9.cells 0 rfl rfl) (by omega) (by omega) ?_)
  intro rb11 ad11 cap11 w11 Y11 hrow11 A11 j11 a12 C12
  have hrw11 : TRow 124 1 rb11 ad11 (k + 1) cap11 (U32 (ls ++ [(4294967296 + l.getD k 0 - l2.getD k 0 - c) % 4294967296])) := by rw [← U32_snoc]; exact hrow11
  refine hz10 C12 ?_
  refine zz 6 ?_
  refine zs 32 (v := .int .u64 (IntKind.u64.wrap (Int.tdiv ((((4294967296 + l.getD k 0 - l2.getD k 0 - c) : Nat) : Int)) (4294967296)))) (v' := .int .u64 (((4294967296 + l.getD k 0 - l2.getD k 0 - c) / 4294967296 : Nat) : Int)) (vint (u64_quo _ (by omega))) ?_
  refine zz 1 ?_
  refine zs 33 (v := .int .u64 (IntKind.u64.wrap ((1 : Int) - (((4294967296 + l.getD k 0 - l2.getD k 0 - c) / 4294967296 : Nat) : Int)))) (v' := .int .u64 ((1 - (4294967296 + l.getD k 0 - l2.getD k 0 - c) / 4294967296 : Nat) : Int)) (vint ((wu64 (by omega) (by omega)).trans (by omega))) ?_
  refine zz 7 ?_
  refine zw 14 (x := (k : Int) + 1) ?_
  refine zz 2 ?_
  have hc1_ := (Le4 j2 j5 j7 j9).trans j11
  refine znext (fun a h => G2 ((k + 1, ad11, cap11, (1 - (4294967296 + l.getD k 0 - l2.getD k 0 - c) / 4294967296))) _ a h ⟨_, rb11, (ls ++ [(4294967296 + l.getD k 0 - l2.getD k 0 - c) % 4294967296]), A11.tail, hc1_, hrw11, by rw [List.length_append, hrl]; rfl, snoc_lt hrt (by omega), diffstep _ _ _ _ _ hrl hlt1 hlt2 hc hv, by omega, by omega⟩ ?_)
  first | omega | (simp <;> omega)
 have hend := diff_end hrl (by omega) hrt hll hle hc hv
 refine zz 9 ?_
 obtain ⟨Y14, hSx14, j14, hL14⟩ := St.pubLimbs (A := []) (B := []) (fun rb => (rb)) A2 (fun _ => by simp only [List.append_assoc, List.cons_append, List.nil_append, List.append_nil]) hrw hrl.symm hrt
 have A14 : St E0 w X w2 Y14 [] := hSx14
 refine zc A14 (cut5_c _ _ A14.lt _ _ _ ls hL14) ?_
 rintro v15 w15 A15 j15 hu15 rfl
 refine zz 4 ?_
 refine zr' (v := .slice ad8 (trimN ls) cap8) ?_
 exact ⟨A15.upd, _, rfl, _, _, _, rfl, _, ((hL14.sub (trimN_le _ hL14.hlen)).mono (Le.trans j15 A15.le)), canon_trimmed _, by rw [show List.take (trimN ls) ls = Go.Gv.trimmed ls from rfl, val_trimmed]; exact hend⟩
theorem order5_c (w : World) (X : Hid) (hX : ∀ k o, X k o → k < w.heap.size) (ad : Option Addr) (len cap : Nat) (l : List Nat) (h : Limbs (rd w X) ad len cap l) (ad2 : Option Addr) (len2 cap2 : Nat) (l2 : List Nat) (h2 : Limbs (rd w X) ad2 len2 cap2 l2) (hm : len ≤ 1000000) (hm2 : len2 ≤ 1000000) : Calls Tryz.prog 103 #[.slice ad len cap, .slice ad2 len2 cap2] w (Ret E0 w fun _ v => v = .int .i64 (cmpI (val l) (val l2))) := by
 obtain rfl := h.hlen
 obtain rfl := h2.hlen
 have hcap := h.hcap
 have hbig := h.hbig
 have hcap2 := h2.hcap
 have hbig2 := h2.hbig
 refine zen Tryz.func103 ?_
 have A0 : St E0 w X w X [] := St.start hX
 refine zz 13 ?_
 refine zs 10 (v := .int .i64 (if (l2.length : Int) > (l.length : Int) then (l2.length : Int) else (l.length : Int))) (v' := .int .i64 ((max l.length l2.length : Nat) : Int)) (vint (by split <;> omega)) ?_
 refine zz 1 ?_
 refine zw 11 (x := ((max l.length l2.length : Nat) : Int) - 1) ?_
 refine zz 4 ?_
 refine zlp Tryz.f103 [] [1, 0, 1, 0] (fun (k : Nat) => [(0, .slice ad l.length cap), (1, .slice ad2 l2.length cap2), (5, .int .i64 ((k : Int) - 1))]) (fun (k : Nat) w1 => ∃ (Y1 : Hid), St E0 w X w1 Y1 [] ∧ Le (rd w X) (rd w1 Y1) ∧ (k ≤ max l.length l2.length) ∧ (∀ j, k ≤ j → l.getD j 0 = l2.getD j 0)) (fun (k : Nat) => k) (max l.length l2.length) ?_ ?_
 ·
  refine ⟨_, A0, Le.refl _, Nat.le_refl _, fun j hj => (getD_out (by omega)).trans (getD_out (by omega)).symm⟩
 rintro k w2 K2 G2 ⟨Y2, A2, j2, hp2_0, hp2_1⟩
 have hk := hp2_0
 have he := hp2_1
 have hlt1 := h.getD_lt (k - 1)
 have hlt2 := h2.getD_lt (k - 1)
 refine zz 7 ?_
 refine zt 13 (p := ((k : Int) - 1) ≥ 0) (fun ht3 => ?_) (fun ht3 => ?_)
 ·
  refine zz 10 ?_
  refine zs 17 (v := .int .i64 ((k : Int) - 1)) (v' := .int .i64 ((k - 1 : Nat) : Int)) (vint (by omega)) ?_
  refine zc A2 (limb5_c _ X0 (X0_lt _) _ _ _ l ((h.mono j2).mono Le.x0) (k - 1)) ?_
  rintro v5 w5 A5 j5 hu5 rfl
  refine zz 2 ?_
  refine zs 20 (v := .int .i64 ((k : Int) - 1)) (v' := .int .i64 ((k - 1 : Nat) : Int)) (vint (by omega)) ?_
  refine zc A5 (limb5_c _ X0 (X0_lt _) _ _ _ l2 ((h2.mono (Le2 j2 j5)).mono Le.x0) (k - 1)) ?_
  rintro v7 w7 A7 j7 hu7 rfl
  refine zz 3 ?_
  refine zt 22 (p := ((l.getD (k - 1) 0 : Nat) : Int) < ((l2.getD (k - 1) 0 : Nat) : Int)) (fun ht8 => ?_) (fun ht8 => ?_)
  ·
   refine zz 13 ?_
   refine zr' (v := .int .i64 (-1)) ?_
   exact ⟨A7.upd, _, rfl, vint (Eq.symm (by have h9 := ord_lt h.hlt (k := k - 1) (fun j hj => he j (by omega)) (by omega); unfold cmpI; rw [if_pos (by omega)]))⟩
  refine zz 7 ?_
  refine zs 24 (v := .int .i64 ((k : Int) - 1)) (v' := .int .i64 ((k - 1 : Nat) : Int)) (vint (by omega)) ?_
  refine zc A7 (limb5_c _ X0 (X0_lt _) _ _ _ l ((h.mono (Le3 j2 j5 j7)).mono Le.x0) (k - 1)) ?_
  rintro v10 w10 A10 j10 hu10 rfl
  refine zz 2 ?_
  refine zs 27 (v := .int .i64 ((k : Int) - 1)) (v' := .int .i64 ((k - 1 : Nat) : Int)) (vint (by omega)) ?_
  have hc1_ := (Le3 j2 j5 j7).trans j10
  refine zc A10 (limb5_c _ X0 (X0_lt _) _ _ _ l2 ((h2.mono hc1_).mono Le.x0) (k - 1)) ?_
  rintro v12 w12 A12 j12 hu12 rfl
  refine zz 3 ?_
  refine zt 29 (p := ((l.getD (k - 1) 0 : Nat) : Int) > ((l2.getD (k - 1) 0 : Nat) : Int)) (fun ht13 => ?_) (fun ht13 => ?_)
  ·
   refine zz 12 ?_
   refine zr' (v := .int .i64 1) ?_
   exact ⟨A12.upd, _, rfl, vint (Eq.symm (by have h9 := ord_lt h2.hlt (k := k - 1) (fun j hj => (he j (by omega)).symm) (by omega); unfold cmpI; rw [if_neg (by omega), if_pos (by omega)]))⟩
  refine zz 7 ?_
  refine zs 15 (v := .int .i64 (IntKind.i64.wrap (((k : Int) - 1) - 1))) (v' := .int .i64 (((k - 1 : Nat) : Int) - 1)) (vint ((wi64 (by omega) (by omega)).trans (by omega))) ?_
  refine zz 2 ?_
  have hc2_ := hc1_.trans j12
  refine znext (fun a h => G2 (k - 1) _ a h ⟨_, A12, hc2_, by omega, fun j hj => by rcases Nat.lt_or_ge j k with h9 | h9; obtain rfl : j = k - 1 := (by omega); omega; exact he j h9⟩ ?_)
  first | omega | (simp <;> omega)
 have hend := val_ext l l2 (fun j => he j (by omega))
 refine zz 12 ?_
 refine zr' (v := .int .i64 0) ?_
 exact ⟨A2.upd, _, rfl, vint (Eq.symm (by unfold cmpI; rw [hend, if_neg (Int.lt_irrefl _), if_neg (Int.lt_irrefl _)]))⟩
end Go.Proofs.YtoocgllbbihoaaaGreat
namespace Go.Proofs.YtoocgllbbihoaaaGreat
open Go Go.Gv Go.RowKit
set_option maxRecDepth 100000
set_option maxHeartbeats 1000000
theorem prod5_c (w : World) (X : Hid) (hX : ∀ k o, X k o → k < w.heap.size) (ad : Option Addr) (len cap : Nat) (l : List Nat) (h : Limbs (rd w X) ad len cap l) (ad2 : Option Addr) (len2 cap2 : Nat) (l2 : List Nat) (h2 : Limbs (rd w X) ad2 len2 cap2 l2) (hm : len ≤ 1000000) (hm2 : len2 ≤ 1000000) : Calls Tryz.prog 100 #[.slice ad len cap, .slice ad2 len2 cap2] w (Ret E0 w fun w' v => NatX X w' v (val l * val l2)) := by
 obtain rfl := h.hlen
 obtain rfl := h2.hlen
 have hcap := h.hcap
 have hbig := h.hbig
 have hcap2 := h2.hcap
 have hbig2 := h2.hbig
 refine zen Tryz.func100 ?_
 have A0 : St E0 w X w X [] := St.start hX
 refine zz 12 ?_
 refine zs 14 (v := .int .i64 (IntKind.i64.wrap ((l.length : Int) + (l2.length : Int)))) (v' := .int .i64 ((l.length + l2.length : Nat) : Int)) (vint ((wi64 (by omega) (by omega)).trans (by omega))) ?_
 refine zop (at1 [] Tryz.f100 [1, 0]) 5 (fun a2 _ C2 hz2 => op_makeZ (l := ((l.length + l2.length : Nat) : Int)) (e := 124) (z := .int .u32 0) (i0 := Tryz.t124) (l.length + l2.length) 4 C2 A0 ?_)
 intro b3 w3 Y3 A3 j3 hu3 a4 C4
 have hrow3 := URow.zeros (l.length + l2.length) (by simp only [maxLen]; omega)
 refine hz2 C4 ?_
 refine zz 10 ?_
 refine zlp Tryz.f100 [] [1, 1, 0, 1, 0] (fun (i : Nat) => [(0, .slice ad l.length cap), (1, .slice ad2 l2.length cap2), (5, .slice (some ⟨b3, 0, none⟩) (l.length + l2.length) (l.length + l2.length)), (6, .int .i64 (i : Int))]) (fun (i : Nat) w1 => ∃ (Y1 : Hid) (cur : Array Value) (ls : List Nat), St E0 w X w1 Y1 [(b3, .cells cur 124 (0, 0))] ∧ Le (rd w3 Y3) (rd w1 Y1) ∧ (URow (l.length + l2.length) (l.length + l2.length) cur ls) ∧ (val ls = val (l.take i) * val l2) ∧ (∀ j, i + l2.length ≤ j → ls.getD j 0 = 0) ∧ (i ≤ l.length)) (fun (i : Nat) => l.length - i) 0 ?_ ?_
 ·
  refine ⟨_, (List.replicate (l.length + l2.length) (Value.int .u32 0)).toArray, (List.replicate (l.length + l2.length) 0), A3, Le.refl _, hrow3, by rw [val_replicate]; simp [val], fun j _ => by simp [List.getD_eq_getElem?_getD, List.getElem?_replicate]; split <;> rfl, Nat.zero_le _⟩
 rintro i w5 K5 G5 ⟨Y5, cur, ls, A5, j5, hp5_0, hp5_1, hp5_2, hp5_3⟩
 have hrow := hp5_0
 have hv := hp5_1
 have hz := hp5_2
 have hi := hp5_3
 have hlen := hrow.len
 have hlt1 := h.getD_lt i
 refine zz 9 ?_
 refine zt 19 (p := (i : Int) < (l.length : Int)) (fun ht6 => ?_) (fun ht6 => ?_)
 ·
  obtain ⟨b1, off1, rfl, _⟩ := h.addr (by omega)
  refine zz 17 ?_
  refine zlp Tryz.f100 [K5] [1, 1, 0, 1, 0, 0, 1, 0, 0, 1, 0, 1, 0] (fun ((k, c) : Nat × Nat) => [(0, .slice (some ⟨b1, off1, none⟩) l.length cap), (1, .slice ad2 l2.length cap2), (5, .slice (some ⟨b3, 0, none⟩) (l.length + l2.length) (l.length + l2.length)), (6, .int .i64 (i : Int)), (7, .int .u64 (c : Int)), (8, .int .i64 (k : Int))]) (fun ((k, c) : Nat × Nat) w1 => ∃ (Y1 : Hid) (cur2 : Array Value) (ls2 : List Nat), St E0 w X w1 Y1 [(b3, .cells cur2 124 (0, 0))] ∧ Le (rd w5 Y5) (rd w1 Y1) ∧ (URow (l.length + l2.length) (l.length + l2.length) cur2 ls2) ∧ (val ls2 + c * 4294967296 ^ (i + k) = (val (l.take i) * val l2) + l.getD i 0 * 4294967296 ^ i * val (l2.take k)) ∧ (∀ j, i + l2.length ≤ j → ls2.getD j 0 = 0) ∧ (c < 4294967296) ∧ (k ≤ l2.length)) (fun ((k, c) : Nat × Nat) => l2.length - k) (0, 0) ?_ ?_
  ·
   refine ⟨_, cur, ls, A5, Le.refl _, hrow, by rw [hv]; simp [val], hz, by omega, Nat.zero_le _⟩
  rintro ⟨k, c⟩ w7 K7 G7 ⟨Y7, cur2, ls2, A7, j7, hp7_0, hp7_1, hp7_2, hp7_3, hp7_4⟩
  have hrow2 := hp7_0
  have hv2 := hp7_1
  have hzr2 := hp7_2
  have hc := hp7_3
  have hk := hp7_4
  have hlen2 := hrow2.len
  have hlt2 := h2.getD_lt k
  have hlt3 := hrow2.getD_lt (i + k)
  have hps := prod_lt hlt1 hlt2 hlt3 hc
  refine zz 9 ?_
  refine zt 25 (p := (k : Int) < (l2.length : Int)) (fun ht8 => ?_) (fun ht8 => ?_)
  ·
   obtain ⟨b2, off2, rfl, _⟩ := h2.addr (by omega)
   refine zz 6 ?_
   refine zdraw [0] A7 ?_
   refine gz [0, 1] ?_
   refine gi 2 (b := b1) (off := off1) (len := l.length) (cap := cap) (kd := .i64) (i := (i : Int)) 1 (off1 + i) ?_
   refine gl 3 ((h.cell (i := i) (by omega)).mono (Le3 j3 j5 j7)) ?_
   refine gz [4] ?_
   refine gset 32 (v := .int .u64 (IntKind.u64.wrap (((l.getD i 0 : Nat) : Int)))) (v' := .int .u64 ((l.getD i 0 : Nat) : Int)) (vint (wu64 (by omega) (by omega))) ?_
   refine gz [5, 6] ?_
   refine gi 7 (b := b2) (off := off2) (len := l2.length) (cap := cap2) (kd := .i64) (i := (k : Int)) 1 (off2 + k) ?_
   refine gl 8 ((h2.cell (i := k) (by omega)).mono (Le3 j3 j5 j7)) ?_
   refine gz [9] ?_
   refine gset 37 (v := .int .u64 (IntKind.u64.wrap (((l2.getD k 0 : Nat) : Int)))) (v' := .int .u64 ((l2.getD k 0 : Nat) : Int)) (vint (wu64 (by omega) (by omega))) ?_
   refine gz [10] ?_
   refine gset 38 (v := .int .u64 (IntKind.u64.wrap (((l.getD i 0 : Nat) : Int) * ((l2.getD k 0 : Nat) : Int)))) (v' := .int .u64 ((l.getD i 0 * l2.getD k 0 : Nat) : Int)) (vint (u64_mul (by omega))) ?_
   refine gz [11, 12, 13, 14] ?_
   refine gset 42 (v := .int .i64 (IntKind.i64.wrap ((i : Int) + (k : Int)))) (v' := .int .i64 ((i + k : Nat) : Int)) (vint ((wi64 (by omega) (by omega)).trans (by omega))) ?_
   refine gi 15 (b := b3) (off := 0) (len := (l.length + l2.length)) (cap := (l.length + l2.length)) (kd := .i64) (i := ((i + k : Nat) : Int)) 1 ((((i + k : Nat) : Int)).toNat) ?_
   refine gr 16 0 ((((i + k : Nat) : Int)).toNat) hrow2 (by have := hrow2.len; (try simp only [List.length_set] at *); omega) ?_
   refine gz [17] ?_
   refine gset 45 (v := .int .u64 (IntKind.u64.wrap (((ls2.getD ((((i + k : Nat) : Int)).toNat) 0 : Nat) : Int)))) (v' := .int .u64 ((ls2.getD (i + k) 0 : Nat) : Int)) (vint (wu64 (x := ((ls2.getD (i + k) 0 : Nat) : Int)) (by omega) (by omega))) ?_
   refine gz [18] ?_
   refine gset 46 (v := .int .u64 (IntKind.u64.wrap (((l.getD i 0 * l2.getD k 0 : Nat) : Int) + ((ls2.getD (i + k) 0 : Nat) : Int)))) (v' := .int .u64 ((l.getD i 0 * l2.getD k 0 + ls2.getD (i + k) 0 : Nat) : Int)) (vint (u64_add (by omega))) ?_
   refine gz [19, 20] ?_
   refine gset 48 (v := .int .u64 (IntKind.u64.wrap (((l.getD i 0 * l2.getD k 0 + ls2.getD (i + k) 0 : Nat) : Int) + (c : Int)))) (v' := .int .u64 (((l.getD i 0 * l2.getD k 0 + ls2.getD (i + k) 0 + c) : Nat) : Int)) (vint (u64_add (by omega))) ?_
   refine gz [21] ?_
   refine gend (fun w9 Y9 A9 j9 => ?_)
   refine zz 7 ?_
   refine zs 52 (v := .int .i64 (IntKind.i64.wrap ((i : Int) + (k : Int)))) (v' := .int .i64 ((i + k : Nat) : Int)) (vint ((wi64 (by omega) (by omega)).trans (by omega))) ?_
   refine zz 2 ?_
   refine zs 54 (v := .int .u64 (Int.tmod ((((l.getD i 0 * l2.getD k 0 + ls2.getD (i + k) 0 + c) : Nat) : Int)) (4294967296))) (v' := .int .u64 (((l.getD i 0 * l2.getD k 0 + ls2.getD (i + k) 0 + c) % 4294967296 : Nat) : Int)) (vint (by rfl)) ?_
   refine zz 1 ?_
   refine zs 55 (v := .int .u32 (IntKind.u32.wrap ((((l.getD i 0 * l2.getD k 0 + ls2.getD (i + k) 0 + c) % 4294967296 : Nat) : Int)))) (v' := .int .u32 (((l.getD i 0 * l2.getD k 0 + ls2.getD (i + k) 0 + c) % 4294967296 : Nat) : Int)) (vint (wu32 (by omega) (by omega))) ?_
   refine zi (b := b3) (off := 0) (len := (l.length + l2.length)) (cap := (l.length + l2.length)) (kd := .i64) (i := ((i + k : Nat) : Int)) 1 ((((i + k : Nat) : Int)).toNat) ?_
   refine zop (at1 [K5, K7] Tryz.f100 [1, 1, 0, 1, 0, 0, 1, 0, 0, 1, 0, 1, 0, 0, 1, 0, 0, 1, 0]) 8 (fun a10 _ C10 hz10 => op_storeUZ (y := ((l.getD i 0 * l2.getD k 0 + ls2.getD (i + k) 0 + c) % 4294967296)) (k := (((i + k : Nat) : Int)).toNat) (e := (((l.getD i 0 * l2.getD k 0 + ls2.getD (i + k) 0 + c) % 4294967296 : Nat) : Int)) 0 C10 A9 (by first | rfl | omega | (simp; omega)) rfl hrow2 (by have := hrow2.len; (try simp only [List.length_set] at *); omega) (by first | omega | (simp; omega)) ?_)
   intro cur11 w11 hrow11 A11 j11
   refine hz10 C10 ?_
   refine zz 5 ?_
   refine zs 58 (v := .int .u64 (IntKind.u64.wrap (Int.tdiv ((((l.getD i 0 * l2.getD k 0 + ls2.getD (i + k) 0 + c) : Nat) : Int)) (4294967296)))) (v' := .int .u64 (((l.getD i 0 * l2.getD k 0 + ls2.getD (i + k) 0 + c) / 4294967296 : Nat) : Int)) (vint (u64_quo _ (by omega))) ?_
   refine zz 7 ?_
   refine zw 27 (x := (k : Int) + 1) ?_
   refine zz 2 ?_
   refine znext (fun a h => G7 ((k + 1, (l.getD i 0 * l2.getD k 0 + ls2.getD (i + k) 0 + c) / 4294967296)) _ a h ⟨_, cur11, (ls2.set ((((i + k : Nat) : Int)).toNat) ((l.getD i 0 * l2.getD k 0 + ls2.getD (i + k) 0 + c) % 4294967296)), A11, (Le3 j7 j9 j11), hrow11, (by have h9 := prodstep _ _ _ _ (l.getD i 0) (l2.getD k 0) (by omega) hv2; rw [← Nat.add_assoc]; exact h9.trans (prod_in l2 i k _ _ _ rfl)), fun j hj => by rw [getD_set_of_ne (by omega)]; exact hzr2 j (by omega), by omega, by omega⟩ ?_)
   first | omega | (simp <;> omega)
  obtain rfl : k = l2.length := by omega
  rw [List.take_length] at hv2
  refine zz 12 ?_
  refine zs 63 (v := .int .i64 (IntKind.i64.wrap ((i : Int) + (l2.length : Int)))) (v' := .int .i64 ((i + l2.length : Nat) : Int)) (vint ((wi64 (by omega) (by omega)).trans (by omega))) ?_
  refine zz 2 ?_
  refine zs 65 (v := .int .u32 (IntKind.u32.wrap ((c : Int)))) (v' := .int .u32 ((c : Nat) : Int)) (vint (wu32 (by omega) (by omega))) ?_
  refine zi (b := b3) (off := 0) (len := (l.length + l2.length)) (cap := (l.length + l2.length)) (kd := .i64) (i := ((i + l2.length : Nat) : Int)) 1 ((((i + l2.length : Nat) : Int)).toNat) ?_
  refine zop (at1 [K5, K7] Tryz.f100 [1, 1, 0, 1, 0, 0, 1, 0, 0, 1, 1]) 8 (fun a12 _ C12 hz12 => op_storeUZ (y := c) (k := (((i + l2.length : Nat) : Int)).toNat) (e := ((c : Nat) : Int)) 0 C12 A7 (by first | rfl | omega | (simp; omega)) rfl hrow2 (by have := hrow2.len; (try simp only [List.length_set] at *); omega) (by first | omega | (simp; omega)) ?_)
  intro cur13 w13 hrow13 A13 j13
  refine hz12 C12 ?_
  refine zz 6 ?_
  refine zw 21 (x := (i : Int) + 1) ?_
  refine zz 2 ?_
  refine znext (fun a h => G5 (i + 1) _ a h ⟨_, cur13, (ls2.set ((((i + l2.length : Nat) : Int)).toNat) c), A13, (Le3 j5 j7 j13), hrow13, prod_out _ _ _ _ _ (by omega) (hzr2 _ (by omega)) hv2, fun j hj => by rw [getD_set_of_ne (by omega)]; exact hzr2 j (by omega), by omega⟩ ?_)
  first | omega | (simp <;> omega)
 have hend : val ls = val l * val l2 := by rw [hv, List.take_of_length_le (by omega)]
 refine zz 9 ?_
 refine zc A5 (cut5_c _ X0 (X0_lt _) _ _ _ ls (URow.limbs (Y := X0) hrow (A5.get 0 rfl) (fun _ h => h.elim))) ?_ (vs := #[.slice (some ⟨b3, 0, none⟩) (l.length + l2.length) (l.length + l2.length)])
 rintro v15 w15 A15 j15 hu15 rfl
 refine zz 4 ?_
 refine zr' (v := .slice (some ⟨b3, 0, none⟩) (trimN ls) (l.length + l2.length)) ?_
 exact ⟨A15.upd, _, rfl, _, _, _, rfl, _, URow.limbs (hrow.trimmed) (A15.get 0 rfl) (fun o h9 => Nat.not_lt.2 (A15.own_ge 0 rfl) (hX _ _ h9)), canon_trimmed _, by rw [val_trimmed]; exact hend⟩
end Go.Proofs.YtoocgllbbihoaaaGreat
namespace Go.Proofs.YtoocgllbbihoaaaGreat
open Go Go.Gv Go.RowKit
set_option maxRecDepth 100000
set_option maxHeartbeats 1000000
theorem from5_c (w : World) (X : Hid) (hX : ∀ k o, X k o → k < w.heap.size) (x : Nat) (hx : x < 18446744073709551616) : Calls Tryz.prog 95 #[.int .u64 (x : Int)] w (Ret E0 w fun w' v => NatX X w' v x) := by
 refine zen Tryz.func95 ?_
 have A0 : St E0 w X w X [] := St.start hX
 refine zz 9 ?_
 refine zs 4 (v := .int .u64 (Int.tmod ((x : Int)) (4294967296))) (v' := .int .u64 ((x % 4294967296 : Nat) : Int)) (vint (by rfl)) ?_
 refine zz 1 ?_
 refine zs 5 (v := .int .u32 (IntKind.u32.wrap (((x % 4294967296 : Nat) : Int)))) (v' := .int .u32 ((x % 4294967296 : Nat) : Int)) (vint (wu32 (by omega) (by omega))) ?_
 refine zz 2 ?_
 refine zs 7 (v := .int .u64 (IntKind.u64.wrap (Int.tdiv ((x : Int)) (4294967296)))) (v' := .int .u64 ((x / 4294967296 : Nat) : Int)) (vint (u64_quo _ (by omega))) ?_
 refine zz 1 ?_
 refine zs 8 (v := .int .u32 (IntKind.u32.wrap (((x / 4294967296 : Nat) : Int)))) (v' := .int .u32 ((x / 4294967296 : Nat) : Int)) (vint (wu32 (by omega) (by omega))) ?_
 refine zn (fun b => .slice (some ⟨b, 0, none⟩) 2 2) (.cells #[.int .u32 ((x % 4294967296 : Nat) : Int), .int .u32 ((x / 4294967296 : Nat) : Int)] 124 (0, 0)) A0 ?_
 intro b3 w3 Y3 A3 j3 hu3
 have hrow5 : URow 2 2 #[.int .u32 ((x % 4294967296 : Nat) : Int), .int .u32 ((x / 4294967296 : Nat) : Int)] [x % 4294967296, x / 4294967296] := URow.of [x % 4294967296, x / 4294967296] (by intro y hy; simp at hy; omega) (by simp [maxLen]) (by simp [U32]) (by simp)
 refine zc A3 (cut5_c _ X0 (X0_lt _) _ _ _ ([x % 4294967296, x / 4294967296]) (URow.limbs (Y := X0) hrow5 (A3.get 0 rfl) (fun _ h => h.elim))) ?_ (vs := #[.slice (some ⟨b3, 0, none⟩) 2 2])
 rintro v6 w6 A6 j6 hu6 rfl
 refine zz 4 ?_
 refine zr' (v := .slice (some ⟨b3, 0, none⟩) (trimN ([x % 4294967296, x / 4294967296])) 2) ?_
 exact ⟨A6.upd, _, rfl, _, _, _, rfl, _, URow.limbs (hrow5.trimmed) (A6.get 0 rfl) (fun o h9 => Nat.not_lt.2 (A6.own_ge 0 rfl) (hX _ _ h9)), canon_trimmed _, by rw [val_trimmed]; simp only [val]; omega⟩
end Go.Proofs.YtoocgllbbihoaaaGreat
namespace Go.Proofs.YtoocgllbbihoaaaGreat
open Go Go.Gv Go.RowKit
set_option maxRecDepth 100000
set_option maxHeartbeats 1000000
theorem div5_lo (w : World) (X : Hid) (hX : ∀ k o, X k o → k < w.heap.size) (ad : Option Addr) (len cap : Nat) (l : List Nat) (h : Limbs (rd w X) ad len cap l) (ad2 : Option Addr) (len2 cap2 : Nat) (l2 : List Nat) (h2 : Limbs (rd w X) ad2 len2 cap2 l2) (hm : len ≤ 100000) (hm2 : len2 ≤ 100000) (hc1 : Canon l) (hc2 : Canon l2) (hd : 0 < val l2) (hlo : l.length < l2.length) : Calls Tryz.prog 94 #[.slice ad len cap, .slice ad2 len2 cap2] w (Ret E0 w fun w' v => ∃ u u2, v = .tuple #[u, u2] ∧ NatX X w' u (val l / val l2) ∧ NatX X w' u2 (val l % val l2)) := by
 obtain rfl := h.hlen
 obtain rfl := h2.hlen
 have hcap := h.hcap
 have hbig := h.hbig
 have hcap2 := h2.hcap
 have hbig2 := h2.hbig
 have hlo2 := lo_lt h.hlt hc2 hlo
 refine zen Tryz.func94 ?_
 have A0 : St E0 w X w X [] := St.start hX
 refine zz 13 ?_
 refine zw 14 (x := (l.length : Int) - (l2.length : Int)) ?_
 refine zz 1 ?_
 refine zs 15 (v := .int .i64 (IntKind.i64.wrap (((l.length : Int) - (l2.length : Int)) + 1))) (v' := .int .i64 ((l.length : Int) - (l2.length : Int) + 1)) (vint (wi64 (by omega) (by omega))) ?_
 refine zz 10 ?_
 refine zt 17 (p := ((l.length : Int) - (l2.length : Int) + 1) ≤ 0) (fun ht2 => ?_) (fun ht2 => ?_)
 ·
  refine zz 4 ?_
  refine zop (at1 [] Tryz.f94 [1, 1, 0, 1, 0, 0]) 1 (fun a3 _ C3 hz3 => op_nilL (e := 124) (i0 := Tryz.t124) C3 A0 h (by first | omega | (simp; omega)) ?_)
  intro ad4 cap4 w4 A4 j4 hL4 a5 C5
  refine hz3 C5 ?_
  refine zz 6 ?_
  refine zr' (v := .tuple #[.slice none 0 0, .slice ad4 l.length cap4]) ?_
  exact ⟨A4.upd, _, rfl, _, _, rfl, ⟨_, _, _, rfl, [], Limbs.nil none (by omega), .inl rfl, (Nat.div_eq_of_lt hlo2).symm⟩, ⟨_, _, _, rfl, l, (hL4).mono A4.le, hc1, (Nat.mod_eq_of_lt hlo2).symm⟩⟩
 omega
theorem div5_hi (w : World) (X : Hid) (hX : ∀ k o, X k o → k < w.heap.size) (ad : Option Addr) (len cap : Nat) (l : List Nat) (h : Limbs (rd w X) ad len cap l) (ad2 : Option Addr) (len2 cap2 : Nat) (l2 : List Nat) (h2 : Limbs (rd w X) ad2 len2 cap2 l2) (hm : len ≤ 100000) (hm2 : len2 ≤ 100000) (hc1 : Canon l) (hc2 : Canon l2) (hd : 0 < val l2) (N : Nat) (hN : l.length + 1 = N + l2.length) (h0 : 0 < N) : Calls Tryz.prog 94 #[.slice ad len cap, .slice ad2 len2 cap2] w (Ret E0 w fun w' v => ∃ u u2, v = .tuple #[u, u2] ∧ NatX X w' u (val l / val l2) ∧ NatX X w' u2 (val l % val l2)) := by
 obtain rfl := h.hlen
 obtain rfl := h2.hlen
 have hcap := h.hcap
 have hbig := h.hbig
 have hcap2 := h2.hcap
 have hbig2 := h2.hbig
 have hl2 := pos_len hd
 refine zen Tryz.func94 ?_
 have A0 : St E0 w X w X [] := St.start hX
 refine zz 13 ?_
 refine zw 14 (x := (l.length : Int) - (l2.length : Int)) ?_
 refine zz 1 ?_
 refine zs 15 (v := .int .i64 (IntKind.i64.wrap (((l.length : Int) - (l2.length : Int)) + 1))) (v' := .int .i64 (N : Int)) (vint ((wi64 (by omega) (by omega)).trans (by omega))) ?_
 refine zz 10 ?_
 refine zt 17 (p := (N : Int) ≤ 0) (fun ht2 => ?_) (fun ht2 => ?_)
 ·
  omega
 refine zz 6 ?_
 refine zop (at1 [] Tryz.f94 [1, 1, 1, 0]) 1 (fun a3 _ C3 hz3 => op_makeZ (l := (N : Int)) (e := 124) (z := .int .u32 0) (i0 := Tryz.t124) N 4 C3 A0 ?_)
 intro b4 w4 Y4 A4 j4 hu4 a5 C5
 have hrow4 := URow.zeros N (by simp only [maxLen]; omega)
 refine hz3 C5 ?_
 refine zz 7 ?_
 refine zop (at1 [] Tryz.f94 [1, 1, 1, 1, 0]) 2 (fun a6 _ C6 hz6 => zF (d := 24) (v := .slice (adF ad cap N) (l.length - N) (cap - N)) C6 kr (run_sliceFrom (t := 23) (e := 124) (ad := ad) (len := l.length) (cap := cap) (k := N) (kd := .i64) (g := false) rfl kr kr kr kr (by omega) _) ?_)
 intro a7 C7
 refine hz6 C7 ?_
 refine zop (at1 [] Tryz.f94 [1, 1, 1, 1, 0]) 3 (fun a8 _ C8 hz8 => op_nilL (e := 124) (i0 := Tryz.t124) C8 A4 ((h.drop (k := N) (by omega)).mono j4) (by first | omega | (simp; omega)) ?_)
 intro ad9 cap9 w9 A9 j9 hL9 a10 C10
 refine hz8 C10 ?_
 refine zc A9 (cut5_c _ _ A9.lt _ _ _ (l.drop N) hL9) ?_
 rintro v12 w12 A12 j12 hu12 rfl
 have hT13 := ((hL9.mono j12)).sub (trimN_le _ ((hL9.mono j12)).hlen)
 refine zz 8 ?_
 refine zw 28 (x := (32 : Int) * (N : Int)) ?_
 refine zz 1 ?_
 refine zs 29 (v := .int .i64 (IntKind.i64.wrap (((32 : Int) * (N : Int)) - 1))) (v' := .int .i64 (((32 * N : Nat) : Int) - 1)) (vint ((wi64 (by omega) (by omega)).trans (by omega))) ?_
 refine zz 4 ?_
 refine zlp Tryz.f94 [] [1, 1, 1, 1, 1, 0, 1, 0] (fun ((k, adr, lenr, capr) : Nat × (Option Addr) × Nat × Nat) => [(0, .slice ad l.length cap), (1, .slice ad2 l2.length cap2), (7, .slice (some ⟨b4, 0, none⟩) N N), (8, .slice adr lenr capr), (9, .int .i64 ((k : Int) - 1))]) (fun ((k, adr, lenr, capr) : Nat × (Option Addr) × Nat × Nat) w1 => ∃ (Y1 : Hid) (curq : Array Value) (lq : List Nat) (lr : List Nat) (q : Nat), St E0 w X w1 Y1 [(b4, .cells curq 124 (0, 0))] ∧ Le (rd w12 Y4) (rd w1 Y1) ∧ (URow N N curq lq) ∧ (Limbs (rd w1 Y1) adr lenr capr lr) ∧ (Canon lr) ∧ (val lq = 2 ^ k * q) ∧ (val l / 2 ^ k = q * val l2 + val lr) ∧ (val lr < val l2) ∧ (k ≤ 32 * N)) (fun ((k, adr, lenr, capr) : Nat × (Option Addr) × Nat × Nat) => k) ((32 * N), ad9, trimN (l.drop N), cap9) ?_ ?_
 ·
  refine ⟨_, (List.replicate N (Value.int .u32 0)).toArray, (List.replicate N 0), (Go.Gv.trimmed (l.drop N)), 0, A12, Le.refl _, hrow4, hT13, canon_trimmed _, by rw [val_replicate]; simp, by rw [Nat.zero_mul, Nat.zero_add, val_trimmed]; exact val_drop l h.hlt N (by omega), by rw [val_trimmed]; exact drop_lt h.hlt hc2 hd hN, Nat.le_refl _⟩
 rintro ⟨k, adr, lenr, capr⟩ w14 K14 G14 ⟨Y14, curq, lq, lr, q, A14, j14, hp14_0, hp14_1, hp14_2, hp14_3, hp14_4, hp14_5, hp14_6⟩
 have hrowq := hp14_0
 have hr := hp14_1
 have hcanr := hp14_2
 have hvq := hp14_3
 have hdiv := hp14_4
 have hlt := hp14_5
 have hkN := hp14_6
 have hrlen := hr.hlen
 have hrl := canon_len h2.hlt hcanr (Nat.le_of_lt hlt)
 obtain rfl := hrlen
 refine zz 7 ?_
 refine zt 31 (p := ((k : Int) - 1) ≥ 0) (fun ht15 => ?_) (fun ht15 => ?_)
 ·
  obtain ⟨i, rfl⟩ : ∃ i, k = i + 1 := ⟨k - 1, by omega⟩
  obtain ⟨b1, off1, rfl, _⟩ := h.addr (by omega)
  refine zz 9 ?_
  refine zc A14 (sum5_c _ _ A14.lt _ _ _ lr hr _ _ _ lr hr (by first | omega | (simp; done) | (simp; omega)) (by first | omega | (simp; done) | (simp; omega))) ?_
  rintro v17 w17 A17 j17 hu17 ⟨ad17, len17, cap17, rfl, ls17, hL17, hcan17, hval17⟩
  have hlen17 := hL17.hlen
  have hdl17 := canon_dbl hcan17 h2.hlt hlt (by omega)
  refine zz 8 ?_
  refine zs 38 (v := .int .i64 (((i + 1 : Nat) : Int) - 1)) (v' := .int .i64 (i : Int)) (vint (by omega)) ?_
  refine zz 1 ?_
  refine zs 39 (v := .int .i64 (IntKind.i64.wrap (Int.tdiv ((i : Int)) (32)))) (v' := .int .i64 ((i / 32 : Nat) : Int)) (vint (tdiv32 _ (by omega))) ?_
  refine zi (b := b1) (off := off1) (len := l.length) (cap := cap) (kd := .i64) (i := ((i / 32 : Nat) : Int)) 1 (off1 + i / 32) ?_
  have hc1_ := (Le4 j4 j9 j12 j14).trans j17
  refine zl ((h.cell (i := i / 32) (by omega)).mono hc1_).cells ?_
  refine zz 1 ?_
  refine zs 42 (v := .int .i64 (((i + 1 : Nat) : Int) - 1)) (v' := .int .i64 (i : Int)) (vint (by omega)) ?_
  refine zz 1 ?_
  refine zs 43 (v := .int .i64 (Int.tmod ((i : Int)) (32))) (v' := .int .i64 ((i % 32 : Nat) : Int)) (vint (tmod32 _)) ?_
  refine zz 1 ?_
  refine zs 44 (v := .int .u64 (IntKind.u64.wrap (((i % 32 : Nat) : Int)))) (v' := .int .u64 ((i % 32 : Nat) : Int)) (vint (wu64 (by omega) (by omega))) ?_
  refine zop (at1 [K14] Tryz.f94 [1, 1, 1, 1, 1, 0, 1, 0, 0, 1, 0, 0, 1, 0, 0]) 8 (fun a18 _ C18 hz18 => zF (d := 45) (v := .int .u32 ((l.getD (i / 32) 0 / 2 ^ (i % 32) : Nat) : Int)) C18 kr (run_shrK rfl rfl rfl (by omega)) ?_)
  intro a19 C19
  refine hz18 C19 ?_
  refine zz 1 ?_
  refine zs 46 (v := .int .u32 (Int.tmod (((l.getD (i / 32) 0 / 2 ^ (i % 32) : Nat) : Int)) (2))) (v' := .int .u32 (((val l / 2 ^ i % 2) : Nat) : Int)) (vint (by rw [← digit_limb l h.hlt i (by omega)]; rfl)) ?_
  refine zz 3 ?_
  refine zb 47 (b := ((((val l / 2 ^ i % 2) : Nat) : Int) == 1)) (fun hc20 => ?_) (fun hc20 => ?_)
  ·
   have ht21 : (((val l / 2 ^ i % 2) : Nat) : Int) = 1 := by simpa using hc20
   have hbit : val l / 2 ^ i % 2 = 1 := Int.ofNat_inj.1 ht21
   refine zz 3 ?_
   refine zn (fun b => .slice (some ⟨b, 0, none⟩) 1 1) (.cells #[.int .u32 1] 124 (0, 0)) A17 ?_
   intro b23 w23 Y23 A23 j23 hu23
   obtain ⟨hSx25, j25, hat25⟩ := St.publish A23 (A23.own_ge 0 rfl)
   have A25 : St E0 w X w23 (show_ b23 Y23) [(b4, .cells curq 124 (0, 0))] := hSx25
   have hL25 := one_at (x := 1) hat25 (by omega)
   refine zc A25 (sum5_c _ _ A25.lt _ _ _ ls17 (hL17.mono (Le2 j23 j25)) _ _ _ ([1]) hL25 (by first | omega | (simp; done) | (simp; omega)) (by first | omega | (simp; done) | (simp; omega))) ?_
   rintro v26 w26 A26 j26 hu26 ⟨ad26, len26, cap26, rfl, ls26, hL26, hcan26, hval26⟩
   have hlen26 := hL26.hlen
   have hv126 : val [1] = 1 := rfl
   have hdl26 := canon_dbl hcan26 h2.hlt hlt (by omega)
   refine zz 7 ?_
   have hc2_ := ((hc1_.trans j23).trans j25).trans j26
   refine zc A26 (order5_c _ _ A26.lt _ _ _ ls26 hL26 _ _ _ l2 (h2.mono hc2_) (by first | omega | (simp; done) | (simp; omega)) (by first | omega | (simp; done) | (simp; omega))) ?_
   rintro v28 w28 A28 j28 hu28 rfl
   refine zz 3 ?_
   refine zt 54 (p := (cmpI (val ls26) (val l2)) ≥ 0) (fun ht29 => ?_) (fun ht29 => ?_)
   ·
    have hcmp := cmpI_ge ht29
    obtain ⟨hset1, hset2, hset3⟩ := setbit lq hrowq.lt i q (by rw [hrowq.len]; omega) hvq
    refine zz 5 ?_
    have hc3_ := hc2_.trans j28
    refine zc A28 (diff5_c _ _ A28.lt _ _ _ ls26 (hL26.mono j28) _ _ _ l2 (h2.mono hc3_) (by first | omega | (simp; done) | (simp; omega)) (canon_len ((hL26.mono j28)).hlt hc2 hcmp) (by omega)) ?_
    rintro v31 w31 A31 j31 hu31 ⟨ad31, len31, cap31, rfl, ls31, hL31, hcan31, hval31⟩
    have hlen31 := hL31.hlen
    refine zz 6 ?_
    refine zs 59 (v := .int .i64 (((i + 1 : Nat) : Int) - 1)) (v' := .int .i64 (i : Int)) (vint (by omega)) ?_
    refine zz 1 ?_
    refine zs 60 (v := .int .i64 (IntKind.i64.wrap (Int.tdiv ((i : Int)) (32)))) (v' := .int .i64 ((i / 32 : Nat) : Int)) (vint (tdiv32 _ (by omega))) ?_
    refine zz 2 ?_
    refine zs 62 (v := .int .i64 (((i + 1 : Nat) : Int) - 1)) (v' := .int .i64 (i : Int)) (vint (by omega)) ?_
    refine zz 1 ?_
    refine zs 63 (v := .int .i64 (IntKind.i64.wrap (Int.tdiv ((i : Int)) (32)))) (v' := .int .i64 ((i / 32 : Nat) : Int)) (vint (tdiv32 _ (by omega))) ?_
    refine zi (b := b4) (off := 0) (len := N) (cap := N) (kd := .i64) (i := ((i / 32 : Nat) : Int)) 1 (i / 32) ?_
    refine zl (ad := ⟨b4, i / 32, none⟩) (A31.rowCells 0 rfl hrowq (by have := hrowq.len; (try simp only [List.length_set] at *); omega)) ?_
    refine zz 1 ?_
    refine zs 66 (v := .int .i64 (((i + 1 : Nat) : Int) - 1)) (v' := .int .i64 (i : Int)) (vint (by omega)) ?_
    refine zz 1 ?_
    refine zs 67 (v := .int .i64 (Int.tmod ((i : Int)) (32))) (v' := .int .i64 ((i % 32 : Nat) : Int)) (vint (tmod32 _)) ?_
    refine zz 1 ?_
    refine zs 68 (v := .int .u64 (IntKind.u64.wrap (((i % 32 : Nat) : Int)))) (v' := .int .u64 ((i % 32 : Nat) : Int)) (vint (wu64 (by omega) (by omega))) ?_
    refine zop (at1 [K14] Tryz.f94 [1, 1, 1, 1, 1, 0, 1, 0, 0, 1, 0, 0, 1, 1, 1, 0, 1]) 11 (fun a32 _ C32 hz32 => zF (d := 69) (v := .int .u32 ((2 ^ (i % 32) : Nat) : Int)) C32 kr (run_shl1K rfl rfl rfl (by omega)) ?_)
    intro a33 C33
    refine hz32 C33 ?_
    refine zz 1 ?_
    refine zs 70 (v := .int .u32 (bor32 ((lq.getD (i / 32) 0 : Nat) : Int) ((2 ^ (i % 32) : Nat) : Int))) (v' := .int .u32 ((lq.getD (i / 32) 0 + 2 ^ (i % 32) : Nat) : Int)) (vint hset1) ?_
    refine zi (b := b4) (off := 0) (len := N) (cap := N) (kd := .i64) (i := ((i / 32 : Nat) : Int)) 1 (i / 32) ?_
    refine zop (at1 [K14] Tryz.f94 [1, 1, 1, 1, 1, 0, 1, 0, 0, 1, 0, 0, 1, 1, 1, 0, 1]) 14 (fun a34 _ C34 hz34 => op_storeUZ (y := (lq.getD (i / 32) 0 + 2 ^ (i % 32))) (k := i / 32) (e := ((lq.getD (i / 32) 0 + 2 ^ (i % 32) : Nat) : Int)) 0 C34 A31 (rfl) rfl hrowq (by have := hrowq.len; (try simp only [List.length_set] at *); omega) (hset2) ?_)
    intro cur35 w35 hrow35 A35 j35
    refine hz34 C34 ?_
    refine zz 6 ?_
    refine zs 33 (v := .int .i64 (IntKind.i64.wrap ((((i + 1 : Nat) : Int) - 1) - 1))) (v' := .int .i64 ((i : Int) - 1)) (vint ((wi64 (by omega) (by omega)).trans (by omega))) ?_
    refine zz 2 ?_
    have hc4_ := (Le7 j14 j17 j23 j25 j26 j28 j31).trans j35
    refine znext (fun a h => G14 ((i, ad31, len31, cap31)) _ a h ⟨_, cur35, (lq.set (i / 32) (lq.getD (i / 32) 0 + 2 ^ (i % 32))), ls31, (2 * q + 1), A35, hc4_, hrow35, (hL31.mono j35), hcan31, by rw [hset3, hvq, Nat.pow_succ, Nat.mul_add, Nat.mul_one]; congr 1; ac_rfl, divA hdiv (by rw [hbit]; omega) (by rw [hbit]; omega), by omega, by omega⟩ ?_)
    first | omega | (simp <;> omega)
   have hcmp := cmpI_nge ht29
   refine zz 7 ?_
   refine zs 33 (v := .int .i64 (IntKind.i64.wrap ((((i + 1 : Nat) : Int) - 1) - 1))) (v' := .int .i64 ((i : Int) - 1)) (vint ((wi64 (by omega) (by omega)).trans (by omega))) ?_
   refine zz 2 ?_
   have hc5_ := (Le5 j14 j17 j23 j25 j26).trans j28
   refine znext (fun a h => G14 ((i, ad26, len26, cap26)) _ a h ⟨_, curq, lq, ls26, (2 * q), A28, hc5_, hrowq, (hL26.mono j28), hcan26, by rw [hvq, Nat.pow_succ]; ac_rfl, divB hdiv (by rw [hbit]; omega), by omega, by omega⟩ ?_)
   first | omega | (simp <;> omega)
  have ht36 : (((val l / 2 ^ i % 2) : Nat) : Int) ≠ 1 := by simpa using hc20
  have hbit : val l / 2 ^ i % 2 = 0 := (Nat.mod_two_eq_zero_or_one _).resolve_right (fun e => ht36 (congrArg (fun x : Nat => (x : Int)) e))
  refine zz 7 ?_
  refine zc A17 (order5_c _ _ A17.lt _ _ _ ls17 hL17 _ _ _ l2 (h2.mono hc1_) (by first | omega | (simp; done) | (simp; omega)) (by first | omega | (simp; done) | (simp; omega))) ?_
  rintro v38 w38 A38 j38 hu38 rfl
  refine zz 3 ?_
  refine zt 54 (p := (cmpI (val ls17) (val l2)) ≥ 0) (fun ht39 => ?_) (fun ht39 => ?_)
  ·
   have hcmp := cmpI_ge ht39
   obtain ⟨hset1, hset2, hset3⟩ := setbit lq hrowq.lt i q (by rw [hrowq.len]; omega) hvq
   refine zz 5 ?_
   have hc6_ := hc1_.trans j38
   refine zc A38 (diff5_c _ _ A38.lt _ _ _ ls17 (hL17.mono j38) _ _ _ l2 (h2.mono hc6_) (by first | omega | (simp; done) | (simp; omega)) (canon_len ((hL17.mono j38)).hlt hc2 hcmp) (by omega)) ?_
   rintro v41 w41 A41 j41 hu41 ⟨ad41, len41, cap41, rfl, ls41, hL41, hcan41, hval41⟩
   have hlen41 := hL41.hlen
   refine zz 6 ?_
   refine zs 59 (v := .int .i64 (((i + 1 : Nat) : Int) - 1)) (v' := .int .i64 (i : Int)) (vint (by omega)) ?_
   refine zz 1 ?_
   refine zs 60 (v := .int .i64 (IntKind.i64.wrap (Int.tdiv ((i : Int)) (32)))) (v' := .int .i64 ((i / 32 : Nat) : Int)) (vint (tdiv32 _ (by omega))) ?_
   refine zz 2 ?_
   refine zs 62 (v := .int .i64 (((i + 1 : Nat) : Int) - 1)) (v' := .int .i64 (i : Int)) (vint (by omega)) ?_
   refine zz 1 ?_
   refine zs 63 (v := .int .i64 (IntKind.i64.wrap (Int.tdiv ((i : Int)) (32)))) (v' := .int .i64 ((i / 32 : Nat) : Int)) (vint (tdiv32 _ (by omega))) ?_
   refine zi (b := b4) (off := 0) (len := N) (cap := N) (kd := .i64) (i := ((i / 32 : Nat) : Int)) 1 (i / 32) ?_
   refine zl (ad := ⟨b4, i / 32, none⟩) (A41.rowCells 0 rfl hrowq (by have := hrowq.len; (try simp only [List.length_set] at *); omega)) ?_
   refine zz 1 ?_
   refine zs 66 (v := .int .i64 (((i + 1 : Nat) : Int) - 1)) (v' := .int .i64 (i : Int)) (vint (by omega)) ?_
   refine zz 1 ?_
   refine zs 67 (v := .int .i64 (Int.tmod ((i : Int)) (32))) (v' := .int .i64 ((i % 32 : Nat) : Int)) (vint (tmod32 _)) ?_
   refine zz 1 ?_
   refine zs 68 (v := .int .u64 (IntKind.u64.wrap (((i % 32 : Nat) : Int)))) (v' := .int .u64 ((i % 32 : Nat) : Int)) (vint (wu64 (by omega) (by omega))) ?_
   refine zop (at1 [K14] Tryz.f94 [1, 1, 1, 1, 1, 0, 1, 0, 0, 1, 0, 0, 1, 1, 1, 0, 1]) 11 (fun a42 _ C42 hz42 => zF (d := 69) (v := .int .u32 ((2 ^ (i % 32) : Nat) : Int)) C42 kr (run_shl1K rfl rfl rfl (by omega)) ?_)
   intro a43 C43
   refine hz42 C43 ?_
   refine zz 1 ?_
   refine zs 70 (v := .int .u32 (bor32 ((lq.getD (i / 32) 0 : Nat) : Int) ((2 ^ (i % 32) : Nat) : Int))) (v' := .int .u32 ((lq.getD (i / 32) 0 + 2 ^ (i % 32) : Nat) : Int)) (vint hset1) ?_
   refine zi (b := b4) (off := 0) (len := N) (cap := N) (kd := .i64) (i := ((i / 32 : Nat) : Int)) 1 (i / 32) ?_
   refine zop (at1 [K14] Tryz.f94 [1, 1, 1, 1, 1, 0, 1, 0, 0, 1, 0, 0, 1, 1, 1, 0, 1]) 14 (fun a44 _ C44 hz44 => op_storeUZ (y := (lq.getD (i / 32) 0 + 2 ^ (i % 32))) (k := i / 32) (e := ((lq.getD (i / 32) 0 + 2 ^ (i % 32) : Nat) : Int)) 0 C44 A41 (rfl) rfl hrowq (by have := hrowq.len; (try simp only [List.length_set] at *); omega) (hset2) ?_)
   intro cur45 w45 hrow45 A45 j45
   refine hz44 C44 ?_
   refine zz 6 ?_
   refine zs 33 (v := .int .i64 (IntKind.i64.wrap ((((i + 1 : Nat) : Int) - 1) - 1))) (v' := .int .i64 ((i : Int) - 1)) (vint ((wi64 (by omega) (by omega)).trans (by omega))) ?_
   refine zz 2 ?_
   have hc7_ := (Le4 j14 j17 j38 j41).trans j45
   refine znext (fun a h => G14 ((i, ad41, len41, cap41)) _ a h ⟨_, cur45, (lq.set (i / 32) (lq.getD (i / 32) 0 + 2 ^ (i % 32))), ls41, (2 * q + 1), A45, hc7_, hrow45, (hL41.mono j45), hcan41, by rw [hset3, hvq, Nat.pow_succ, Nat.mul_add, Nat.mul_one]; congr 1; ac_rfl, divA hdiv (by rw [hbit]; omega) (by rw [hbit]; omega), by omega, by omega⟩ ?_)
   first | omega | (simp <;> omega)
  have hcmp := cmpI_nge ht39
  refine zz 7 ?_
  refine zs 33 (v := .int .i64 (IntKind.i64.wrap ((((i + 1 : Nat) : Int) - 1) - 1))) (v' := .int .i64 ((i : Int) - 1)) (vint ((wi64 (by omega) (by omega)).trans (by omega))) ?_
  refine zz 2 ?_
  refine znext (fun a h => G14 ((i, ad17, len17, cap17)) _ a h ⟨_, curq, lq, ls17, (2 * q), A38, (Le3 j14 j17 j38), hrowq, (hL17.mono j38), hcan17, by rw [hvq, Nat.pow_succ]; ac_rfl, divB hdiv (by rw [hbit]; omega), by omega, by omega⟩ ?_)
  first | omega | (simp <;> omega)
 obtain rfl : k = 0 := by omega
 obtain ⟨he1, he2⟩ := divEnd hdiv hlt hvq
 refine zz 9 ?_
 refine zc A14 (cut5_c _ X0 (X0_lt _) _ _ _ lq (URow.limbs (Y := X0) hrowq (A14.get 0 rfl) (fun _ h => h.elim))) ?_ (vs := #[.slice (some ⟨b4, 0, none⟩) N N])
 rintro v47 w47 A47 j47 hu47 rfl
 refine zz 6 ?_
 refine zr' (v := .tuple #[.slice (some ⟨b4, 0, none⟩) (trimN lq) N, .slice adr lr.length capr]) ?_
 exact ⟨A47.upd, _, rfl, _, _, rfl, ⟨_, _, _, rfl, _, URow.limbs (hrowq.trimmed) (A47.get 0 rfl) (fun o h9 => Nat.not_lt.2 (A47.own_ge 0 rfl) (hX _ _ h9)), canon_trimmed _, by rw [val_trimmed]; exact he1⟩, ⟨_, _, _, rfl, lr, ((hr.mono j47)).mono A47.le, hcanr, he2⟩⟩
end Go.Proofs.YtoocgllbbihoaaaGreat
namespace Go.Proofs.YtoocgllbbihoaaaGreat
open Go Go.Gv Go.RowKit
set_option maxRecDepth 100000
set_option maxHeartbeats 1000000
theorem div5_c (w : World) (X : Hid) (hX : ∀ k o, X k o → k < w.heap.size) (ad : Option Addr) (len cap : Nat) (l : List Nat) (h : Limbs (rd w X) ad len cap l) (ad2 : Option Addr) (len2 cap2 : Nat) (l2 : List Nat) (h2 : Limbs (rd w X) ad2 len2 cap2 l2) (hm : len ≤ 100000) (hm2 : len2 ≤ 100000) (hc1 : Canon l) (hc2 : Canon l2) (hd : 0 < val l2)  : Calls Tryz.prog 94 #[.slice ad len cap, .slice ad2 len2 cap2] w (Ret E0 w fun w' v => ∃ u u2, v = .tuple #[u, u2] ∧ NatX X w' u (val l / val l2) ∧ NatX X w' u2 (val l % val l2)) := by
  rcases Nat.lt_or_ge l.length l2.length with h9 | h9
  · exact div5_lo w X hX ad len cap l h ad2 len2 cap2 l2 h2 hm hm2 hc1 hc2 hd h9
  · exact div5_hi w X hX ad len cap l h ad2 len2 cap2 l2 h2 hm hm2 hc1 hc2 hd (l.length + 1 - l2.length) (by omega) (by omega)
theorem canon_mod {x lr l2 : List Nat} (hc : Canon lr) (h2 : ∀ y ∈ l2, y < 4294967296) (h0 : 0 < val l2) (h : val lr = val x % val l2) : lr.length ≤ l2.length := canon_len h2 hc (by rw [h]; exact Nat.le_of_lt (Nat.mod_lt _ h0))
theorem canon_pos {l : List Nat} (hc : Canon l) (h : 0 < l.length) : 0 < val l := by
  have := canon_len0 hc
  omega
theorem gcd5_c (w : World) (X : Hid) (hX : ∀ k o, X k o → k < w.heap.size) (ad : Option Addr) (len cap : Nat) (l : List Nat) (h : Limbs (rd w X) ad len cap l) (ad2 : Option Addr) (len2 cap2 : Nat) (l2 : List Nat) (h2 : Limbs (rd w X) ad2 len2 cap2 l2) (hm : len ≤ 100000) (hm2 : len2 ≤ 100000) (hc1 : Canon l) (hc2 : Canon l2) : Calls Tryz.prog 84 #[.slice ad len cap, .slice ad2 len2 cap2] w (Ret E0 w fun w' v => NatX X w' v (Nat.gcd (val l) (val l2))) := by
 obtain rfl := h.hlen
 obtain rfl := h2.hlen
 have hcap := h.hcap
 have hbig := h.hbig
 have hcap2 := h2.hcap
 have hbig2 := h2.hbig
 refine zen Tryz.func84 ?_
 have A0 : St E0 w X w X [] := St.start hX
 refine zz 7 ?_
 refine zlp Tryz.f84 [] [1, 0, 0] (fun ((lb, ad8, la, cap8, ad9, cap9) : List Nat × (Option Addr) × (List Nat) × Nat × (Option Addr) × Nat) => [(0, .slice ad8 la.length cap8), (1, .slice ad9 lb.length cap9)]) (fun ((lb, ad8, la, cap8, ad9, cap9) : List Nat × (Option Addr) × (List Nat) × Nat × (Option Addr) × Nat) w1 => ∃ (Y1 : Hid), St E0 w X w1 Y1 [] ∧ Le (rd w X) (rd w1 Y1) ∧ (Limbs (rd w1 Y1) ad8 la.length cap8 la) ∧ (Limbs (rd w1 Y1) ad9 lb.length cap9 lb) ∧ (Canon la) ∧ (Canon lb) ∧ (la.length ≤ 100000) ∧ (lb.length ≤ 100000) ∧ (Nat.gcd (val la) (val lb) = Nat.gcd (val l) (val l2))) (fun ((lb, ad8, la, cap8, ad9, cap9) : List Nat × (Option Addr) × (List Nat) × Nat × (Option Addr) × Nat) => val lb) (l2, ad, l, cap, ad2, cap2) ?_ ?_
 ·
  refine ⟨_, A0, Le.refl _, h, h2, hc1, hc2, hm, hm2, rfl⟩
 rintro ⟨lb, ad8, la, cap8, ad9, cap9⟩ w2 K2 G2 ⟨Y2, A2, j2, hp2_0, hp2_1, hp2_2, hp2_3, hp2_4, hp2_5, hp2_6⟩
 have ha := hp2_0
 have hb := hp2_1
 have hca := hp2_2
 have hcb := hp2_3
 have hla := hp2_4
 have hlb := hp2_5
 have hg := hp2_6
 refine zz 8 ?_
 refine zt 9 (p := (lb.length : Int) > 0) (fun ht3 => ?_) (fun ht3 => ?_)
 ·
  have hpos := canon_pos hcb (by omega)
  refine zz 8 ?_
  refine zc A2 (div5_c _ _ A2.lt _ _ _ la ha _ _ _ lb hb (by first | omega | (simp; done) | (simp; omega)) (by first | omega | (simp; done) | (simp; omega)) hca hcb hpos) ?_
  rintro v5 w5 A5 j5 hu5 ⟨_, _, rfl, ⟨ad5, len5, cap5, rfl, ls5, hL5, hcan5, hval5⟩, ⟨ae5, le5, ce5, rfl, lr5, hM5, hcam5, hvam5⟩⟩
  obtain rfl := hL5.hlen
  obtain rfl := hM5.hlen
  refine zz 14 ?_
  have hmod := canon_mod hcam5 hb.hlt hpos hvam5
  have hml := Nat.mod_lt (val la) hpos
  refine znext (fun a h => G2 ((lr5, ad9, lb, cap9, ae5, ce5)) _ a h ⟨_, A5, (Le2 j2 j5), (hb.mono j5), hM5, hcb, hcam5, hlb, by omega, by rw [hvam5, ← hg]; exact (Nat.gcd_comm _ _).trans ((Nat.gcd_rec (val lb) (val la)).symm.trans (Nat.gcd_comm _ _))⟩ ?_)
  first | omega | (simp <;> omega)
 have hz : val lb = 0 := by rw [List.eq_nil_of_length_eq_zero (l := lb) (by omega)]; rfl
 rw [hz, Nat.gcd_zero_right] at hg
 refine zz 9 ?_
 refine zop (at1 [K2] Tryz.f84 [1, 1, 0]) 1 (fun a6 _ C6 hz6 => op_nilL (e := 124) (i0 := Tryz.t124) C6 A2 ha (by first | omega | (simp; omega)) ?_)
 intro ad7 cap7 w7 A7 j7 hL7 a8 C8
 refine hz6 C8 ?_
 refine zz 4 ?_
 refine zr' (v := .slice ad7 la.length cap7) ?_
 exact ⟨A7.upd, _, rfl, _, _, _, rfl, _, (hL7).mono A7.le, hca, hg⟩
end Go.Proofs.YtoocgllbbihoaaaGreat
namespace Go.Proofs.YtoocgllbbihoaaaGreat
open Go Go.Gv Go.RowKit
set_option maxRecDepth 100000
set_option maxHeartbeats 1000000
theorem one6_c (w : World) (X : Hid) (hX : ∀ k o, X k o → k < w.heap.size) : Calls Tryz.prog 63 #[] w (Ret E0 w fun w' v => ∃ ad cap, v = .slice ad 1 cap ∧ Limbs (rd w' X) ad 1 cap [1]) := by
 refine zen Tryz.func63 ?_
 have A0 : St E0 w X w X [] := St.start hX
 refine zz 7 ?_
 refine zn (fun b => .slice (some ⟨b, 0, none⟩) 1 1) (.cells #[.int .u32 1] 124 (0, 0)) A0 ?_
 intro b3 w3 Y3 A3 j3 hu3
 refine zz 4 ?_
 refine zr' (v := .slice (some ⟨b3, 0, none⟩) 1 1) ?_
 have hrow4 : URow 1 1 #[.int .u32 1] [1] := URow.of [1] (by simp) (by simp [maxLen]) (by simp [U32]) (by simp)
 exact ⟨A3.upd, _, rfl, _, _, rfl, URow.limbs hrow4 (A3.get 0 rfl) (fun o h9 => Nat.not_lt.2 (A3.own_ge 0 rfl) (hX _ _ h9))⟩
theorem canon_one : Canon [1] := .inr (by decide)
/-- The limbs of a denominator. -/
def denL (l : List Nat) : List Nat := if l.length = 0 then [1] else l
theorem denL_pos {l : List Nat} (h : ¬ (l.length : Int) = 0) : denL l = l := if_neg (by omega)
theorem denL_nil {l : List Nat} (h : (l.length : Int) = 0) : denL l = [1] := if_pos (by omega)
theorem denL_canon {l : List Nat} (h : Canon l) : Canon (denL l) := by unfold denL; split; exact canon_one; exact h
theorem denL_le {l : List Nat} {k : Nat} (h : l.length ≤ k) (h0 : 0 < k) : (denL l).length ≤ k := by unfold denL; split; exact h0; exact h
theorem denL_val (a : Raw) (h : Canon a.ld) : val (denL a.ld) = a.d := by
  have h1 := canon_len0 h
  unfold denL Raw.d
  by_cases h2 : a.ld.length = 0
  · rw [if_pos h2, if_pos (h1.1 h2)]; rfl
  · rw [if_neg h2, if_neg (fun e => h2 (h1.2 e))]
theorem den6_c (w : World) (X : Hid) (hX : ∀ k o, X k o → k < w.heap.size) (a : Raw) (ad : Option Addr) (len cap : Nat) (h : Limbs (rd w X) ad len cap a.ln) (ad2 : Option Addr) (len2 cap2 : Nat) (h2 : Limbs (rd w X) ad2 len2 cap2 a.ld) : Calls Tryz.prog 101 #[.agg #[.bool a.neg, .slice ad len cap, .slice ad2 len2 cap2]] w (Ret E0 w fun w' v => ∃ ad len cap, v = .slice ad len cap ∧ Limbs (rd w' X) ad len cap (denL a.ld)) := by
 obtain rfl := h.hlen
 obtain rfl := h2.hlen
 have hcap := h.hcap
 have hbig := h.hbig
 have hcap2 := h2.hcap
 have hbig2 := h2.hbig
 refine zen Tryz.func101 ?_
 have A0 : St E0 w X w X [] := St.start hX
 refine zz 2 ?_
 refine zn pn (.cells #[.bool a.neg, .slice ad a.ln.length cap, .slice ad2 a.ld.length cap2] 25 (0, 0)) A0 ?_
 intro b3 w3 Y3 A3 j3 hu3
 refine zz 7 ?_
 refine zo 0 A3 ?_
 refine zz 4 ?_
 refine zb 6 (b := ((a.ld.length : Int) == 0)) (fun hc4 => ?_) (fun hc4 => ?_)
 ·
  have ht5 : (a.ld.length : Int) = 0 := by simpa using hc4
  refine zz 3 ?_
  refine zc A3 (one6_c _ _ A3.lt) ?_
  rintro v7 w7 A7 j7 hu7 ⟨ad7, cap7, rfl, hL7⟩
  refine zz 5 ?_
  refine zr' (v := .slice ad7 1 cap7) ?_
  exact ⟨A7.upd, _, rfl, _, _, _, rfl, by rw [denL_nil ht5]; exact (hL7).mono A7.le⟩
 have ht8 : (a.ld.length : Int) ≠ 0 := by simpa using hc4
 refine zz 6 ?_
 refine zo 0 A3 ?_
 refine zz 4 ?_
 refine zr' (v := .slice ad2 a.ld.length cap2) ?_
 exact ⟨A3.upd, _, rfl, _, _, _, rfl, by rw [denL_pos ht8]; exact ((h2.mono j3)).mono A3.le⟩
end Go.Proofs.YtoocgllbbihoaaaGreat
namespace Go.Proofs.YtoocgllbbihoaaaGreat
open Go Go.Gv Go.RowKit
set_option maxRecDepth 100000
set_option maxHeartbeats 1000000
theorem one_iff {l : List Nat} (hl : ∀ x ∈ l, x < 4294967296) (hc : Canon l) : l = [1] ↔ val l = 1 :=
  ⟨fun h => by rw [h]; rfl, fun h => canon_inj hl (by intro x hx; simp at hx; omega) hc canon_one (h.trans rfl)⟩
theorem mk6_c (w : World) (X : Hid) (hX : ∀ k o, X k o → k < w.heap.size) (ad : Option Addr) (len cap : Nat) (l : List Nat) (h : Limbs (rd w X) ad len cap l) (ad2 : Option Addr) (len2 cap2 : Nat) (l2 : List Nat) (h2 : Limbs (rd w X) ad2 len2 cap2 l2) (sg : Bool) (hm : len ≤ 100000) (hm2 : len2 ≤ 100000) (hc1 : Canon l) (hc2 : Canon l2) (hd : 0 < val l2) : Calls Tryz.prog 61 #[.bool sg, .slice ad len cap, .slice ad2 len2 cap2] w (Ret E0 w fun w' v => RatX X w' v (mkRat (sgn sg (val l)) (val l2))) := by
 obtain rfl := h.hlen
 obtain rfl := h2.hlen
 have hcap := h.hcap
 have hbig := h.hbig
 have hcap2 := h2.hcap
 have hbig2 := h2.hbig
 refine zen Tryz.func61 ?_
 have A0 : St E0 w X w X [] := St.start hX
 refine zz 2 ?_
 refine zn pn (.cells #[.bool false, .slice none 0 0, .slice none 0 0] 25 (0, 0)) A0 ?_
 intro b3 w3 Y3 A3 j3 hu3
 refine zz 10 ?_
 refine zb 10 (b := ((l.length : Int) == 0)) (fun hc4 => ?_) (fun hc4 => ?_)
 ·
  have ht5 : (l.length : Int) = 0 := by simpa using hc4
  refine zz 4 ?_
  refine zx 0 #[.bool false, .slice none 0 0, .slice none 0 0] A3 ?_
  intro w6 A6 j6
  refine zz 4 ?_
  refine zrS [.cell 6 25] (v := .agg #[.bool false, .slice none 0 0, .slice none 0 0]) (Res.cM A6 0 Res.nil) ?_
  exact ⟨A6.upd, _, rfl, by rw [(canon_len0 hc1).1 (by omega)]; exact zero_rat _⟩
 have ht7 : (l.length : Int) ≠ 0 := by simpa using hc4
 refine zz 7 ?_
 refine zc A3 (gcd5_c _ _ A3.lt _ _ _ l (h.mono j3) _ _ _ l2 (h2.mono j3) (by first | omega | (simp; done) | (simp; omega)) (by first | omega | (simp; done) | (simp; omega)) hc1 hc2) ?_
 rintro v9 w9 A9 j9 hu9 ⟨ad9, len9, cap9, rfl, ls9, hL9, hcan9, hval9⟩
 obtain rfl := hL9.hlen
 have hgp : 0 < val ls9 := by rw [hval9]; exact Nat.gcd_pos_of_pos_right _ hd
 have hgl := canon_len h2.hlt hcan9 (by rw [hval9]; exact Nat.gcd_le_right _ hd)
 refine zz 7 ?_
 refine zc A9 (div5_c _ _ A9.lt _ _ _ l (h.mono (Le2 j3 j9)) _ _ _ ls9 hL9 (by first | omega | (simp; done) | (simp; omega)) (by first | omega | (simp; done) | (simp; omega)) hc1 hcan9 hgp) ?_
 rintro v11 w11 A11 j11 hu11 ⟨_, _, rfl, ⟨ad11, len11, cap11, rfl, ls11, hL11, hcan11, hval11⟩, ⟨ae11, le11, ce11, rfl, lr11, hM11, hcam11, hvam11⟩⟩
 obtain rfl := hL11.hlen
 obtain rfl := hM11.hlen
 have hql11 := canon_pow hcan11 (k := 100000) (Nat.lt_of_le_of_lt (hval11 ▸ Nat.div_le_self _ _) ((canon_le_iff h.hlt hc1 100000).1 (by omega)))
 refine zz 10 ?_
 refine zc A11 (div5_c _ _ A11.lt _ _ _ l2 (h2.mono (Le3 j3 j9 j11)) _ _ _ ls9 (hL9.mono j11) (by first | omega | (simp; done) | (simp; omega)) (by first | omega | (simp; done) | (simp; omega)) hc2 hcan9 hgp) ?_
 rintro v13 w13 A13 j13 hu13 ⟨_, _, rfl, ⟨ad13, len13, cap13, rfl, ls13, hL13, hcan13, hval13⟩, ⟨ae13, le13, ce13, rfl, lr13, hM13, hcam13, hvam13⟩⟩
 obtain rfl := hL13.hlen
 obtain rfl := hM13.hlen
 have hql13 := canon_pow hcan13 (k := 100000) (Nat.lt_of_le_of_lt (hval13 ▸ Nat.div_le_self _ _) ((canon_le_iff h2.hlt hc2 100000).1 (by omega)))
 refine zz 10 ?_
 refine zc A13 (one6_c _ _ A13.lt) ?_
 rintro v15 w15 A15 j15 hu15 ⟨ad15, cap15, rfl, hL15⟩
 refine zc A15 (EqualNat_c _ _ A15.lt _ _ _ _ (hL13.mono j15) _ _ _ _ hL15) ?_
 rintro v17 w17 A17 j17 hu17 rfl
 refine zz 2 ?_
 refine zb 29 (b := (decide (ls13 = [1]))) (fun hc18 => ?_) (fun hc18 => ?_)
 ·
  have ht19 : ls13 = [1] := of_decide_eq_true hc18
  refine zz 11 ?_
  refine zx 0 #[.bool sg, .slice ad11 ls11.length cap11, .slice none 0 0] A17 ?_
  intro w20 A20 j20
  refine zz 3 ?_
  refine zrS [.cell 6 25] (v := .agg #[.bool sg, .slice ad11 ls11.length cap11, .slice none 0 0]) (Res.cM A20 0 Res.nil) ?_
  have hn0 : val l ≠ 0 := fun e => ht7 (by have := (canon_len0 hc1).2 e; omega)
  have hc1_ := (Le3 j13 j15 j17).trans j20
  exact ⟨A20.upd, _, rfl, low_rat hn0 hd ⟨ls11, ((hL11.mono hc1_)).mono A20.le, hcan11, by rw [← hval9]; exact hval11⟩ (by rw [← hval9, ← hval13, (one_iff hL13.hlt hcan13).1 (by simpa using ht19)]; exact NatR.nil none (by omega))⟩
 have ht21 : ¬ (ls13 = [1]) := of_decide_eq_false hc18
 refine zz 9 ?_
 refine zx 0 #[.bool sg, .slice ad11 ls11.length cap11, .slice ad13 ls13.length cap13] A17 ?_
 intro w22 A22 j22
 refine zz 3 ?_
 refine zrS [.cell 6 25] (v := .agg #[.bool sg, .slice ad11 ls11.length cap11, .slice ad13 ls13.length cap13]) (Res.cM A22 0 Res.nil) ?_
 have hn0 : val l ≠ 0 := fun e => ht7 (by have := (canon_len0 hc1).2 e; omega)
 have hc2_ := (Le3 j13 j15 j17).trans j22
 exact ⟨A22.upd, _, rfl, low_rat hn0 hd ⟨ls11, ((hL11.mono hc2_)).mono A22.le, hcan11, by rw [← hval9]; exact hval11⟩ (by rw [← hval9, ← hval13, den1, if_neg (fun e => by have := (one_iff hL13.hlt hcan13).2 e; simp [this] at ht21)]; exact ⟨ls13, ((hL13.mono (Le3 j15 j17 j22))).mono A22.le, hcan13, rfl⟩)⟩
end Go.Proofs.YtoocgllbbihoaaaGreat

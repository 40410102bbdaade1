/- Parts of the proof: R10. By an AI agent. -/
import Derived.Test.YtoocgllbbihoaaaGreatBaseA
import Derived.Test.YtoocgllbbihoaaaGreatBaseB
import Derived.Test.YtoocgllbbihoaaaGreatBaseC
import Derived.Test.YtoocgllbbihoaaaGreatBaseD
set_option linter.unusedVariables false
set_option linter.unusedSimpArgs false
set_option linter.unnecessarySimpa false
namespace Go.Proofs.YtoocgllbbihoaaaGreat
open Go Go.Gv Go.RowKit
set_option maxRecDepth 100000
set_option maxHeartbeats 1000000
theorem rcheck6_c (w : World) (X : Hid) (hX : ∀ k o, X k o → k < w.heap.size) (a : Raw) (ad : Option Addr) (len cap : Nat) (h : Limbs (rd w X) ad len cap a.ln) (ad2 : Option Addr) (len2 cap2 : Nat) (h2 : Limbs (rd w X) ad2 len2 cap2 a.ld) : Calls Tryz.prog 51 #[.agg #[.bool a.neg, .slice ad len cap, .slice ad2 len2 cap2]] w (Ret E0 w fun _ v => v = .int .i64 a.chk) := by
 obtain rfl := h.hlen
 obtain rfl := h2.hlen
 have hcap := h.hcap
 have hbig := h.hbig
 have hcap2 := h2.hcap
 have hbig2 := h2.hbig
 refine zen Tryz.func51 ?_
 have A0 : St E0 w X w X [] := St.start hX
 refine zz 2 ?_
 refine zn pn (.cells #[.bool a.neg, .slice ad a.ln.length cap, .slice ad2 a.ld.length cap2] 25 (0, 0)) A0 ?_
 intro b3 w3 Y3 A3 j3 hu3
 refine zz 7 ?_
 refine zo 0 A3 ?_
 refine zz 3 ?_
 refine zt 7 (p := (a.ln.length : Int) > 128) (fun ht4 => ?_) (fun ht4 => ?_)
 ·
  refine zz 15 ?_
  refine zr' (v := .int .i64 4) ?_
  exact ⟨A3.upd, _, rfl, vint (chk_4 (by omega)).symm⟩
 refine zz 1 ?_
 refine zo 0 A3 ?_
 refine zz 5 ?_
 refine zt 12 (p := (a.ld.length : Int) > 128) (fun ht5 => ?_) (fun ht5 => ?_)
 ·
  refine zz 8 ?_
  refine zr' (v := .int .i64 4) ?_
  exact ⟨A3.upd, _, rfl, vint (chk_4 (by omega)).symm⟩
 have hlong : ¬ (128 < a.ln.length ∨ 128 < a.ld.length) := by omega
 refine zz 7 ?_
 refine zo 0 A3 ?_
 refine zc A3 (check5_c _ X0 (X0_lt _) _ _ _ a.ln ((h.mono j3).mono Le.x0)) ?_
 rintro v7 w7 A7 j7 hu7 rfl
 refine zz 2 ?_
 refine zb 17 (b := ((chkN a.ln) != 0)) (fun hc8 => ?_) (fun hc8 => ?_)
 ·
  have ht9 : (chkN a.ln) ≠ 0 := by simpa using hc8
  refine zz 15 ?_
  refine zr' (v := .int .i64 2) ?_
  exact ⟨A7.upd, _, rfl, vint (chk_2 hlong (.inl (by simpa using ht9))).symm⟩
 have ht10 : (chkN a.ln) = 0 := by simpa using hc8
 have cn : chkN a.ln = 0 := by simpa using ht10
 have hcn := (chkN_ok cn).2
 have hzn := canon_len0 hcn
 refine zz 1 ?_
 refine zo 0 A7 ?_
 refine zc A7 (check5_c _ X0 (X0_lt _) _ _ _ a.ld ((h2.mono (Le2 j3 j7)).mono Le.x0)) ?_
 rintro v12 w12 A12 j12 hu12 rfl
 refine zz 4 ?_
 refine zb 22 (b := ((chkN a.ld) != 0)) (fun hc13 => ?_) (fun hc13 => ?_)
 ·
  have ht14 : (chkN a.ld) ≠ 0 := by simpa using hc13
  refine zz 8 ?_
  refine zr' (v := .int .i64 2) ?_
  exact ⟨A12.upd, _, rfl, vint (chk_2 hlong (.inr (.inl (by simpa using ht14)))).symm⟩
 have ht15 : (chkN a.ld) = 0 := by simpa using hc13
 have cd : chkN a.ld = 0 := by simpa using ht15
 have hcd := (chkN_ok cd).2
 have hzd := canon_len0 hcd
 refine zz 5 ?_
 refine zdr A12 ?_
 refine gz [0] ?_
 refine gw 1 0 ?_
 refine gz [2, 3, 4] ?_
 refine gb 27 (b := ((a.ln.length : Int) == 0)) (fun hc16 => ?_) (fun hc16 => ?_)
 ·
  have ht17 : (a.ln.length : Int) = 0 := by simpa using hc16
  refine gz [5] ?_
  refine gw 6 0 ?_
  refine gz [7] ?_
  refine gb 30 (b := a.neg) (fun hc18 => ?_) (fun hc18 => ?_)
  ·
   have ht19 : a.neg = true := by simpa using hc18
   have un : a.neg = true := by simpa using ht19
   refine gz [8, 9, 10, 11, 12, 13, 14, 15, 16, 17, 18, 19] ?_
   refine gend (fun w20 Y20 A20 j20 => ?_)
   refine zz 9 ?_
   refine zr' (v := .int .i64 2) ?_
   exact ⟨A20.upd, _, rfl, vint (chk_2 hlong (.inr (.inr (.inr ⟨by omega, .inl un⟩)))).symm⟩
  have ht21 : a.neg = false := by simpa using hc18
  have un : a.neg = false := by simpa using ht21
  refine gz [8] ?_
  refine gw 9 0 ?_
  refine gz [10, 11, 12, 13, 14] ?_
  refine gt 37 (p := (a.ld.length : Int) > 0) (fun ht22 => ?_) (fun ht22 => ?_)
  ·
   refine gz [15, 16, 17, 18, 19] ?_
   refine gend (fun w23 Y23 A23 j23 => ?_)
   refine zz 9 ?_
   refine zr' (v := .int .i64 2) ?_
   exact ⟨A23.upd, _, rfl, vint (chk_2 hlong (.inr (.inr (.inr ⟨by omega, .inr (by omega)⟩)))).symm⟩
  refine gz [15] ?_
  refine gw 16 0 ?_
  refine gC 17 (fun w24 Y24 _ A24 j24 => (one6_c _ _ A24.lt)) ?_
  rintro v25 w24 Y25 w25 A24 j25 ⟨ad25, cap25, rfl, hL25⟩
  have hc1_ := (Le3 j3 j7 j12).trans j25
  refine gC 18 (fun w26 Y26 _ A26 j26 => (EqualNat_c _ _ A26.lt _ _ _ _ (h2.mono (hc1_.trans j26)) _ _ _ _ (hL25.mono j26))) ?_
  rintro v27 w26 Y27 w27 A26 j27 rfl
  refine gz [19] ?_
  refine gend (fun w28 Y28 A28 j28 => ?_)
  refine zz 1 ?_
  refine zb 42 (b := (decide (a.ld = [1]))) (fun hc29 => ?_) (fun hc29 => ?_)
  ·
   have ht30 : a.ld = [1] := of_decide_eq_true hc29
   have u1 : val a.ld = 1 := (one_iff h2.hlt hcd).1 (by simpa using ht30)
   refine zz 8 ?_
   refine zr' (v := .int .i64 2) ?_
   exact ⟨A28.upd, _, rfl, vint (chk_2 hlong (.inr (.inr (.inl u1)))).symm⟩
  have ht31 : ¬ (a.ld = [1]) := of_decide_eq_false hc29
  have u1 : val a.ld ≠ 1 := fun e => absurd ((one_iff h2.hlt hcd).2 e) (by simpa using ht31)
  have hok : ¬ (chkN a.ln ≠ 0 ∨ chkN a.ld ≠ 0 ∨ val a.ld = 1 ∨ (val a.ln = 0 ∧ (a.neg = true ∨ 0 < val a.ld))) := by rintro (e | e | e | ⟨e, e2 | e2⟩); exact e cn; exact e cd; exact u1 e; (first | omega | (rw [un] at e2; cases e2)); omega
  refine zz 7 ?_
  refine zo 0 A28 ?_
  refine zz 3 ?_
  refine zt 47 (p := (a.ld.length : Int) > 0) (fun ht32 => ?_) (fun ht32 => ?_)
  ·
   have hdp : 0 < val a.ld := by omega
   refine zz 1 ?_
   refine zo 0 A28 ?_
   refine zz 1 ?_
   refine zo 0 A28 ?_
   have hc2_ := (hc1_.trans j27).trans j28
   refine zc A28 (gcd5_c _ _ A28.lt _ _ _ a.ln (h.mono hc2_) _ _ _ a.ld (h2.mono hc2_) (by first | omega | (simp; done) | (simp; omega)) (by first | omega | (simp; done) | (simp; omega)) hcn hcd) ?_
   rintro v34 w34 A34 j34 hu34 ⟨ad34, len34, cap34, rfl, ls34, hL34, hcan34, hval34⟩
   obtain rfl := hL34.hlen
   refine zc A34 (one6_c _ _ A34.lt) ?_
   rintro v36 w36 A36 j36 hu36 ⟨ad36, cap36, rfl, hL36⟩
   refine zc A36 (EqualNat_c _ _ A36.lt _ _ _ _ (hL34.mono j36) _ _ _ _ hL36) ?_
   rintro v38 w38 A38 j38 hu38 rfl
   refine zz 4 ?_
   refine zb 56 (b := !(decide (ls34 = [1]))) (fun hc39 => ?_) (fun hc39 => ?_)
   ·
    have ht40 : ¬ (ls34 = [1]) := by simpa using hc39
    have ug : Nat.gcd (val a.ln) (val a.ld) ≠ 1 := by rw [← hval34]; exact fun e => absurd ((one_iff hL34.hlt hcan34).2 e) (by simpa using ht40)
    refine zz 8 ?_
    refine zr' (v := .int .i64 2) ?_
    exact ⟨A38.upd, _, rfl, vint (chk_g hlong hok ⟨by omega, ug⟩).symm⟩
   have ht41 : ls34 = [1] := by simpa using hc39
   have ug : Nat.gcd (val a.ln) (val a.ld) = 1 := by rw [← hval34]; exact (one_iff hL34.hlt hcan34).1 (by simpa using ht41)
   refine zz 9 ?_
   refine zr' (v := .int .i64 0) ?_
   exact ⟨A38.upd, _, rfl, vint (chk_0 hlong hok (fun hh => hh.2 ug)).symm⟩
  refine zz 20 ?_
  refine zr' (v := .int .i64 0) ?_
  exact ⟨A28.upd, _, rfl, vint (chk_0 hlong hok (fun hh => by omega)).symm⟩
 have ht42 : (a.ln.length : Int) ≠ 0 := by simpa using hc16
 refine gz [5, 6, 7, 8, 9, 10, 11, 12, 13, 14, 15] ?_
 refine gw 16 0 ?_
 refine gC 17 (fun w43 Y43 _ A43 j43 => (one6_c _ _ A43.lt)) ?_
 rintro v44 w43 Y44 w44 A43 j44 ⟨ad44, cap44, rfl, hL44⟩
 have hc3_ := (Le3 j3 j7 j12).trans j44
 refine gC 18 (fun w45 Y45 _ A45 j45 => (EqualNat_c _ _ A45.lt _ _ _ _ (h2.mono (hc3_.trans j45)) _ _ _ _ (hL44.mono j45))) ?_
 rintro v46 w45 Y46 w46 A45 j46 rfl
 refine gz [19] ?_
 refine gend (fun w47 Y47 A47 j47 => ?_)
 refine zz 1 ?_
 refine zb 42 (b := (decide (a.ld = [1]))) (fun hc48 => ?_) (fun hc48 => ?_)
 ·
  have ht49 : a.ld = [1] := of_decide_eq_true hc48
  have u1 : val a.ld = 1 := (one_iff h2.hlt hcd).1 (by simpa using ht49)
  refine zz 8 ?_
  refine zr' (v := .int .i64 2) ?_
  exact ⟨A47.upd, _, rfl, vint (chk_2 hlong (.inr (.inr (.inl u1)))).symm⟩
 have ht50 : ¬ (a.ld = [1]) := of_decide_eq_false hc48
 have u1 : val a.ld ≠ 1 := fun e => absurd ((one_iff h2.hlt hcd).2 e) (by simpa using ht50)
 have hok : ¬ (chkN a.ln ≠ 0 ∨ chkN a.ld ≠ 0 ∨ val a.ld = 1 ∨ (val a.ln = 0 ∧ (a.neg = true ∨ 0 < val a.ld))) := by rintro (e | e | e | ⟨e, e2 | e2⟩); exact e cn; exact e cd; exact u1 e; (first | omega | (rw [un] at e2; cases e2)); omega
 refine zz 7 ?_
 refine zo 0 A47 ?_
 refine zz 3 ?_
 refine zt 47 (p := (a.ld.length : Int) > 0) (fun ht51 => ?_) (fun ht51 => ?_)
 ·
  have hdp : 0 < val a.ld := by omega
  refine zz 1 ?_
  refine zo 0 A47 ?_
  refine zz 1 ?_
  refine zo 0 A47 ?_
  have hc4_ := (hc3_.trans j46).trans j47
  refine zc A47 (gcd5_c _ _ A47.lt _ _ _ a.ln (h.mono hc4_) _ _ _ a.ld (h2.mono hc4_) (by first | omega | (simp; done) | (simp; omega)) (by first | omega | (simp; done) | (simp; omega)) hcn hcd) ?_
  rintro v53 w53 A53 j53 hu53 ⟨ad53, len53, cap53, rfl, ls53, hL53, hcan53, hval53⟩
  obtain rfl := hL53.hlen
  refine zc A53 (one6_c _ _ A53.lt) ?_
  rintro v55 w55 A55 j55 hu55 ⟨ad55, cap55, rfl, hL55⟩
  refine zc A55 (EqualNat_c _ _ A55.lt _ _ _ _ (hL53.mono j55) _ _ _ _ hL55) ?_
  rintro v57 w57 A57 j57 hu57 rfl
  refine zz 4 ?_
  refine zb 56 (b := !(decide (ls53 = [1]))) (fun hc58 => ?_) (fun hc58 => ?_)
  ·
   have ht59 : ¬ (ls53 = [1]) := by simpa using hc58
   have ug : Nat.gcd (val a.ln) (val a.ld) ≠ 1 := by rw [← hval53]; exact fun e => absurd ((one_iff hL53.hlt hcan53).2 e) (by simpa using ht59)
   refine zz 8 ?_
   refine zr' (v := .int .i64 2) ?_
   exact ⟨A57.upd, _, rfl, vint (chk_g hlong hok ⟨by omega, ug⟩).symm⟩
  have ht60 : ls53 = [1] := by simpa using hc58
  have ug : Nat.gcd (val a.ln) (val a.ld) = 1 := by rw [← hval53]; exact (one_iff hL53.hlt hcan53).1 (by simpa using ht60)
  refine zz 9 ?_
  refine zr' (v := .int .i64 0) ?_
  exact ⟨A57.upd, _, rfl, vint (chk_0 hlong hok (fun hh => hh.2 ug)).symm⟩
 refine zz 20 ?_
 refine zr' (v := .int .i64 0) ?_
 exact ⟨A47.upd, _, rfl, vint (chk_0 hlong hok (fun hh => by omega)).symm⟩
end Go.Proofs.YtoocgllbbihoaaaGreat

/- For every process, list, policy and numbers the law MdpMatches answers true, and each argument reads afterwards as before. Conditions: none. By an AI agent. -/
import Derived.ProofKit
import Derived.SizedLaws
import Derived.Test.YtoocgllbbihoaaaGreatRows
import Derived.Test.YtoocgllbbihoaaaGreatBaseA
import Derived.Test.YtoocgllbbihoaaaGreatBaseB
import Derived.Test.YtoocgllbbihoaaaGreatBaseC
import Derived.Test.YtoocgllbbihoaaaGreatBaseD
import Derived.Test.YtoocgllbbihoaaaGreatBaseE
import Derived.Test.YtoocgllbbihoaaaGreatBaseF
import Derived.Test.YtoocgllbbihoaaaGreatBaseG
set_option linter.unusedVariables false
set_option linter.unusedSimpArgs false
set_option linter.unnecessarySimpa false
namespace Go.Proofs.YtoocgllbbihoaaaGreat
open Go Go.Gv Go.RowKit
set_option maxRecDepth 100000
set_option maxHeartbeats 1000000
theorem matches_c (w : World) (X : Hid) (hX : ∀ k o, X k o → k < w.heap.size) (m : Mdp) (ad : Option Addr) (len cap : Nat) (h : Limbs (rd w X) ad len cap m.disc.ln) (ae : Option Addr) (le ce : Nat) (h2 : Limbs (rd w X) ae le ce m.disc.ld) (st : Option Addr) (ls cs : Nat) (hst : StatesR (rd w X) st ls cs m.states) (v : List Raw) (av : Option Addr) (lv cv : Nat) (hv : Rats (rd w X) av lv cv v) (p : List Int) (ap : Option Addr) (lp cp : Nat) (hp : Ints (rd w X) ap lp cp p) (i j : Int) (hsm : m.sh) : Calls Tryz.prog 3 #[.agg #[.bool m.disc.neg, .slice ad len cap, .slice ae le ce, .slice st ls cs], .slice av lv cv, .slice ap lp cp, .int .i64 i, .int .i64 j] w (Ret E0 w fun _ u => u = .bool true) := by
 obtain rfl := hv.hlen
 have hcapv := hv.hcap
 have hbigv := hv.hbig
 obtain rfl := hst.hlen
 have hcaps := hst.hcap
 have hbigs := hst.hbig
 obtain rfl := hp.hlen
 have hcapp := hp.hcap
 have hbigp := hp.hbig
 refine zen Tryz.func3 ?_
 have A0 : St E0 w X w X [] := St.start hX
 refine zz 2 ?_
 refine zn pn (.cells #[.bool m.disc.neg, .slice ad len cap, .slice ae le ce, .slice st m.states.length cs] 28 (0, 0)) A0 ?_
 intro b3 w3 Y3 A3 j3 hu3
 refine zz 6 ?_
 refine zo 0 A3 ?_
 refine zc A3 (Long_c _ _ A3.lt m _ _ _ (h.mono j3) _ _ _ (h2.mono j3) _ _ _ (hst.mono j3)) ?_
 rintro v5 w5 A5 j5 hu5 ⟨bb5, rfl⟩
 refine zz 1 ?_
 refine zb 31 (b := bb5) (fun hc6 => ?_) (fun hc6 => ?_)
 ·
  have ht7 : bb5 = true := by simpa using hc6
  refine zz 13 ?_
  refine zc A5 (awake_c _ _ A5.lt) ?_
  rintro v9 w9 A9 j9 hu9 rfl
  refine zz 5 ?_
  refine zr' (v := .bool true) ?_
  exact ⟨A9.upd, _, rfl, rfl⟩
 have ht10 : bb5 = false := by simpa using hc6
 refine zz 1 ?_
 refine zc A5 (LongList_c _ _ A5.lt _ _ _ v (hv.mono (Le2 j3 j5))) ?_
 rintro v12 w12 A12 j12 hu12 ⟨bb12, rfl, hbb12⟩
 refine zz 2 ?_
 refine zb 35 (b := bb12) (fun hc13 => ?_) (fun hc13 => ?_)
 ·
  have ht14 : bb12 = true := by simpa using hc13
  refine zz 9 ?_
  refine zc A12 (awake_c _ _ A12.lt) ?_
  rintro v16 w16 A16 j16 hu16 rfl
  refine zz 5 ?_
  refine zr' (v := .bool true) ?_
  exact ⟨A16.upd, _, rfl, rfl⟩
 have ht17 : bb12 = false := by simpa using hc13
 obtain ⟨hv20, hv200⟩ := hbb12 ht17
 have hvs : ∀ x ∈ v, x.sh := fun x hx => by have := hv200 x hx; exact ⟨by omega, by omega⟩
 refine zz 6 ?_
 refine zt 39 (p := (p.length : Int) > 20) (fun ht18 => ?_) (fun ht18 => ?_)
 ·
  refine zz 3 ?_
  refine zc A12 (awake_c _ _ A12.lt) ?_
  rintro v20 w20 A20 j20 hu20 rfl
  refine zz 5 ?_
  refine zr' (v := .bool true) ?_
  exact ⟨A20.upd, _, rfl, rfl⟩
 refine zz 5 ?_
 refine zo 0 A12 ?_
 refine zc A12 (CopyMDP_c _ _ A12.lt m _ _ _ (h.mono (Le3 j3 j5 j12)) _ _ _ (h2.mono (Le3 j3 j5 j12)) _ _ _ (hst.mono (Le3 j3 j5 j12)) hsm) ?_
 rintro v22 w22 A22 j22 hu22 ⟨ad22, len22, cap22, ae22, le22, ce22, af22, lf22, cf22, rfl, hN22, hD22, hO22⟩
 refine zz 1 ?_
 have hc1_ := (Le3 j3 j5 j12).trans j22
 refine zc A22 (CopyRats_c _ _ A22.lt _ _ _ v (hv.mono hc1_) (by omega) hvs) ?_
 rintro v24 w24 A24 j24 hu24 ⟨ad24, len24, cap24, rfl, hN24⟩
 have hlc24 := hN24.hlen
 refine zz 1 ?_
 have hc2_ := hc1_.trans j24
 refine zc A24 (CopyInts_c _ _ A24.lt _ _ _ p (hp.mono hc2_) (by omega)) ?_
 rintro v26 w26 A26 j26 hu26 ⟨ad26, len26, cap26, rfl, hN26⟩
 have hlc26 := hN26.hlen
 refine zn pn (.cells #[.bool false, .slice none 0 0, .slice none 0 0, .slice none 0 0] 28 (0, 0)) A26 ?_
 intro b28 w28 Y28 A28 j28 hu28
 refine zx 0 #[.bool m.disc.neg, .slice ad22 len22 cap22, .slice ae22 le22 ce22, .slice af22 lf22 cf22] A28 ?_
 intro w29 A29 j29
 refine zz 6 ?_
 refine zo 1 A29 ?_
 refine zz 3 ?_
 have hc3_ := ((hc2_.trans j26).trans j28).trans j29
 refine zc A29 (Score21_c _ _ A29.lt m _ _ _ (h.mono hc3_) _ _ _ (h2.mono hc3_) _ _ _ (hst.mono hc3_) v _ _ _ (hv.mono hc3_) (by omega) i j) ?_
 rintro v31 w31 A31 j31 hu31 ⟨u31, rfl, ⟨ad31, len31, cap31, ae31, le31, ce31, rfl, hN31, hD31⟩⟩
 refine zz 3 ?_
 refine zn pn (.cells #[.bool false, .slice none 0 0, .slice none 0 0] 25 (0, 0)) A31 ?_
 intro b33 w33 Y33 A33 j33 hu33
 refine zx 0 #[.bool ((m.scoreAt v i j).1.neg), .slice ad31 len31 cap31, .slice ae31 le31 ce31] A33 ?_
 intro w34 A34 j34
 refine zz 5 ?_
 refine zo 2 A34 ?_
 refine zz 1 ?_
 have hc4_ := ((hc3_.trans j31).trans j33).trans j34
 refine zc A34 (Backup21_c _ _ A34.lt m _ _ _ (h.mono hc4_) _ _ _ (h2.mono hc4_) _ _ _ (hst.mono hc4_) v _ _ _ (hv.mono hc4_) (by omega)) ?_
 rintro v36 w36 A36 j36 hu36 ⟨ad36, len36, cap36, ae36, le36, ce36, rfl, hR36, hI36⟩
 refine zz 11 ?_
 refine zo 2 A36 ?_
 refine zz 2 ?_
 have hc5_ := hc4_.trans j36
 refine zc A36 (Under21_c _ _ A36.lt m _ _ _ (h.mono hc5_) _ _ _ (h2.mono hc5_) _ _ _ (hst.mono hc5_) v _ _ _ (hv.mono hc5_) (by omega) p _ _ _ (hp.mono hc5_) (by omega)) ?_
 rintro v38 w38 A38 j38 hu38 ⟨ad38, len38, cap38, rfl, hR38⟩
 refine zz 14 ?_
 refine zlp Tryz.f3 [] [1, 1, 1, 1, 1, 1, 0, 1, 0] (fun (k : Nat) => [(1, .slice av v.length cv), (2, .slice ap p.length cp), (3, .int .i64 i), (4, .int .i64 j), (5, .pointer (some ⟨b3, 0, none⟩)), (11, .pointer (some ⟨b28, 0, none⟩)), (12, .slice ad24 len24 cap24), (13, .slice ad26 len26 cap26), (14, .pointer (some ⟨b33, 0, none⟩)), (15, .int .i64 ((m.scoreAt v i j).2)), (16, .slice ad36 len36 cap36), (17, .slice ae36 le36 ce36), (18, .int .i64 ((m.backV v).2.2)), (19, .slice ad38 len38 cap38), (20, .int .i64 ((m.underV p v).2)), (21, .int .i64 (k : Int))]) (fun (k : Nat) w1 => ∃ (Y1 : Hid), St E0 w X w1 Y1 [(b33, .cells #[.bool ((m.scoreAt v i j).1.neg), .slice ad31 len31 cap31, .slice ae31 le31 ce31] 25 (0, 0)), (b28, .cells #[.bool m.disc.neg, .slice ad22 len22 cap22, .slice ae22 le22 ce22, .slice af22 lf22 cf22] 28 (0, 0)), (b3, .cells #[.bool m.disc.neg, .slice ad len cap, .slice ae le ce, .slice st m.states.length cs] 28 (0, 0))] ∧ Le (rd w38 Y33) (rd w1 Y1) ∧ (k ≤ 2)) (fun (k : Nat) => 2 - k) 0 ?_ ?_
 ·
  refine ⟨_, A38, Le.refl _, Nat.zero_le _⟩
 rintro k w39 K39 G39 ⟨Y39, A39, j39, hp39_0⟩
 refine zz 7 ?_
 refine zt 70 (p := (k : Int) < 2) (fun ht40 => ?_) (fun ht40 => ?_)
 ·
  refine zz 7 ?_
  refine zo 1 A39 ?_
  refine zz 3 ?_
  have hc6_ := (Le9 j24 j26 j28 j29 j31 j33 j34 j36 j38).trans j39
  have hc7_ := (Le8 j26 j28 j29 j31 j33 j34 j36 j38).trans j39
  refine zc A39 (Score_c _ _ A39.lt m _ _ _ (hN22.mono hc6_) _ _ _ (hD22.mono hc6_) _ _ _ (hO22.mono hc6_) v _ _ _ (hN24.mono hc7_) (by omega) i j) ?_
  rintro v42 w42 A42 j42 hu42 ⟨u42, rfl, ⟨ad42, len42, cap42, ae42, le42, ce42, rfl, hN42, hD42⟩⟩
  refine zz 3 ?_
  refine znS pn (.cells #[.bool false, .slice none 0 0, .slice none 0 0] 25 (0, 0)) A42 ?_
  intro b44 w44 Y44 A44 j44 hu44 hb44
  have hNb : w39.heap.size ≤ b44 := Nat.le_trans hu42.size hb44
  refine zx 0 #[.bool ((m.scoreAt v i j).1.neg), .slice ad42 len42 cap42, .slice ae42 le42 ce42] A44 ?_
  intro w45 A45 j45
  refine zz 5 ?_
  refine zo 2 A45 ?_
  refine zz 1 ?_
  have hc8_ := ((hc6_.trans j42).trans j44).trans j45
  have hc9_ := ((hc7_.trans j42).trans j44).trans j45
  refine zc A45 (Backup_c _ _ A45.lt m _ _ _ (hN22.mono hc8_) _ _ _ (hD22.mono hc8_) _ _ _ (hO22.mono hc8_) v _ _ _ (hN24.mono hc9_) (by omega)) ?_
  rintro v47 w47 A47 j47 hu47 ⟨ad47, len47, cap47, ae47, le47, ce47, rfl, hR47, hI47⟩
  refine zz 11 ?_
  refine zo 2 A47 ?_
  refine zz 2 ?_
  have hc10_ := hc8_.trans j47
  have hc11_ := hc9_.trans j47
  have hc12_ := (Le11 j28 j29 j31 j33 j34 j36 j38 j39 j42 j44 j45).trans j47
  refine zc A47 (Under_c _ _ A47.lt m _ _ _ (hN22.mono hc10_) _ _ _ (hD22.mono hc10_) _ _ _ (hO22.mono hc10_) v _ _ _ (hN24.mono hc11_) (by omega) p _ _ _ (hN26.mono hc12_) (by omega)) ?_
  rintro v49 w49 A49 j49 hu49 ⟨ad49, len49, cap49, rfl, hR49⟩
  refine zz 9 ?_
  refine zdr A49 ?_
  refine gw 0 2 ?_
  refine gw 2 3 ?_
  have hc13_ := hc10_.trans j49
  refine gC 1 (fun w50 Y50 _ A50 j50 => (mCheck_c _ _ A50.lt m _ _ _ (hN22.mono (hc13_.trans j50)) _ _ _ (hD22.mono (hc13_.trans j50)) _ _ _ (hO22.mono (hc13_.trans j50)))) ?_
  rintro v51 w50 Y51 w51 A50 j51 rfl
  have hc14_ := (((((((hc5_.trans j38).trans j39).trans j42).trans j44).trans j45).trans j47).trans j49).trans j51
  refine gC 3 (fun w52 Y52 _ A52 j52 => (mCheck6_c _ _ A52.lt m _ _ _ (h.mono (hc14_.trans j52)) _ _ _ (h2.mono (hc14_.trans j52)) _ _ _ (hst.mono (hc14_.trans j52)))) ?_
  rintro v53 w52 Y53 w53 A52 j53 rfl
  refine gz [4] ?_
  refine gset 99 (v := .bool ((m.chk) != m.chk)) (v' := .bool false) (zK (by simp)) ?_
  refine gz [5, 6, 7, 8] ?_
  refine gset 103 (v := .bool (((m.scoreAt v i j).2) != ((m.scoreAt v i j).2))) (v' := .bool false) (zK (by simp)) ?_
  refine gz [9, 10, 11, 12, 13] ?_
  refine gset 108 (v := .bool (((m.backV v).2.2) != ((m.backV v).2.2))) (v' := .bool false) (zK (by simp)) ?_
  refine gz [14, 15, 16, 17, 18] ?_
  refine gset 113 (v := .bool (((m.underV p v).2) != ((m.underV p v).2))) (v' := .bool false) (zK (by simp)) ?_
  refine gz [19, 20] ?_
  refine gw 21 0 ?_
  refine gw 22 1 ?_
  have hc15_ := (Le5 j44 j45 j47 j49 j51).trans j53
  have hc16_ := (Le11 j33 j34 j36 j38 j39 j42 j44 j45 j47 j49 j51).trans j53
  refine gC 23 (fun w54 Y54 _ A54 j54 => (EqualRat_t _ _ A54.lt (m.scoreAt v i j).1 _ _ _ ((hN42.mono (Le.new A39.lt)).mono (hc15_.trans j54)) _ _ _ ((hD42.mono (Le.new A39.lt)).mono (hc15_.trans j54)) _ _ _ (hN31.mono (hc16_.trans j54)) _ _ _ (hD31.mono (hc16_.trans j54)))) ?_
  rintro v55 w54 Y55 w55 A54 j55 rfl
  refine gz [24] ?_
  refine gset 119 (v := .bool false) (v' := .bool false) (zK (by simp)) ?_
  refine gz [25, 26, 27, 28] ?_
  have hc17_ := (Le3 j49 j51 j53).trans j55
  have hc18_ := (Le9 j38 j39 j42 j44 j45 j47 j49 j51 j53).trans j55
  refine gC 29 (fun w56 Y56 _ A56 j56 => (EqualRats_t _ _ A56.lt _ _ _ ((m.backV v).1) ((hR47.mono (Le.new A45.lt)).mono (hc17_.trans j56)) _ _ _ (hR36.mono (hc18_.trans j56)))) ?_
  rintro v57 w56 Y57 w57 A56 j57 rfl
  refine gz [30] ?_
  refine gset 125 (v := .bool false) (v' := .bool false) (zK (by simp)) ?_
  refine gz [31, 32, 33, 34] ?_
  have hc19_ := hc17_.trans j57
  have hc20_ := hc18_.trans j57
  refine gC 35 (fun w58 Y58 _ A58 j58 => (EqualInts_t _ _ A58.lt _ _ _ ((m.backV v).2.1) ((hI47.mono (Le.new A45.lt)).mono (hc19_.trans j58)) _ _ _ (hI36.mono (hc20_.trans j58)))) ?_
  rintro v59 w58 Y59 w59 A58 j59 rfl
  refine gz [36] ?_
  refine gset 131 (v := .bool false) (v' := .bool false) (zK (by simp)) ?_
  refine gz [37, 38, 39, 40] ?_
  have hc21_ := (Le4 j51 j53 j55 j57).trans j59
  have hc22_ := (Le10 j39 j42 j44 j45 j47 j49 j51 j53 j55 j57).trans j59
  refine gC 41 (fun w60 Y60 _ A60 j60 => (EqualRats_t _ _ A60.lt _ _ _ ((m.underV p v).1) ((hR49.mono (Le.new A47.lt)).mono (hc21_.trans j60)) _ _ _ (hR38.mono (hc22_.trans j60)))) ?_
  rintro v61 w60 Y61 w61 A60 j61 rfl
  refine gz [42] ?_
  refine gset 137 (v := .bool false) (v' := .bool false) (zK (by simp)) ?_
  refine gz [43, 44] ?_
  refine gw 45 2 ?_
  refine gw 46 3 ?_
  have hc23_ := (((((hc13_.trans j51).trans j53).trans j55).trans j57).trans j59).trans j61
  have hc24_ := ((((hc14_.trans j53).trans j55).trans j57).trans j59).trans j61
  refine gC 47 (fun w62 Y62 _ A62 j62 => (EqualMDP_t _ _ A62.lt m _ _ _ (hN22.mono (hc23_.trans j62)) _ _ _ (hD22.mono (hc23_.trans j62)) _ _ _ (hO22.mono (hc23_.trans j62)) _ _ _ (h.mono (hc24_.trans j62)) _ _ _ (h2.mono (hc24_.trans j62)) _ _ _ (hst.mono (hc24_.trans j62)))) ?_
  rintro v63 w62 Y63 w63 A62 j63 rfl
  refine gz [48] ?_
  refine gset 143 (v := .bool false) (v' := .bool false) (zK (by simp)) ?_
  refine gz [49, 50, 51, 52] ?_
  have hc25_ := (((((((hc11_.trans j49).trans j51).trans j53).trans j55).trans j57).trans j59).trans j61).trans j63
  have hc26_ := hc24_.trans j63
  refine gC 53 (fun w64 Y64 _ A64 j64 => (EqualRats_t _ _ A64.lt _ _ _ v (hN24.mono (hc25_.trans j64)) _ _ _ (hv.mono (hc26_.trans j64)))) ?_
  rintro v65 w64 Y65 w65 A64 j65 rfl
  refine gz [54] ?_
  refine gset 149 (v := .bool false) (v' := .bool false) (zK (by simp)) ?_
  refine gz [55, 56, 57, 58] ?_
  have hc27_ := ((((((((hc12_.trans j49).trans j51).trans j53).trans j55).trans j57).trans j59).trans j61).trans j63).trans j65
  have hc28_ := hc26_.trans j65
  refine gC 59 (fun w66 Y66 _ A66 j66 => (EqualInts_t _ _ A66.lt _ _ _ p (hN26.mono (hc27_.trans j66)) _ _ _ (hp.mono (hc28_.trans j66)))) ?_
  rintro v67 w66 Y67 w67 A66 j67 rfl
  refine gz [60] ?_
  refine gset 155 (v := .bool false) (v' := .bool false) (zK (by simp)) ?_
  refine gz [61] ?_
  refine gend (fun w68 Y68 A68 j68 => ?_)
  refine zz 6 ?_
  refine zo 0 A68 ?_
  have hNc : w39.heap.size ≤ w68.heap.size := Nat.le_trans hNb (Nat.le_of_lt (A68.own_lt 0 rfl))
  have hOc := Ov.refl w39.heap.size w68
  have hc29_ := (((((((hc15_.trans j55).trans j57).trans j59).trans j61).trans j63).trans j65).trans j67).trans j68
  refine zcF (OverRat_c _ w39.heap.size (Nat.le_trans hNc hOc.size) ((m.scoreAt v i j).1.neg) ad42 len42 cap42 ae42 le42 ce42 (UC.up ((hN42.mono (Le.own A39.lt (Nat.le_refl _) hc29_)).mono Le.orr).uc hOc) (UC.up ((hD42.mono (Le.own A39.lt (Nat.le_refl _) hc29_)).mono Le.orr).uc hOc) (Nat.le_trans ((hN42.mono (Le.own A39.lt (Nat.le_refl _) hc29_)).mono Le.orr).hcap ((hN42.mono (Le.own A39.lt (Nat.le_refl _) hc29_)).mono Le.orr).hbig) (Nat.le_trans ((hD42.mono (Le.own A39.lt (Nat.le_refl _) hc29_)).mono Le.orr).hcap ((hD42.mono (Le.own A39.lt (Nat.le_refl _) hc29_)).mono Le.orr).hbig)) ?_
  rintro v70 w70 ⟨rfl, hO70⟩
  have hOt70 := hOc.trans hO70
  refine zz 5 ?_
  have hc30_ := (((((hc19_.trans j59).trans j61).trans j63).trans j65).trans j67).trans j68
  refine zcF (OverRats_c _ w39.heap.size (Nat.le_trans hNc hOt70.size) ad47 len47 cap47 (RC.up (Rats.rc ((hR47.mono (Le.own A45.lt (Nat.le_trans hNb (Nat.le_of_lt (A45.own_lt 0 rfl))) hc30_)).mono Le.orr)) hOt70) (Nat.le_trans ((hR47.mono (Le.own A45.lt (Nat.le_trans hNb (Nat.le_of_lt (A45.own_lt 0 rfl))) hc30_)).mono Le.orr).hcap ((hR47.mono (Le.own A45.lt (Nat.le_trans hNb (Nat.le_of_lt (A45.own_lt 0 rfl))) hc30_)).mono Le.orr).hbig)) ?_
  rintro v72 w72 ⟨rfl, hO72⟩
  have hOt72 := hOt70.trans hO72
  refine zz 5 ?_
  refine zcF (OverInts_c _ w39.heap.size (Nat.le_trans hNc hOt72.size) ae47 le47 ce47 (UC.up (Ints.uc ((hI47.mono (Le.own A45.lt (Nat.le_trans hNb (Nat.le_of_lt (A45.own_lt 0 rfl))) hc30_)).mono Le.orr)) hOt72) (Nat.le_trans (SlR.hcap ((hI47.mono (Le.own A45.lt (Nat.le_trans hNb (Nat.le_of_lt (A45.own_lt 0 rfl))) hc30_)).mono Le.orr)) (SlR.hbig ((hI47.mono (Le.own A45.lt (Nat.le_trans hNb (Nat.le_of_lt (A45.own_lt 0 rfl))) hc30_)).mono Le.orr)))) ?_
  rintro v74 w74 ⟨rfl, hO74⟩
  have hOt74 := hOt72.trans hO74
  refine zz 4 ?_
  have hc31_ := ((((hc21_.trans j61).trans j63).trans j65).trans j67).trans j68
  refine zcF (OverRats_c _ w39.heap.size (Nat.le_trans hNc hOt74.size) ad49 len49 cap49 (RC.up (Rats.rc ((hR49.mono (Le.own A47.lt (Nat.le_trans hNb (Nat.le_of_lt (A47.own_lt 0 rfl))) hc31_)).mono Le.orr)) hOt74) (Nat.le_trans ((hR49.mono (Le.own A47.lt (Nat.le_trans hNb (Nat.le_of_lt (A47.own_lt 0 rfl))) hc31_)).mono Le.orr).hcap ((hR49.mono (Le.own A47.lt (Nat.le_trans hNb (Nat.le_of_lt (A47.own_lt 0 rfl))) hc31_)).mono Le.orr).hbig)) ?_
  rintro v76 w76 ⟨rfl, hO76⟩
  have hOt76 := hOt74.trans hO76
  refine zz 6 ?_
  refine zw 72 (x := (k : Int) + 1) ?_
  refine zz 2 ?_
  have hc32_ := (Le14 j42 j44 j45 j47 j49 j51 j53 j55 j57 j59 j61 j63 j65 j67).trans j68
  obtain ⟨A77, j77⟩ := St.over A39 (A68.tail) hc32_ hNc hOt76
  refine znext (fun a h => G39 (k + 1) _ a h ⟨_, A77, (Le2 j39 j77), by omega⟩ ?_)
  first | omega | (simp <;> omega)
 refine zz 8 ?_
 refine zc A39 (awake_c _ _ A39.lt) ?_
 rintro v79 w79 A79 j79 hu79 rfl
 refine zz 4 ?_
 refine zr' (v := .bool true) ?_
 exact ⟨A79.upd, _, rfl, rfl⟩
end Go.Proofs.YtoocgllbbihoaaaGreat
namespace Go.Proofs.YtoocgllbbihoaaaGreat
open Go Go.Gv Go.ChangeShapes Go.WideShapes Go.ChangeAt Go.RowKit
theorem own_mdpMatches : ownKnob Tryz.prog.godebug = Option.none := by kernel_rfl
theorem laidOut_mdpMatches : laidOutB Tryz.prog = true := by kernel_rfl
set_option maxRecDepth 100000 in
theorem mdpMatches_lifted (os : Os) (started : os.Started) (H : Type) (enc : TypeId × Value → H) :
    ReturnsInHanded {} Tryz.checked os 3 .any (Rows.mdpMatchesSpec.pre6 enc Tryz.prog Tryz.f3 Rows.mdpMatchesRow.domain false) (Rows.mdpMatchesSpec.post enc Tryz.prog Tryz.f3 false true false false) := by
  refine returnsInHanded_of_change_sized (C := Tryz.checked) own_mdpMatches started (by kernel_rfl) Tryz.func3
    (ChangeSpec.witness6 (enc := enc) (C := Tryz.checked) false ⟨#[], #[.agg #[.bool false, .slice none 0 0, .slice none 0 0, .slice none 0 0], .slice none 0 0, .slice none 0 0, .int .i64 0, .int .i64 0], []⟩ 8 (by kernel_rfl) (by kernel_rfl) (by kernel_rfl) (by kernel_rfl)) ?_
  intro W base args ds gs before hval0 hW hcnd hwt _
  have hval : ∀ (j : Nat) t v, Tryz.f3.params[j]? = some t → args[j]? = some v → Value.okWide Tryz.prog W .any base t v := hval0
  have hW' := hW
  obtain ⟨p, q, hA0, hV, rfl, hfz, hnd⟩ := hW
  have hA : DataW.TrodAll enc Tryz.prog W 0 (fun _ => true) true Tryz.f3.params.toList args.toList ds p := hA0
  rw [Tryz.params3] at hA hval
  obtain ⟨v0, v1, v2, v3, v4, d0, d1, d2, d3, d4, p0, p1, p2, p3, p4, rfl, rfl, rfl, h0, h1, h2, h3, h4⟩ := trodAll_five hA
  obtain ⟨rfl, rfl⟩ := trodVars_none hV
  have h0k := h0
  obtain ⟨m0, a1_0, a2_0, a3_0, a4_0, a5_0, a6_0, a7_0, a8_0, a9_0, rfl, g1_0, g2_0, g3_0, s0⟩ := open_mdp (hval 0 28 v0 rfl rfl) h0 (fun b off hm => hfz b off (by simp [hm])) (fun n hn => of_decide_eq_true (List.all_eq_true.1 hwt n (DataW.weights_mem_each (j := 0) (t := 28) (d := d0) (by kernel_rfl) rfl n hn)))
  have h1k := h1
  obtain ⟨ad1, len1, cap1, xs1, rfl, g1, s1⟩ := open_arats (hval 1 29 v1 rfl rfl) h1 (fun b off hm => hfz b off (by simp [hm])) (fun n hn => of_decide_eq_true (List.all_eq_true.1 hwt n (DataW.weights_mem_each (j := 1) (t := 29) (d := d1) (by kernel_rfl) rfl n hn)))
  have h2k := h2
  obtain ⟨ad2, len2, cap2, xs2, rfl, g2, s2⟩ := open_aints (hval 2 30 v2 rfl rfl) h2 (fun b off hm => hfz b off (by simp [hm])) (fun n hn => of_decide_eq_true (List.all_eq_true.1 hwt n (DataW.weights_mem_each (j := 2) (t := 30) (d := d2) (by kernel_rfl) rfl n hn)))
  have h3k := h3
  obtain ⟨z3, rfl, rfl, rfl, wz3⟩ := open_int Tryz.underlying3 (hval 3 3 v3 rfl rfl) h3
  have h4k := h4
  obtain ⟨z4, rfl, rfl, rfl, wz4⟩ := open_int Tryz.underlying3 (hval 4 3 v4 rfl rfl) h4
  clear hA0 hval0
  simp only [List.append_nil] at hW'
  refine (matches_c W X0 (X0_lt _) m0 _ _ _ g1_0 _ _ _ g2_0 _ _ _ g3_0 xs1 _ _ _ g1 xs2 _ _ _ g2 z3 z4 s0).mono ?_
  rintro e W' ⟨hu, v, rfl, rfl⟩
  have hb := Upd.below hu
  exact ⟨_, rfl, _, _, _, [] ++ [], _, [], hW', trodAll_mk1 (shut_bool (by kernel_rfl) true), trodAll_mk5 (Below.trod laidOut_mdpMatches (by kernel_rfl) (of_decide_eq_true (by kernel_rfl)) h0k hb (fun x hx => by simpa using hW'.lt x (by simp [hx]))) (Below.trod laidOut_mdpMatches (by kernel_rfl) (of_decide_eq_true (by kernel_rfl)) h1k hb (fun x hx => by simpa using hW'.lt x (by simp [hx]))) (Below.trod laidOut_mdpMatches (by kernel_rfl) (of_decide_eq_true (by kernel_rfl)) h2k hb (fun x hx => by simpa using hW'.lt x (by simp [hx]))) (shut_int Tryz.underlying3 wz3) (shut_int Tryz.underlying3 wz4), rfl, hb.frame _, fun h => by cases h⟩
theorem mdpMatches_holds : Rows.MdpMatchesSaid :=
  OpenClaim.holds_of_wide 3 Tryz.f3 rfl rfl rfl rfl rfl rfl rfl ⟨rfl, rfl, rfl, rfl, rfl⟩ rfl rfl rfl rfl rfl (by kernel_rfl) Tryz.func3 (by kernel_rfl)
    (of_decide_eq_true (by kernel_rfl)) (by unfold Func.isWrapper; first | (rw [if_pos (by decide +kernel)]; kernel_rfl) | (rw [if_neg (by decide +kernel)]; exact ⟨rfl, rfl⟩))
    (fun os started H enc _ => mdpMatches_lifted os started H enc)
end Go.Proofs.YtoocgllbbihoaaaGreat

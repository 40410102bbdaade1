/- Parts of the proof: R3 R4 R5 R6 R7 R8 R9 R10 R11 R12 R13 R14 R15 R16 R17. By an AI agent. -/
import Derived.Test.YtppalofalmieaaaGreatBaseA
import Derived.Test.YtppalofalmieaaaGreatBaseB
import Derived.Test.YtppalofalmieaaaGreatBaseC
set_option linter.unusedVariables false
set_option linter.unusedSimpArgs false
set_option linter.unnecessarySimpa false
namespace Go.Proofs.YtppalofalmieaaaGreat
open Go Go.Gv Go.RowKit
set_option maxRecDepth 100000
set_option maxHeartbeats 1000000
theorem diff5_c (w : World) (X : Hid) (hX : ∀ k o, X k o → k < w.heap.size) (ad : Option Addr) (len cap : Nat) (l : List Nat) (h : Limbs (rd w X) ad len cap l) (ad2 : Option Addr) (len2 cap2 : Nat) (l2 : List Nat) (h2 : Limbs (rd w X) ad2 len2 cap2 l2) (hm : len ≤ 1000000) (hll : l2.length ≤ l.length) (hle : val l2 ≤ val l) : Calls Tryz.prog 139 #[.slice ad len cap, .slice ad2 len2 cap2] w (Ret E0 w fun w' v => NatX X w' v (val l - val l2)) := by
 obtain rfl := h.hlen
 obtain rfl := h2.hlen
 have hcap := h.hcap
 have hbig := h.hbig
 have hcap2 := h2.hcap
 have hbig2 := h2.hbig
 refine zen Tryz.func139 ?_
 have C0 : St E0 w X w X [] := St.start hX
 refine zz 22 ?_
 refine zlp Tryz.f139 [] [1, 1, 1, 0, 1, 0] (fun ((k, ad8, cap8, c) : Nat × (Option Addr) × Nat × Nat) => [(0, .slice ad l.length cap), (1, .slice ad2 l2.length cap2), (5, .slice ad8 k cap8), (6, .int .u64 (c : Int)), (7, .int .i64 (k : Int))]) (fun ((k, ad8, cap8, c) : Nat × (Option Addr) × Nat × Nat) w1 => ∃ (Y1 : Hid) (rb : List (Nat × Obj)) (ls : List Nat), St E0 w X w1 Y1 (rb) ∧ Le (rd w X) (rd w1 Y1) ∧ (TRow 56 1 rb ad8 k cap8 (U32 ls)) ∧ (ls.length = k) ∧ (∀ x ∈ ls, x < 4294967296) ∧ (val ls + val (l2.take k) = val (l.take k) + c * 4294967296 ^ k) ∧ (c ≤ 1) ∧ (k ≤ l.length)) (fun ((k, ad8, cap8, c) : Nat × (Option Addr) × Nat × Nat) => l.length - k) (0, none, 0, 0) ?_ ?_
 ·
  refine ⟨_, [], [], C0, Le.refl _, TRow.nil _ _, rfl, fun _ h => absurd h (by simp), by simp [val], by omega, Nat.zero_le _⟩
 rintro ⟨k, ad8, cap8, c⟩ w2 K2 H2 ⟨Y2, rb, ls, C2, j2, hp2_0, hp2_1, hp2_2, hp2_3, hp2_4, hp2_5⟩
 have hrw := hp2_0
 have hrl := hp2_1
 have hrt := hp2_2
 have hv := hp2_3
 have hc := hp2_4
 have hk := hp2_5
 have hlt1 := h.getD_lt k
 have hlt2 := h2.getD_lt k
 refine zz 9 ?_
 refine zt 12 (p := (k : Int) < (l.length : Int)) (fun ht3 => ?_) (fun ht3 => ?_)
 ·
  refine zz 9 ?_
  refine zc C2 (limb5_c _ X0 (X0_lt _) _ _ _ l ((h.mono j2).mono Le.x0) k) ?_
  rintro v5 w5 C5 j5 hu5 rfl
  refine zz 1 ?_
  refine zs 18 (v := .int .u64 (IntKind.u64.wrap ((4294967296 : Int) + ((l.getD k 0 : Nat) : Int)))) (v' := .int .u64 ((4294967296 : Int) + ((l.getD k 0 : Nat) : Int))) (vint (wu64 (by omega) (by omega))) ?_
  refine zz 2 ?_
  refine zc C5 (limb5_c _ X0 (X0_lt _) _ _ _ l2 ((h2.mono (Le2 j2 j5)).mono Le.x0) k) ?_
  rintro v7 w7 C7 j7 hu7 rfl
  refine zz 1 ?_
  refine zs 22 (v := .int .u64 (IntKind.u64.wrap (((4294967296 : Int) + ((l.getD k 0 : Nat) : Int)) - ((l2.getD k 0 : Nat) : Int)))) (v' := .int .u64 (((4294967296 : Int) + ((l.getD k 0 : Nat) : Int)) - ((l2.getD k 0 : Nat) : Int))) (vint (wu64 (by omega) (by omega))) ?_
  refine zz 2 ?_
  refine zs 24 (v := .int .u64 (IntKind.u64.wrap ((((4294967296 : Int) + ((l.getD k 0 : Nat) : Int)) - ((l2.getD k 0 : Nat) : Int)) - (c : Int)))) (v' := .int .u64 (((4294967296 + l.getD k 0 - l2.getD k 0 - c) : Nat) : Int)) (vint ((wu64 (by omega) (by omega)).trans (by omega))) ?_
  refine zz 8 ?_
  refine zs 27 (v := .int .u64 (Int.tmod ((((4294967296 + l.getD k 0 - l2.getD k 0 - c) : Nat) : Int)) (4294967296))) (v' := .int .u64 (((4294967296 + l.getD k 0 - l2.getD k 0 - c) % 4294967296 : Nat) : Int)) (vint (by rfl)) ?_
  refine zz 1 ?_
  refine zs 28 (v := .int .u32 (IntKind.u32.wrap ((((4294967296 + l.getD k 0 - l2.getD k 0 - c) % 4294967296 : Nat) : Int)))) (v' := .int .u32 (((4294967296 + l.getD k 0 - l2.getD k 0 - c) % 4294967296 : Nat) : Int)) (vint (wu32 (by omega) (by omega))) ?_
  refine zn (fun b => .slice (some ⟨b, 0, none⟩) 1 1) (.cells #[.int .u32 (((4294967296 + l.getD k 0 - l2.getD k 0 - c) % 4294967296 : Nat) : Int)] 56 (0, 0)) C7 ?_
  intro b9 w9 Y9 C9 j9 hu9
  refine zop (at1 [K2] Tryz.f139 [1, 1, 1, 0, 1, 0, 0, 1, 0, 0, 1, 0]) 5 (fun a10 _ G10 hz10 => op_appEZ (b := 4) (m := 1) (c := 1) (ad := ⟨b9, 0, none⟩) (news := [.int .u32 (((4294967296 + l.getD k 0 - l2.getD k 0 - c) % 4294967296 : Nat) : Int)]) (i0 := Tryz.t56) (R1 := []) 1 G10 C9 rfl hrw (C9.cells 0 rfl rfl) (by omega) (by omega) ?_)
  intro rb11 ad11 cap11 w11 Y11 hrow11 C11 j11 a12 G12
  have hrw11 : TRow 56 1 rb11 ad11 (k + 1) cap11 (U32 (ls ++ [(4294967296 + l.getD k 0 - l2.getD k 0 - c) % 4294967296])) := by rw [← U32_snoc]; exact hrow11
  refine hz10 G12 ?_
  refine zz 6 ?_
  refine zs 32 (v := .int .u64 (IntKind.u64.wrap (Int.tdiv ((((4294967296 + l.getD k 0 - l2.getD k 0 - c) : Nat) : Int)) (4294967296)))) (v' := .int .u64 (((4294967296 + l.getD k 0 - l2.getD k 0 - c) / 4294967296 : Nat) : Int)) (vint (u64_quo _ (by omega))) ?_
  refine zz 1 ?_
  refine zs 33 (v := .int .u64 (IntKind.u64.wrap ((1 : Int) - (((4294967296 + l.getD k 0 - l2.getD k 0 - c) / 4294967296 : Nat) : Int)))) (v' := .int .u64 ((1 - (4294967296 + l.getD k 0 - l2.getD k 0 - c) / 4294967296 : Nat) : Int)) (vint ((wu64 (by omega) (by omega)).trans (by omega))) ?_
  refine zz 7 ?_
  refine zw 14 (x := (k : Int) + 1) ?_
  refine zz 2 ?_
  have hc1_ := (Le4 j2 j5 j7 j9).trans j11
  refine znext (fun a h => H2 ((k + 1, ad11, cap11, (1 - (4294967296 + l.getD k 0 - l2.getD k 0 - c) / 4294967296))) _ a h ⟨_, rb11, (ls ++ [(4294967296 + l.getD k 0 - l2.getD k 0 - c) % 4294967296]), C11.tail, hc1_, hrw11, by rw [List.length_append, hrl]; rfl, snoc_lt hrt (by omega), diffstep _ _ _ _ _ hrl hlt1 hlt2 hc hv, by omega, by omega⟩ ?_)
  first | omega | (simp <;> omega)
 have hend := diff_end hrl (by omega) hrt hll hle hc hv
 refine zz 9 ?_
 obtain ⟨Y14, hSx14, j14, hL14⟩ := St.pubLimbs (A := []) (B := []) (fun rb => (rb)) C2 (fun _ => by simp only [List.append_assoc, List.cons_append, List.nil_append, List.append_nil]) hrw hrl.symm hrt
 have C14 : St E0 w X w2 Y14 [] := hSx14
 refine zc C14 (cut5_c _ _ C14.lt _ _ _ ls hL14) ?_
 rintro v15 w15 C15 j15 hu15 rfl
 refine zz 4 ?_
 refine zr' (v := .slice ad8 (trimN ls) cap8) ?_
 exact ⟨C15.upd, _, rfl, _, _, _, rfl, _, ((hL14.sub (trimN_le _ hL14.hlen)).mono (Le.trans j15 C15.le)), canon_trimmed _, by rw [show List.take (trimN ls) ls = Go.Gv.trimmed ls from rfl, val_trimmed]; exact hend⟩
theorem order5_c (w : World) (X : Hid) (hX : ∀ k o, X k o → k < w.heap.size) (ad : Option Addr) (len cap : Nat) (l : List Nat) (h : Limbs (rd w X) ad len cap l) (ad2 : Option Addr) (len2 cap2 : Nat) (l2 : List Nat) (h2 : Limbs (rd w X) ad2 len2 cap2 l2) (hm : len ≤ 1000000) (hm2 : len2 ≤ 1000000) : Calls Tryz.prog 138 #[.slice ad len cap, .slice ad2 len2 cap2] w (Ret E0 w fun _ v => v = .int .i64 (cmpI (val l) (val l2))) := by
 obtain rfl := h.hlen
 obtain rfl := h2.hlen
 have hcap := h.hcap
 have hbig := h.hbig
 have hcap2 := h2.hcap
 have hbig2 := h2.hbig
 refine zen Tryz.func138 ?_
 have C0 : St E0 w X w X [] := St.start hX
 refine zz 13 ?_
 refine zs 10 (v := .int .i64 (if (l2.length : Int) > (l.length : Int) then (l2.length : Int) else (l.length : Int))) (v' := .int .i64 ((max l.length l2.length : Nat) : Int)) (vint (by split <;> omega)) ?_
 refine zz 1 ?_
 refine zw 11 (x := ((max l.length l2.length : Nat) : Int) - 1) ?_
 refine zz 4 ?_
 refine zlp Tryz.f138 [] [1, 0, 1, 0] (fun (k : Nat) => [(0, .slice ad l.length cap), (1, .slice ad2 l2.length cap2), (5, .int .i64 ((k : Int) - 1))]) (fun (k : Nat) w1 => ∃ (Y1 : Hid), St E0 w X w1 Y1 [] ∧ Le (rd w X) (rd w1 Y1) ∧ (k ≤ max l.length l2.length) ∧ (∀ j, k ≤ j → l.getD j 0 = l2.getD j 0)) (fun (k : Nat) => k) (max l.length l2.length) ?_ ?_
 ·
  refine ⟨_, C0, Le.refl _, Nat.le_refl _, fun j hj => (getD_out (by omega)).trans (getD_out (by omega)).symm⟩
 rintro k w2 K2 H2 ⟨Y2, C2, j2, hp2_0, hp2_1⟩
 have hk := hp2_0
 have he := hp2_1
 have hlt1 := h.getD_lt (k - 1)
 have hlt2 := h2.getD_lt (k - 1)
 refine zz 7 ?_
 refine zt 13 (p := ((k : Int) - 1) ≥ 0) (fun ht3 => ?_) (fun ht3 => ?_)
 ·
  refine zz 10 ?_
  refine zs 17 (v := .int .i64 ((k : Int) - 1)) (v' := .int .i64 ((k - 1 : Nat) : Int)) (vint (by omega)) ?_
  refine zc C2 (limb5_c _ X0 (X0_lt _) _ _ _ l ((h.mono j2).mono Le.x0) (k - 1)) ?_
  rintro v5 w5 C5 j5 hu5 rfl
  refine zz 2 ?_
  refine zs 20 (v := .int .i64 ((k : Int) - 1)) (v' := .int .i64 ((k - 1 : Nat) : Int)) (vint (by omega)) ?_
  refine zc C5 (limb5_c _ X0 (X0_lt _) _ _ _ l2 ((h2.mono (Le2 j2 j5)).mono Le.x0) (k - 1)) ?_
  rintro v7 w7 C7 j7 hu7 rfl
  refine zz 3 ?_
  refine zt 22 (p := ((l.getD (k - 1) 0 : Nat) : Int) < ((l2.getD (k - 1) 0 : Nat) : Int)) (fun ht8 => ?_) (fun ht8 => ?_)
  ·
   refine zz 13 ?_
   refine zr' (v := .int .i64 (-1)) ?_
   exact ⟨C7.upd, _, rfl, vint (Eq.symm (by have h9 := ord_lt h.hlt (k := k - 1) (fun j hj => he j (by omega)) (by omega); unfold cmpI; rw [if_pos (by omega)]))⟩
  refine zz 7 ?_
  refine zs 24 (v := .int .i64 ((k : Int) - 1)) (v' := .int .i64 ((k - 1 : Nat) : Int)) (vint (by omega)) ?_
  refine zc C7 (limb5_c _ X0 (X0_lt _) _ _ _ l ((h.mono (Le3 j2 j5 j7)).mono Le.x0) (k - 1)) ?_
  rintro v10 w10 C10 j10 hu10 rfl
  refine zz 2 ?_
  refine zs 27 (v := .int .i64 ((k : Int) - 1)) (v' := .int .i64 ((k - 1 : Nat) : Int)) (vint (by omega)) ?_
  have hc1_ := (Le3 j2 j5 j7).trans j10
  refine zc C10 (limb5_c _ X0 (X0_lt _) _ _ _ l2 ((h2.mono hc1_).mono Le.x0) (k - 1)) ?_
  rintro v12 w12 C12 j12 hu12 rfl
  refine zz 3 ?_
  refine zt 29 (p := ((l.getD (k - 1) 0 : Nat) : Int) > ((l2.getD (k - 1) 0 : Nat) : Int)) (fun ht13 => ?_) (fun ht13 => ?_)
  ·
   refine zz 12 ?_
   refine zr' (v := .int .i64 1) ?_
   exact ⟨C12.upd, _, rfl, vint (Eq.symm (by have h9 := ord_lt h2.hlt (k := k - 1) (fun j hj => (he j (by omega)).symm) (by omega); unfold cmpI; rw [if_neg (by omega), if_pos (by omega)]))⟩
  refine zz 7 ?_
  refine zs 15 (v := .int .i64 (IntKind.i64.wrap (((k : Int) - 1) - 1))) (v' := .int .i64 (((k - 1 : Nat) : Int) - 1)) (vint ((wi64 (by omega) (by omega)).trans (by omega))) ?_
  refine zz 2 ?_
  have hc2_ := hc1_.trans j12
  refine znext (fun a h => H2 (k - 1) _ a h ⟨_, C12, hc2_, by omega, fun j hj => by rcases Nat.lt_or_ge j k with h9 | h9; obtain rfl : j = k - 1 := (by omega); omega; exact he j h9⟩ ?_)
  first | omega | (simp <;> omega)
 have hend := val_ext l l2 (fun j => he j (by omega))
 refine zz 12 ?_
 refine zr' (v := .int .i64 0) ?_
 exact ⟨C2.upd, _, rfl, vint (Eq.symm (by unfold cmpI; rw [hend, if_neg (Int.lt_irrefl _), if_neg (Int.lt_irrefl _)]))⟩
end Go.Proofs.YtppalofalmieaaaGreat
namespace Go.Proofs.YtppalofalmieaaaGreat
open Go Go.Gv Go.RowKit
set_option maxRecDepth 100000
set_option maxHeartbeats 1000000
theorem prod5_c (w : World) (X : Hid) (hX : ∀ k o, X k o → k < w.heap.size) (ad : Option Addr) (len cap : Nat) (l : List Nat) (h : Limbs (rd w X) ad len cap l) (ad2 : Option Addr) (len2 cap2 : Nat) (l2 : List Nat) (h2 : Limbs (rd w X) ad2 len2 cap2 l2) (hm : len ≤ 1000000) (hm2 : len2 ≤ 1000000) : Calls Tryz.prog 135 #[.slice ad len cap, .slice ad2 len2 cap2] w (Ret E0 w fun w' v => NatX X w' v (val l * val l2)) := by
 obtain rfl := h.hlen
 obtain rfl := h2.hlen
 have hcap := h.hcap
 have hbig := h.hbig
 have hcap2 := h2.hcap
 have hbig2 := h2.hbig
 refine zen Tryz.func135 ?_
 have C0 : St E0 w X w X [] := St.start hX
 refine zz 12 ?_
 refine zs 14 (v := .int .i64 (IntKind.i64.wrap ((l.length : Int) + (l2.length : Int)))) (v' := .int .i64 ((l.length + l2.length : Nat) : Int)) (vint ((wi64 (by omega) (by omega)).trans (by omega))) ?_
 refine zop (at1 [] Tryz.f135 [1, 0]) 5 (fun a2 _ G2 hz2 => op_makeZ (l := ((l.length + l2.length : Nat) : Int)) (e := 56) (z := .int .u32 0) (i0 := Tryz.t56) (l.length + l2.length) 4 G2 C0 ?_)
 intro b3 w3 Y3 C3 j3 hu3 a4 G4
 have hrow3 := URow.zeros (l.length + l2.length) (by simp only [maxLen]; omega)
 refine hz2 G4 ?_
 refine zz 10 ?_
 refine zlp Tryz.f135 [] [1, 1, 0, 1, 0] (fun (i : Nat) => [(0, .slice ad l.length cap), (1, .slice ad2 l2.length cap2), (5, .slice (some ⟨b3, 0, none⟩) (l.length + l2.length) (l.length + l2.length)), (6, .int .i64 (i : Int))]) (fun (i : Nat) w1 => ∃ (Y1 : Hid) (cur : Array Value) (ls : List Nat), St E0 w X w1 Y1 [(b3, .cells cur 56 (0, 0))] ∧ Le (rd w3 Y3) (rd w1 Y1) ∧ (URow (l.length + l2.length) (l.length + l2.length) cur ls) ∧ (val ls = val (l.take i) * val l2) ∧ (∀ j, i + l2.length ≤ j → ls.getD j 0 = 0) ∧ (i ≤ l.length)) (fun (i : Nat) => l.length - i) 0 ?_ ?_
 ·
  refine ⟨_, (List.replicate (l.length + l2.length) (Value.int .u32 0)).toArray, (List.replicate (l.length + l2.length) 0), C3, Le.refl _, hrow3, by rw [val_replicate]; simp [val], fun j _ => by simp [List.getD_eq_getElem?_getD, List.getElem?_replicate]; split <;> rfl, Nat.zero_le _⟩
 rintro i w5 K5 H5 ⟨Y5, cur, ls, C5, j5, hp5_0, hp5_1, hp5_2, hp5_3⟩
 have hrow := hp5_0
 have hv := hp5_1
 have hz := hp5_2
 have hi := hp5_3
 have hlen := hrow.len
 have hlt1 := h.getD_lt i
 refine zz 9 ?_
 refine zt 19 (p := (i : Int) < (l.length : Int)) (fun ht6 => ?_) (fun ht6 => ?_)
 ·
  obtain ⟨b1, off1, rfl, _⟩ := h.addr (by omega)
  refine zz 17 ?_
  refine zlp Tryz.f135 [K5] [1, 1, 0, 1, 0, 0, 1, 0, 0, 1, 0, 1, 0] (fun ((k, c) : Nat × Nat) => [(0, .slice (some ⟨b1, off1, none⟩) l.length cap), (1, .slice ad2 l2.length cap2), (5, .slice (some ⟨b3, 0, none⟩) (l.length + l2.length) (l.length + l2.length)), (6, .int .i64 (i : Int)), (7, .int .u64 (c : Int)), (8, .int .i64 (k : Int))]) (fun ((k, c) : Nat × Nat) w1 => ∃ (Y1 : Hid) (cur2 : Array Value) (ls2 : List Nat), St E0 w X w1 Y1 [(b3, .cells cur2 56 (0, 0))] ∧ Le (rd w5 Y5) (rd w1 Y1) ∧ (URow (l.length + l2.length) (l.length + l2.length) cur2 ls2) ∧ (val ls2 + c * 4294967296 ^ (i + k) = (val (l.take i) * val l2) + l.getD i 0 * 4294967296 ^ i * val (l2.take k)) ∧ (∀ j, i + l2.length ≤ j → ls2.getD j 0 = 0) ∧ (c < 4294967296) ∧ (k ≤ l2.length)) (fun ((k, c) : Nat × Nat) => l2.length - k) (0, 0) ?_ ?_
  ·
   refine ⟨_, cur, ls, C5, Le.refl _, hrow, by rw [hv]; simp [val], hz, by omega, Nat.zero_le _⟩
  rintro ⟨k, c⟩ w7 K7 H7 ⟨Y7, cur2, ls2, C7, j7, hp7_0, hp7_1, hp7_2, hp7_3, hp7_4⟩
  have hrow2 := hp7_0
  have hv2 := hp7_1
  have hzr2 := hp7_2
  have hc := hp7_3
  have hk := hp7_4
  have hlen2 := hrow2.len
  have hlt2 := h2.getD_lt k
  have hlt3 := hrow2.getD_lt (i + k)
  have hps := prod_lt hlt1 hlt2 hlt3 hc
  refine zz 9 ?_
  refine zt 25 (p := (k : Int) < (l2.length : Int)) (fun ht8 => ?_) (fun ht8 => ?_)
  ·
   obtain ⟨b2, off2, rfl, _⟩ := h2.addr (by omega)
   refine zz 6 ?_
   refine zdraw [0] C7 ?_
   refine gz [0, 1] ?_
   refine gi 2 (b := b1) (off := off1) (len := l.length) (cap := cap) (kd := .i64) (i := (i : Int)) 1 (off1 + i) ?_
   refine gl 3 ((h.cell (i := i) (by omega)).mono (Le3 j3 j5 j7)) ?_
   refine gz [4] ?_
   refine gset 32 (v := .int .u64 (IntKind.u64.wrap (((l.getD i 0 : Nat) : Int)))) (v' := .int .u64 ((l.getD i 0 : Nat) : Int)) (vint (wu64 (by omega) (by omega))) ?_
   refine gz [5, 6] ?_
   refine gi 7 (b := b2) (off := off2) (len := l2.length) (cap := cap2) (kd := .i64) (i := (k : Int)) 1 (off2 + k) ?_
   refine gl 8 ((h2.cell (i := k) (by omega)).mono (Le3 j3 j5 j7)) ?_
   refine gz [9] ?_
   refine gset 37 (v := .int .u64 (IntKind.u64.wrap (((l2.getD k 0 : Nat) : Int)))) (v' := .int .u64 ((l2.getD k 0 : Nat) : Int)) (vint (wu64 (by omega) (by omega))) ?_
   refine gz [10] ?_
   refine gset 38 (v := .int .u64 (IntKind.u64.wrap (((l.getD i 0 : Nat) : Int) * ((l2.getD k 0 : Nat) : Int)))) (v' := .int .u64 ((l.getD i 0 * l2.getD k 0 : Nat) : Int)) (vint (u64_mul (by omega))) ?_
   refine gz [11, 12, 13, 14] ?_
   refine gset 42 (v := .int .i64 (IntKind.i64.wrap ((i : Int) + (k : Int)))) (v' := .int .i64 ((i + k : Nat) : Int)) (vint ((wi64 (by omega) (by omega)).trans (by omega))) ?_
   refine gi 15 (b := b3) (off := 0) (len := (l.length + l2.length)) (cap := (l.length + l2.length)) (kd := .i64) (i := ((i + k : Nat) : Int)) 1 ((((i + k : Nat) : Int)).toNat) ?_
   refine gr 16 0 ((((i + k : Nat) : Int)).toNat) hrow2 (by have := hrow2.len; (try simp only [List.length_set] at *); omega) ?_
   refine gz [17] ?_
   refine gset 45 (v := .int .u64 (IntKind.u64.wrap (((ls2.getD ((((i + k : Nat) : Int)).toNat) 0 : Nat) : Int)))) (v' := .int .u64 ((ls2.getD (i + k) 0 : Nat) : Int)) (vint (wu64 (x := ((ls2.getD (i + k) 0 : Nat) : Int)) (by omega) (by omega))) ?_
   refine gz [18] ?_
   refine gset 46 (v := .int .u64 (IntKind.u64.wrap (((l.getD i 0 * l2.getD k 0 : Nat) : Int) + ((ls2.getD (i + k) 0 : Nat) : Int)))) (v' := .int .u64 ((l.getD i 0 * l2.getD k 0 + ls2.getD (i + k) 0 : Nat) : Int)) (vint (u64_add (by omega))) ?_
   refine gz [19, 20] ?_
   refine gset 48 (v := .int .u64 (IntKind.u64.wrap (((l.getD i 0 * l2.getD k 0 + ls2.getD (i + k) 0 : Nat) : Int) + (c : Int)))) (v' := .int .u64 (((l.getD i 0 * l2.getD k 0 + ls2.getD (i + k) 0 + c) : Nat) : Int)) (vint (u64_add (by omega))) ?_
   refine gz [21] ?_
   refine gend (fun w9 Y9 C9 j9 => ?_)
   refine zz 7 ?_
   refine zs 52 (v := .int .i64 (IntKind.i64.wrap ((i : Int) + (k : Int)))) (v' := .int .i64 ((i + k : Nat) : Int)) (vint ((wi64 (by omega) (by omega)).trans (by omega))) ?_
   refine zz 2 ?_
   refine zs 54 (v := .int .u64 (Int.tmod ((((l.getD i 0 * l2.getD k 0 + ls2.getD (i + k) 0 + c) : Nat) : Int)) (4294967296))) (v' := .int .u64 (((l.getD i 0 * l2.getD k 0 + ls2.getD (i + k) 0 + c) % 4294967296 : Nat) : Int)) (vint (by rfl)) ?_
   refine zz 1 ?_
   refine zs 55 (v := .int .u32 (IntKind.u32.wrap ((((l.getD i 0 * l2.getD k 0 + ls2.getD (i + k) 0 + c) % 4294967296 : Nat) : Int)))) (v' := .int .u32 (((l.getD i 0 * l2.getD k 0 + ls2.getD (i + k) 0 + c) % 4294967296 : Nat) : Int)) (vint (wu32 (by omega) (by omega))) ?_
   refine zi (b := b3) (off := 0) (len := (l.length + l2.length)) (cap := (l.length + l2.length)) (kd := .i64) (i := ((i + k : Nat) : Int)) 1 ((((i + k : Nat) : Int)).toNat) ?_
   refine zop (at1 [K5, K7] Tryz.f135 [1, 1, 0, 1, 0, 0, 1, 0, 0, 1, 0, 1, 0, 0, 1, 0, 0, 1, 0]) 8 (fun a10 _ G10 hz10 => op_storeUZ (y := ((l.getD i 0 * l2.getD k 0 + ls2.getD (i + k) 0 + c) % 4294967296)) (k := (((i + k : Nat) : Int)).toNat) (e := (((l.getD i 0 * l2.getD k 0 + ls2.getD (i + k) 0 + c) % 4294967296 : Nat) : Int)) 0 G10 C9 (by first | rfl | omega | (simp; omega)) rfl hrow2 (by have := hrow2.len; (try simp only [List.length_set] at *); omega) (by first | omega | (simp; omega)) ?_)
   intro cur11 w11 hrow11 C11 j11
   refine hz10 G10 ?_
   refine zz 5 ?_
   refine zs 58 (v := .int .u64 (IntKind.u64.wrap (Int.tdiv ((((l.getD i 0 * l2.getD k 0 + ls2.getD (i + k) 0 + c) : Nat) : Int)) (4294967296)))) (v' := .int .u64 (((l.getD i 0 * l2.getD k 0 + ls2.getD (i + k) 0 + c) / 4294967296 : Nat) : Int)) (vint (u64_quo _ (by omega))) ?_
   refine zz 7 ?_
   refine zw 27 (x := (k : Int) + 1) ?_
   refine zz 2 ?_
   refine znext (fun a h => H7 ((k + 1, (l.getD i 0 * l2.getD k 0 + ls2.getD (i + k) 0 + c) / 4294967296)) _ a h ⟨_, cur11, (ls2.set ((((i + k : Nat) : Int)).toNat) ((l.getD i 0 * l2.getD k 0 + ls2.getD (i + k) 0 + c) % 4294967296)), C11, (Le3 j7 j9 j11), hrow11, (by have h9 := prodstep _ _ _ _ (l.getD i 0) (l2.getD k 0) (by omega) hv2; rw [← Nat.add_assoc]; exact h9.trans (prod_in l2 i k _ _ _ rfl)), fun j hj => by rw [getD_set_of_ne (by omega)]; exact hzr2 j (by omega), by omega, by omega⟩ ?_)
   first | omega | (simp <;> omega)
  obtain rfl : k = l2.length := by omega
  rw [List.take_length] at hv2
  refine zz 12 ?_
  refine zs 63 (v := .int .i64 (IntKind.i64.wrap ((i : Int) + (l2.length : Int)))) (v' := .int .i64 ((i + l2.length : Nat) : Int)) (vint ((wi64 (by omega) (by omega)).trans (by omega))) ?_
  refine zz 2 ?_
  refine zs 65 (v := .int .u32 (IntKind.u32.wrap ((c : Int)))) (v' := .int .u32 ((c : Nat) : Int)) (vint (wu32 (by omega) (by omega))) ?_
  refine zi (b := b3) (off := 0) (len := (l.length + l2.length)) (cap := (l.length + l2.length)) (kd := .i64) (i := ((i + l2.length : Nat) : Int)) 1 ((((i + l2.length : Nat) : Int)).toNat) ?_
  refine zop (at1 [K5, K7] Tryz.f135 [1, 1, 0, 1, 0, 0, 1, 0, 0, 1, 1]) 8 (fun a12 _ G12 hz12 => op_storeUZ (y := c) (k := (((i + l2.length : Nat) : Int)).toNat) (e := ((c : Nat) : Int)) 0 G12 C7 (by first | rfl | omega | (simp; omega)) rfl hrow2 (by have := hrow2.len; (try simp only [List.length_set] at *); omega) (by first | omega | (simp; omega)) ?_)
  intro cur13 w13 hrow13 C13 j13
  refine hz12 G12 ?_
  refine zz 6 ?_
  refine zw 21 (x := (i : Int) + 1) ?_
  refine zz 2 ?_
  refine znext (fun a h => H5 (i + 1) _ a h ⟨_, cur13, (ls2.set ((((i + l2.length : Nat) : Int)).toNat) c), C13, (Le3 j5 j7 j13), hrow13, prod_out _ _ _ _ _ (by omega) (hzr2 _ (by omega)) hv2, fun j hj => by rw [getD_set_of_ne (by omega)]; exact hzr2 j (by omega), by omega⟩ ?_)
  first | omega | (simp <;> omega)
 have hend : val ls = val l * val l2 := by rw [hv, List.take_of_length_le (by omega)]
 refine zz 9 ?_
 refine zc C5 (cut5_c _ X0 (X0_lt _) _ _ _ ls (URow.limbs (Y := X0) hrow (C5.get 0 rfl) (fun _ h => h.elim))) ?_ (vs := #[.slice (some ⟨b3, 0, none⟩) (l.length + l2.length) (l.length + l2.length)])
 rintro v15 w15 C15 j15 hu15 rfl
 refine zz 4 ?_
 refine zr' (v := .slice (some ⟨b3, 0, none⟩) (trimN ls) (l.length + l2.length)) ?_
 exact ⟨C15.upd, _, rfl, _, _, _, rfl, _, URow.limbs (hrow.trimmed) (C15.get 0 rfl) (fun o h9 => Nat.not_lt.2 (C15.own_ge 0 rfl) (hX _ _ h9)), canon_trimmed _, by rw [val_trimmed]; exact hend⟩
end Go.Proofs.YtppalofalmieaaaGreat
namespace Go.Proofs.YtppalofalmieaaaGreat
open Go Go.Gv Go.RowKit
set_option maxRecDepth 100000
set_option maxHeartbeats 1000000
theorem from5_c (w : World) (X : Hid) (hX : ∀ k o, X k o → k < w.heap.size) (x : Nat) (hx : x < 18446744073709551616) : Calls Tryz.prog 117 #[.int .u64 (x : Int)] w (Ret E0 w fun w' v => NatX X w' v x) := by
 refine zen Tryz.func117 ?_
 have C0 : St E0 w X w X [] := St.start hX
 refine zz 9 ?_
 refine zs 4 (v := .int .u64 (Int.tmod ((x : Int)) (4294967296))) (v' := .int .u64 ((x % 4294967296 : Nat) : Int)) (vint (by rfl)) ?_
 refine zz 1 ?_
 refine zs 5 (v := .int .u32 (IntKind.u32.wrap (((x % 4294967296 : Nat) : Int)))) (v' := .int .u32 ((x % 4294967296 : Nat) : Int)) (vint (wu32 (by omega) (by omega))) ?_
 refine zz 2 ?_
 refine zs 7 (v := .int .u64 (IntKind.u64.wrap (Int.tdiv ((x : Int)) (4294967296)))) (v' := .int .u64 ((x / 4294967296 : Nat) : Int)) (vint (u64_quo _ (by omega))) ?_
 refine zz 1 ?_
 refine zs 8 (v := .int .u32 (IntKind.u32.wrap (((x / 4294967296 : Nat) : Int)))) (v' := .int .u32 ((x / 4294967296 : Nat) : Int)) (vint (wu32 (by omega) (by omega))) ?_
 refine zn (fun b => .slice (some ⟨b, 0, none⟩) 2 2) (.cells #[.int .u32 ((x % 4294967296 : Nat) : Int), .int .u32 ((x / 4294967296 : Nat) : Int)] 56 (0, 0)) C0 ?_
 intro b3 w3 Y3 C3 j3 hu3
 have hrow5 : URow 2 2 #[.int .u32 ((x % 4294967296 : Nat) : Int), .int .u32 ((x / 4294967296 : Nat) : Int)] [x % 4294967296, x / 4294967296] := URow.of [x % 4294967296, x / 4294967296] (by intro y hy; simp at hy; omega) (by simp [maxLen]) (by simp [U32]) (by simp)
 refine zc C3 (cut5_c _ X0 (X0_lt _) _ _ _ ([x % 4294967296, x / 4294967296]) (URow.limbs (Y := X0) hrow5 (C3.get 0 rfl) (fun _ h => h.elim))) ?_ (vs := #[.slice (some ⟨b3, 0, none⟩) 2 2])
 rintro v6 w6 C6 j6 hu6 rfl
 refine zz 4 ?_
 refine zr' (v := .slice (some ⟨b3, 0, none⟩) (trimN ([x % 4294967296, x / 4294967296])) 2) ?_
 exact ⟨C6.upd, _, rfl, _, _, _, rfl, _, URow.limbs (hrow5.trimmed) (C6.get 0 rfl) (fun o h9 => Nat.not_lt.2 (C6.own_ge 0 rfl) (hX _ _ h9)), canon_trimmed _, by rw [val_trimmed]; simp only [val]; omega⟩
end Go.Proofs.YtppalofalmieaaaGreat
namespace Go.Proofs.YtppalofalmieaaaGreat
open Go Go.Gv Go.RowKit
set_option maxRecDepth 100000
set_option maxHeartbeats 1000000
theorem div5_lo (w : World) (X : Hid) (hX : ∀ k o, X k o → k < w.heap.size) (ad : Option Addr) (len cap : Nat) (l : List Nat) (h : Limbs (rd w X) ad len cap l) (ad2 : Option Addr) (len2 cap2 : Nat) (l2 : List Nat) (h2 : Limbs (rd w X) ad2 len2 cap2 l2) (hm : len ≤ 100000) (hm2 : len2 ≤ 100000) (hc1 : Canon l) (hc2 : Canon l2) (hd : 0 < val l2) (hlo : l.length < l2.length) : Calls Tryz.prog 116 #[.slice ad len cap, .slice ad2 len2 cap2] w (Ret E0 w fun w' v => ∃ u u2, v = .tuple #[u, u2] ∧ NatX X w' u (val l / val l2) ∧ NatX X w' u2 (val l % val l2)) := by
 obtain rfl := h.hlen
 obtain rfl := h2.hlen
 have hcap := h.hcap
 have hbig := h.hbig
 have hcap2 := h2.hcap
 have hbig2 := h2.hbig
 have hlo2 := lo_lt h.hlt hc2 hlo
 refine zen Tryz.func116 ?_
 have C0 : St E0 w X w X [] := St.start hX
 refine zz 13 ?_
 refine zw 14 (x := (l.length : Int) - (l2.length : Int)) ?_
 refine zz 1 ?_
 refine zs 15 (v := .int .i64 (IntKind.i64.wrap (((l.length : Int) - (l2.length : Int)) + 1))) (v' := .int .i64 ((l.length : Int) - (l2.length : Int) + 1)) (vint (wi64 (by omega) (by omega))) ?_
 refine zz 10 ?_
 refine zt 17 (p := ((l.length : Int) - (l2.length : Int) + 1) ≤ 0) (fun ht2 => ?_) (fun ht2 => ?_)
 ·
  refine zz 4 ?_
  refine zop (at1 [] Tryz.f116 [1, 1, 0, 1, 0, 0]) 1 (fun a3 _ G3 hz3 => op_nilL (e := 56) (i0 := Tryz.t56) G3 C0 h (by first | omega | (simp; omega)) ?_)
  intro ad4 cap4 w4 C4 j4 hL4 a5 G5
  refine hz3 G5 ?_
  refine zz 6 ?_
  refine zr' (v := .tuple #[.slice none 0 0, .slice ad4 l.length cap4]) ?_
  exact ⟨C4.upd, _, rfl, _, _, rfl, ⟨_, _, _, rfl, [], Limbs.nil none (by omega), .inl rfl, (Nat.div_eq_of_lt hlo2).symm⟩, ⟨_, _, _, rfl, l, (hL4).mono C4.le, hc1, (Nat.mod_eq_of_lt hlo2).symm⟩⟩
 omega
theorem div5_hi (w : World) (X : Hid) (hX : ∀ k o, X k o → k < w.heap.size) (ad : Option Addr) (len cap : Nat) (l : List Nat) (h : Limbs (rd w X) ad len cap l) (ad2 : Option Addr) (len2 cap2 : Nat) (l2 : List Nat) (h2 : Limbs (rd w X) ad2 len2 cap2 l2) (hm : len ≤ 100000) (hm2 : len2 ≤ 100000) (hc1 : Canon l) (hc2 : Canon l2) (hd : 0 < val l2) (N : Nat) (hN : l.length + 1 = N + l2.length) (h0 : 0 < N) : Calls Tryz.prog 116 #[.slice ad len cap, .slice ad2 len2 cap2] w (Ret E0 w fun w' v => ∃ u u2, v = .tuple #[u, u2] ∧ NatX X w' u (val l / val l2) ∧ NatX X w' u2 (val l % val l2)) := by
 obtain rfl := h.hlen
 obtain rfl := h2.hlen
 have hcap := h.hcap
 have hbig := h.hbig
 have hcap2 := h2.hcap
 have hbig2 := h2.hbig
 have hl2 := pos_len hd
 refine zen Tryz.func116 ?_
 have C0 : St E0 w X w X [] := St.start hX
 refine zz 13 ?_
 refine zw 14 (x := (l.length : Int) - (l2.length : Int)) ?_
 refine zz 1 ?_
 refine zs 15 (v := .int .i64 (IntKind.i64.wrap (((l.length : Int) - (l2.length : Int)) + 1))) (v' := .int .i64 (N : Int)) (vint ((wi64 (by omega) (by omega)).trans (by omega))) ?_
 refine zz 10 ?_
 refine zt 17 (p := (N : Int) ≤ 0) (fun ht2 => ?_) (fun ht2 => ?_)
 ·
  omega
 refine zz 6 ?_
 refine zop (at1 [] Tryz.f116 [1, 1, 1, 0]) 1 (fun a3 _ G3 hz3 => op_makeZ (l := (N : Int)) (e := 56) (z := .int .u32 0) (i0 := Tryz.t56) N 4 G3 C0 ?_)
 intro b4 w4 Y4 C4 j4 hu4 a5 G5
 have hrow4 := URow.zeros N (by simp only [maxLen]; omega)
 refine hz3 G5 ?_
 refine zz 7 ?_
 refine zop (at1 [] Tryz.f116 [1, 1, 1, 1, 0]) 2 (fun a6 _ G6 hz6 => zF (d := 24) (v := .slice (adF ad cap N) (l.length - N) (cap - N)) G6 kr (run_sliceFrom (t := 26) (e := 56) (ad := ad) (len := l.length) (cap := cap) (k := N) (kd := .i64) (g := false) rfl kr kr kr kr (by omega) _) ?_)
 intro a7 G7
 refine hz6 G7 ?_
 refine zop (at1 [] Tryz.f116 [1, 1, 1, 1, 0]) 3 (fun a8 _ G8 hz8 => op_nilL (e := 56) (i0 := Tryz.t56) G8 C4 ((h.drop (k := N) (by omega)).mono j4) (by first | omega | (simp; omega)) ?_)
 intro ad9 cap9 w9 C9 j9 hL9 a10 G10
 refine hz8 G10 ?_
 refine zc C9 (cut5_c _ _ C9.lt _ _ _ (l.drop N) hL9) ?_
 rintro v12 w12 C12 j12 hu12 rfl
 have hT13 := ((hL9.mono j12)).sub (trimN_le _ ((hL9.mono j12)).hlen)
 refine zz 8 ?_
 refine zw 28 (x := (32 : Int) * (N : Int)) ?_
 refine zz 1 ?_
 refine zs 29 (v := .int .i64 (IntKind.i64.wrap (((32 : Int) * (N : Int)) - 1))) (v' := .int .i64 (((32 * N : Nat) : Int) - 1)) (vint ((wi64 (by omega) (by omega)).trans (by omega))) ?_
 refine zz 4 ?_
 refine zlp Tryz.f116 [] [1, 1, 1, 1, 1, 0, 1, 0] (fun ((k, adr, lenr, capr) : Nat × (Option Addr) × Nat × Nat) => [(0, .slice ad l.length cap), (1, .slice ad2 l2.length cap2), (7, .slice (some ⟨b4, 0, none⟩) N N), (8, .slice adr lenr capr), (9, .int .i64 ((k : Int) - 1))]) (fun ((k, adr, lenr, capr) : Nat × (Option Addr) × Nat × Nat) w1 => ∃ (Y1 : Hid) (curq : Array Value) (lq : List Nat) (lr : List Nat) (q : Nat), St E0 w X w1 Y1 [(b4, .cells curq 56 (0, 0))] ∧ Le (rd w12 Y4) (rd w1 Y1) ∧ (URow N N curq lq) ∧ (Limbs (rd w1 Y1) adr lenr capr lr) ∧ (Canon lr) ∧ (val lq = 2 ^ k * q) ∧ (val l / 2 ^ k = q * val l2 + val lr) ∧ (val lr < val l2) ∧ (k ≤ 32 * N)) (fun ((k, adr, lenr, capr) : Nat × (Option Addr) × Nat × Nat) => k) ((32 * N), ad9, trimN (l.drop N), cap9) ?_ ?_
 ·
  refine ⟨_, (List.replicate N (Value.int .u32 0)).toArray, (List.replicate N 0), (Go.Gv.trimmed (l.drop N)), 0, C12, Le.refl _, hrow4, hT13, canon_trimmed _, by rw [val_replicate]; simp, by rw [Nat.zero_mul, Nat.zero_add, val_trimmed]; exact val_drop l h.hlt N (by omega), by rw [val_trimmed]; exact drop_lt h.hlt hc2 hd hN, Nat.le_refl _⟩
 rintro ⟨k, adr, lenr, capr⟩ w14 K14 H14 ⟨Y14, curq, lq, lr, q, C14, j14, hp14_0, hp14_1, hp14_2, hp14_3, hp14_4, hp14_5, hp14_6⟩
 have hrowq := hp14_0
 have hr := hp14_1
 have hcanr := hp14_2
 have hvq := hp14_3
 have hdiv := hp14_4
 have hlt := hp14_5
 have hkN := hp14_6
 have hrlen := hr.hlen
 have hrl := canon_len h2.hlt hcanr (Nat.le_of_lt hlt)
 obtain rfl := hrlen
 refine zz 7 ?_
 refine zt 31 (p := ((k : Int) - 1) ≥ 0) (fun ht15 => ?_) (fun ht15 => ?_)
 ·
  obtain ⟨i, rfl⟩ : ∃ i, k = i + 1 := ⟨k - 1, by omega⟩
  obtain ⟨b1, off1, rfl, _⟩ := h.addr (by omega)
  refine zz 9 ?_
  refine zc C14 (sum5_c _ _ C14.lt _ _ _ lr hr _ _ _ lr hr (by first | omega | (simp; done) | (simp; omega)) (by first | omega | (simp; done) | (simp; omega))) ?_
  rintro v17 w17 C17 j17 hu17 ⟨ad17, len17, cap17, rfl, ls17, hL17, hcan17, hval17⟩
  have hlen17 := hL17.hlen
  have hdl17 := canon_dbl hcan17 h2.hlt hlt (by omega)
  refine zz 8 ?_
  refine zs 38 (v := .int .i64 (((i + 1 : Nat) : Int) - 1)) (v' := .int .i64 (i : Int)) (vint (by omega)) ?_
  refine zz 1 ?_
  refine zs 39 (v := .int .i64 (IntKind.i64.wrap (Int.tdiv ((i : Int)) (32)))) (v' := .int .i64 ((i / 32 : Nat) : Int)) (vint (tdiv32 _ (by omega))) ?_
  refine zi (b := b1) (off := off1) (len := l.length) (cap := cap) (kd := .i64) (i := ((i / 32 : Nat) : Int)) 1 (off1 + i / 32) ?_
  have hc1_ := (Le4 j4 j9 j12 j14).trans j17
  refine zl ((h.cell (i := i / 32) (by omega)).mono hc1_).cells ?_
  refine zz 1 ?_
  refine zs 42 (v := .int .i64 (((i + 1 : Nat) : Int) - 1)) (v' := .int .i64 (i : Int)) (vint (by omega)) ?_
  refine zz 1 ?_
  refine zs 43 (v := .int .i64 (Int.tmod ((i : Int)) (32))) (v' := .int .i64 ((i % 32 : Nat) : Int)) (vint (tmod32 _)) ?_
  refine zz 1 ?_
  refine zs 44 (v := .int .u64 (IntKind.u64.wrap (((i % 32 : Nat) : Int)))) (v' := .int .u64 ((i % 32 : Nat) : Int)) (vint (wu64 (by omega) (by omega))) ?_
  refine zop (at1 [K14] Tryz.f116 [1, 1, 1, 1, 1, 0, 1, 0, 0, 1, 0, 0, 1, 0, 0]) 8 (fun a18 _ G18 hz18 => zF (d := 45) (v := .int .u32 ((l.getD (i / 32) 0 / 2 ^ (i % 32) : Nat) : Int)) G18 kr (run_shrK rfl rfl rfl (by omega)) ?_)
  intro a19 G19
  refine hz18 G19 ?_
  refine zz 1 ?_
  refine zs 46 (v := .int .u32 (Int.tmod (((l.getD (i / 32) 0 / 2 ^ (i % 32) : Nat) : Int)) (2))) (v' := .int .u32 (((val l / 2 ^ i % 2) : Nat) : Int)) (vint (by rw [← digit_limb l h.hlt i (by omega)]; rfl)) ?_
  refine zz 3 ?_
  refine zb 47 (b := ((((val l / 2 ^ i % 2) : Nat) : Int) == 1)) (fun hc20 => ?_) (fun hc20 => ?_)
  ·
   have ht21 : (((val l / 2 ^ i % 2) : Nat) : Int) = 1 := by simpa using hc20
   have hbit : val l / 2 ^ i % 2 = 1 := Int.ofNat_inj.1 ht21
   refine zz 3 ?_
   refine zn (fun b => .slice (some ⟨b, 0, none⟩) 1 1) (.cells #[.int .u32 1] 56 (0, 0)) C17 ?_
   intro b23 w23 Y23 C23 j23 hu23
   obtain ⟨hSx25, j25, hat25⟩ := St.publish C23 (C23.own_ge 0 rfl)
   have C25 : St E0 w X w23 (show_ b23 Y23) [(b4, .cells curq 56 (0, 0))] := hSx25
   have hL25 := one_at (x := 1) hat25 (by omega)
   refine zc C25 (sum5_c _ _ C25.lt _ _ _ ls17 (hL17.mono (Le2 j23 j25)) _ _ _ ([1]) hL25 (by first | omega | (simp; done) | (simp; omega)) (by first | omega | (simp; done) | (simp; omega))) ?_
   rintro v26 w26 C26 j26 hu26 ⟨ad26, len26, cap26, rfl, ls26, hL26, hcan26, hval26⟩
   have hlen26 := hL26.hlen
   have hv126 : val [1] = 1 := rfl
   have hdl26 := canon_dbl hcan26 h2.hlt hlt (by omega)
   refine zz 7 ?_
   have hc2_ := ((hc1_.trans j23).trans j25).trans j26
   refine zc C26 (order5_c _ _ C26.lt _ _ _ ls26 hL26 _ _ _ l2 (h2.mono hc2_) (by first | omega | (simp; done) | (simp; omega)) (by first | omega | (simp; done) | (simp; omega))) ?_
   rintro v28 w28 C28 j28 hu28 rfl
   refine zz 3 ?_
   refine zt 54 (p := (cmpI (val ls26) (val l2)) ≥ 0) (fun ht29 => ?_) (fun ht29 => ?_)
   ·
    have hcmp := cmpI_ge ht29
    obtain ⟨hset1, hset2, hset3⟩ := setbit lq hrowq.lt i q (by rw [hrowq.len]; omega) hvq
    refine zz 5 ?_
    have hc3_ := hc2_.trans j28
    refine zc C28 (diff5_c _ _ C28.lt _ _ _ ls26 (hL26.mono j28) _ _ _ l2 (h2.mono hc3_) (by first | omega | (simp; done) | (simp; omega)) (canon_len ((hL26.mono j28)).hlt hc2 hcmp) (by omega)) ?_
    rintro v31 w31 C31 j31 hu31 ⟨ad31, len31, cap31, rfl, ls31, hL31, hcan31, hval31⟩
    have hlen31 := hL31.hlen
    refine zz 6 ?_
    refine zs 59 (v := .int .i64 (((i + 1 : Nat) : Int) - 1)) (v' := .int .i64 (i : Int)) (vint (by omega)) ?_
    refine zz 1 ?_
    refine zs 60 (v := .int .i64 (IntKind.i64.wrap (Int.tdiv ((i : Int)) (32)))) (v' := .int .i64 ((i / 32 : Nat) : Int)) (vint (tdiv32 _ (by omega))) ?_
    refine zz 2 ?_
    refine zs 62 (v := .int .i64 (((i + 1 : Nat) : Int) - 1)) (v' := .int .i64 (i : Int)) (vint (by omega)) ?_
    refine zz 1 ?_
    refine zs 63 (v := .int .i64 (IntKind.i64.wrap (Int.tdiv ((i : Int)) (32)))) (v' := .int .i64 ((i / 32 : Nat) : Int)) (vint (tdiv32 _ (by omega))) ?_
    refine zi (b := b4) (off := 0) (len := N) (cap := N) (kd := .i64) (i := ((i / 32 : Nat) : Int)) 1 (i / 32) ?_
    refine zl (ad := ⟨b4, i / 32, none⟩) (C31.rowCells 0 rfl hrowq (by have := hrowq.len; (try simp only [List.length_set] at *); omega)) ?_
    refine zz 1 ?_
    refine zs 66 (v := .int .i64 (((i + 1 : Nat) : Int) - 1)) (v' := .int .i64 (i : Int)) (vint (by omega)) ?_
    refine zz 1 ?_
    refine zs 67 (v := .int .i64 (Int.tmod ((i : Int)) (32))) (v' := .int .i64 ((i % 32 : Nat) : Int)) (vint (tmod32 _)) ?_
    refine zz 1 ?_
    refine zs 68 (v := .int .u64 (IntKind.u64.wrap (((i % 32 : Nat) : Int)))) (v' := .int .u64 ((i % 32 : Nat) : Int)) (vint (wu64 (by omega) (by omega))) ?_
    refine zop (at1 [K14] Tryz.f116 [1, 1, 1, 1, 1, 0, 1, 0, 0, 1, 0, 0, 1, 1, 1, 0, 1]) 11 (fun a32 _ G32 hz32 => zF (d := 69) (v := .int .u32 ((2 ^ (i % 32) : Nat) : Int)) G32 kr (run_shl1K rfl rfl rfl (by omega)) ?_)
    intro a33 G33
    refine hz32 G33 ?_
    refine zz 1 ?_
    refine zs 70 (v := .int .u32 (bor32 ((lq.getD (i / 32) 0 : Nat) : Int) ((2 ^ (i % 32) : Nat) : Int))) (v' := .int .u32 ((lq.getD (i / 32) 0 + 2 ^ (i % 32) : Nat) : Int)) (vint hset1) ?_
    refine zi (b := b4) (off := 0) (len := N) (cap := N) (kd := .i64) (i := ((i / 32 : Nat) : Int)) 1 (i / 32) ?_
    refine zop (at1 [K14] Tryz.f116 [1, 1, 1, 1, 1, 0, 1, 0, 0, 1, 0, 0, 1, 1, 1, 0, 1]) 14 (fun a34 _ G34 hz34 => op_storeUZ (y := (lq.getD (i / 32) 0 + 2 ^ (i % 32))) (k := i / 32) (e := ((lq.getD (i / 32) 0 + 2 ^ (i % 32) : Nat) : Int)) 0 G34 C31 (rfl) rfl hrowq (by have := hrowq.len; (try simp only [List.length_set] at *); omega) (hset2) ?_)
    intro cur35 w35 hrow35 C35 j35
    refine hz34 G34 ?_
    refine zz 6 ?_
    refine zs 33 (v := .int .i64 (IntKind.i64.wrap ((((i + 1 : Nat) : Int) - 1) - 1))) (v' := .int .i64 ((i : Int) - 1)) (vint ((wi64 (by omega) (by omega)).trans (by omega))) ?_
    refine zz 2 ?_
    have hc4_ := (Le7 j14 j17 j23 j25 j26 j28 j31).trans j35
    refine znext (fun a h => H14 ((i, ad31, len31, cap31)) _ a h ⟨_, cur35, (lq.set (i / 32) (lq.getD (i / 32) 0 + 2 ^ (i % 32))), ls31, (2 * q + 1), C35, hc4_, hrow35, (hL31.mono j35), hcan31, by rw [hset3, hvq, Nat.pow_succ, Nat.mul_add, Nat.mul_one]; congr 1; ac_rfl, divA hdiv (by rw [hbit]; omega) (by rw [hbit]; omega), by omega, by omega⟩ ?_)
    first | omega | (simp <;> omega)
   have hcmp := cmpI_nge ht29
   refine zz 7 ?_
   refine zs 33 (v := .int .i64 (IntKind.i64.wrap ((((i + 1 : Nat) : Int) - 1) - 1))) (v' := .int .i64 ((i : Int) - 1)) (vint ((wi64 (by omega) (by omega)).trans (by omega))) ?_
   refine zz 2 ?_
   have hc5_ := (Le5 j14 j17 j23 j25 j26).trans j28
   refine znext (fun a h => H14 ((i, ad26, len26, cap26)) _ a h ⟨_, curq, lq, ls26, (2 * q), C28, hc5_, hrowq, (hL26.mono j28), hcan26, by rw [hvq, Nat.pow_succ]; ac_rfl, divB hdiv (by rw [hbit]; omega), by omega, by omega⟩ ?_)
   first | omega | (simp <;> omega)
  have ht36 : (((val l / 2 ^ i % 2) : Nat) : Int) ≠ 1 := by simpa using hc20
  have hbit : val l / 2 ^ i % 2 = 0 := (Nat.mod_two_eq_zero_or_one _).resolve_right (fun e => ht36 (congrArg (fun x : Nat => (x : Int)) e))
  refine zz 7 ?_
  refine zc C17 (order5_c _ _ C17.lt _ _ _ ls17 hL17 _ _ _ l2 (h2.mono hc1_) (by first | omega | (simp; done) | (simp; omega)) (by first | omega | (simp; done) | (simp; omega))) ?_
  rintro v38 w38 C38 j38 hu38 rfl
  refine zz 3 ?_
  refine zt 54 (p := (cmpI (val ls17) (val l2)) ≥ 0) (fun ht39 => ?_) (fun ht39 => ?_)
  ·
   have hcmp := cmpI_ge ht39
   obtain ⟨hset1, hset2, hset3⟩ := setbit lq hrowq.lt i q (by rw [hrowq.len]; omega) hvq
   refine zz 5 ?_
   have hc6_ := hc1_.trans j38
   refine zc C38 (diff5_c _ _ C38.lt _ _ _ ls17 (hL17.mono j38) _ _ _ l2 (h2.mono hc6_) (by first | omega | (simp; done) | (simp; omega)) (canon_len ((hL17.mono j38)).hlt hc2 hcmp) (by omega)) ?_
   rintro v41 w41 C41 j41 hu41 ⟨ad41, len41, cap41, rfl, ls41, hL41, hcan41, hval41⟩
   have hlen41 := hL41.hlen
   refine zz 6 ?_
   refine zs 59 (v := .int .i64 (((i + 1 : Nat) : Int) - 1)) (v' := .int .i64 (i : Int)) (vint (by omega)) ?_
   refine zz 1 ?_
   refine zs 60 (v := .int .i64 (IntKind.i64.wrap (Int.tdiv ((i : Int)) (32)))) (v' := .int .i64 ((i / 32 : Nat) : Int)) (vint (tdiv32 _ (by omega))) ?_
   refine zz 2 ?_
   refine zs 62 (v := .int .i64 (((i + 1 : Nat) : Int) - 1)) (v' := .int .i64 (i : Int)) (vint (by omega)) ?_
   refine zz 1 ?_
   refine zs 63 (v := .int .i64 (IntKind.i64.wrap (Int.tdiv ((i : Int)) (32)))) (v' := .int .i64 ((i / 32 : Nat) : Int)) (vint (tdiv32 _ (by omega))) ?_
   refine zi (b := b4) (off := 0) (len := N) (cap := N) (kd := .i64) (i := ((i / 32 : Nat) : Int)) 1 (i / 32) ?_
   refine zl (ad := ⟨b4, i / 32, none⟩) (C41.rowCells 0 rfl hrowq (by have := hrowq.len; (try simp only [List.length_set] at *); omega)) ?_
   refine zz 1 ?_
   refine zs 66 (v := .int .i64 (((i + 1 : Nat) : Int) - 1)) (v' := .int .i64 (i : Int)) (vint (by omega)) ?_
   refine zz 1 ?_
   refine zs 67 (v := .int .i64 (Int.tmod ((i : Int)) (32))) (v' := .int .i64 ((i % 32 : Nat) : Int)) (vint (tmod32 _)) ?_
   refine zz 1 ?_
   refine zs 68 (v := .int .u64 (IntKind.u64.wrap (((i % 32 : Nat) : Int)))) (v' := .int .u64 ((i % 32 : Nat) : Int)) (vint (wu64 (by omega) (by omega))) ?_
   refine zop (at1 [K14] Tryz.f116 [1, 1, 1, 1, 1, 0, 1, 0, 0, 1, 0, 0, 1, 1, 1, 0, 1]) 11 (fun a42 _ G42 hz42 => zF (d := 69) (v := .int .u32 ((2 ^ (i % 32) : Nat) : Int)) G42 kr (run_shl1K rfl rfl rfl (by omega)) ?_)
   intro a43 G43
   refine hz42 G43 ?_
   refine zz 1 ?_
   refine zs 70 (v := .int .u32 (bor32 ((lq.getD (i / 32) 0 : Nat) : Int) ((2 ^ (i % 32) : Nat) : Int))) (v' := .int .u32 ((lq.getD (i / 32) 0 + 2 ^ (i % 32) : Nat) : Int)) (vint hset1) ?_
   refine zi (b := b4) (off := 0) (len := N) (cap := N) (kd := .i64) (i := ((i / 32 : Nat) : Int)) 1 (i / 32) ?_
   refine zop (at1 [K14] Tryz.f116 [1, 1, 1, 1, 1, 0, 1, 0, 0, 1, 0, 0, 1, 1, 1, 0, 1]) 14 (fun a44 _ G44 hz44 => op_storeUZ (y := (lq.getD (i / 32) 0 + 2 ^ (i % 32))) (k := i / 32) (e := ((lq.getD (i / 32) 0 + 2 ^ (i % 32) : Nat) : Int)) 0 G44 C41 (rfl) rfl hrowq (by have := hrowq.len; (try simp only [List.length_set] at *); omega) (hset2) ?_)
   intro cur45 w45 hrow45 C45 j45
   refine hz44 G44 ?_
   refine zz 6 ?_
   refine zs 33 (v := .int .i64 (IntKind.i64.wrap ((((i + 1 : Nat) : Int) - 1) - 1))) (v' := .int .i64 ((i : Int) - 1)) (vint ((wi64 (by omega) (by omega)).trans (by omega))) ?_
   refine zz 2 ?_
   have hc7_ := (Le4 j14 j17 j38 j41).trans j45
   refine znext (fun a h => H14 ((i, ad41, len41, cap41)) _ a h ⟨_, cur45, (lq.set (i / 32) (lq.getD (i / 32) 0 + 2 ^ (i % 32))), ls41, (2 * q + 1), C45, hc7_, hrow45, (hL41.mono j45), hcan41, by rw [hset3, hvq, Nat.pow_succ, Nat.mul_add, Nat.mul_one]; congr 1; ac_rfl, divA hdiv (by rw [hbit]; omega) (by rw [hbit]; omega), by omega, by omega⟩ ?_)
   first | omega | (simp <;> omega)
  have hcmp := cmpI_nge ht39
  refine zz 7 ?_
  refine zs 33 (v := .int .i64 (IntKind.i64.wrap ((((i + 1 : Nat) : Int) - 1) - 1))) (v' := .int .i64 ((i : Int) - 1)) (vint ((wi64 (by omega) (by omega)).trans (by omega))) ?_
  refine zz 2 ?_
  refine znext (fun a h => H14 ((i, ad17, len17, cap17)) _ a h ⟨_, curq, lq, ls17, (2 * q), C38, (Le3 j14 j17 j38), hrowq, (hL17.mono j38), hcan17, by rw [hvq, Nat.pow_succ]; ac_rfl, divB hdiv (by rw [hbit]; omega), by omega, by omega⟩ ?_)
  first | omega | (simp <;> omega)
 obtain rfl : k = 0 := by omega
 obtain ⟨he1, he2⟩ := divEnd hdiv hlt hvq
 refine zz 9 ?_
 refine zc C14 (cut5_c _ X0 (X0_lt _) _ _ _ lq (URow.limbs (Y := X0) hrowq (C14.get 0 rfl) (fun _ h => h.elim))) ?_ (vs := #[.slice (some ⟨b4, 0, none⟩) N N])
 rintro v47 w47 C47 j47 hu47 rfl
 refine zz 6 ?_
 refine zr' (v := .tuple #[.slice (some ⟨b4, 0, none⟩) (trimN lq) N, .slice adr lr.length capr]) ?_
 exact ⟨C47.upd, _, rfl, _, _, rfl, ⟨_, _, _, rfl, _, URow.limbs (hrowq.trimmed) (C47.get 0 rfl) (fun o h9 => Nat.not_lt.2 (C47.own_ge 0 rfl) (hX _ _ h9)), canon_trimmed _, by rw [val_trimmed]; exact he1⟩, ⟨_, _, _, rfl, lr, ((hr.mono j47)).mono C47.le, hcanr, he2⟩⟩
end Go.Proofs.YtppalofalmieaaaGreat
namespace Go.Proofs.YtppalofalmieaaaGreat
open Go Go.Gv Go.RowKit
set_option maxRecDepth 100000
set_option maxHeartbeats 1000000
theorem div5_c (w : World) (X : Hid) (hX : ∀ k o, X k o → k < w.heap.size) (ad : Option Addr) (len cap : Nat) (l : List Nat) (h : Limbs (rd w X) ad len cap l) (ad2 : Option Addr) (len2 cap2 : Nat) (l2 : List Nat) (h2 : Limbs (rd w X) ad2 len2 cap2 l2) (hm : len ≤ 100000) (hm2 : len2 ≤ 100000) (hc1 : Canon l) (hc2 : Canon l2) (hd : 0 < val l2)  : Calls Tryz.prog 116 #[.slice ad len cap, .slice ad2 len2 cap2] w (Ret E0 w fun w' v => ∃ u u2, v = .tuple #[u, u2] ∧ NatX X w' u (val l / val l2) ∧ NatX X w' u2 (val l % val l2)) := by
  rcases Nat.lt_or_ge l.length l2.length with h9 | h9
  · exact div5_lo w X hX ad len cap l h ad2 len2 cap2 l2 h2 hm hm2 hc1 hc2 hd h9
  · exact div5_hi w X hX ad len cap l h ad2 len2 cap2 l2 h2 hm hm2 hc1 hc2 hd (l.length + 1 - l2.length) (by omega) (by omega)
theorem canon_mod {x lr l2 : List Nat} (hc : Canon lr) (h2 : ∀ y ∈ l2, y < 4294967296) (h0 : 0 < val l2) (h : val lr = val x % val l2) : lr.length ≤ l2.length := canon_len h2 hc (by rw [h]; exact Nat.le_of_lt (Nat.mod_lt _ h0))
theorem canon_pos {l : List Nat} (hc : Canon l) (h : 0 < l.length) : 0 < val l := by
  have := canon_len0 hc
  omega
theorem gcd5_c (w : World) (X : Hid) (hX : ∀ k o, X k o → k < w.heap.size) (ad : Option Addr) (len cap : Nat) (l : List Nat) (h : Limbs (rd w X) ad len cap l) (ad2 : Option Addr) (len2 cap2 : Nat) (l2 : List Nat) (h2 : Limbs (rd w X) ad2 len2 cap2 l2) (hm : len ≤ 100000) (hm2 : len2 ≤ 100000) (hc1 : Canon l) (hc2 : Canon l2) : Calls Tryz.prog 115 #[.slice ad len cap, .slice ad2 len2 cap2] w (Ret E0 w fun w' v => NatX X w' v (Nat.gcd (val l) (val l2))) := by
 obtain rfl := h.hlen
 obtain rfl := h2.hlen
 have hcap := h.hcap
 have hbig := h.hbig
 have hcap2 := h2.hcap
 have hbig2 := h2.hbig
 refine zen Tryz.func115 ?_
 have C0 : St E0 w X w X [] := St.start hX
 refine zz 7 ?_
 refine zlp Tryz.f115 [] [1, 0, 0] (fun ((lb, ad8, la, cap8, ad9, cap9) : List Nat × (Option Addr) × (List Nat) × Nat × (Option Addr) × Nat) => [(0, .slice ad8 la.length cap8), (1, .slice ad9 lb.length cap9)]) (fun ((lb, ad8, la, cap8, ad9, cap9) : List Nat × (Option Addr) × (List Nat) × Nat × (Option Addr) × Nat) w1 => ∃ (Y1 : Hid), St E0 w X w1 Y1 [] ∧ Le (rd w X) (rd w1 Y1) ∧ (Limbs (rd w1 Y1) ad8 la.length cap8 la) ∧ (Limbs (rd w1 Y1) ad9 lb.length cap9 lb) ∧ (Canon la) ∧ (Canon lb) ∧ (la.length ≤ 100000) ∧ (lb.length ≤ 100000) ∧ (Nat.gcd (val la) (val lb) = Nat.gcd (val l) (val l2))) (fun ((lb, ad8, la, cap8, ad9, cap9) : List Nat × (Option Addr) × (List Nat) × Nat × (Option Addr) × Nat) => val lb) (l2, ad, l, cap, ad2, cap2) ?_ ?_
 ·
  refine ⟨_, C0, Le.refl _, h, h2, hc1, hc2, hm, hm2, rfl⟩
 rintro ⟨lb, ad8, la, cap8, ad9, cap9⟩ w2 K2 H2 ⟨Y2, C2, j2, hp2_0, hp2_1, hp2_2, hp2_3, hp2_4, hp2_5, hp2_6⟩
 have ha := hp2_0
 have hb := hp2_1
 have hca := hp2_2
 have hcb := hp2_3
 have hla := hp2_4
 have hlb := hp2_5
 have hg := hp2_6
 refine zz 8 ?_
 refine zt 9 (p := (lb.length : Int) > 0) (fun ht3 => ?_) (fun ht3 => ?_)
 ·
  have hpos := canon_pos hcb (by omega)
  refine zz 8 ?_
  refine zc C2 (div5_c _ _ C2.lt _ _ _ la ha _ _ _ lb hb (by first | omega | (simp; done) | (simp; omega)) (by first | omega | (simp; done) | (simp; omega)) hca hcb hpos) ?_
  rintro v5 w5 C5 j5 hu5 ⟨_, _, rfl, ⟨ad5, len5, cap5, rfl, ls5, hL5, hcan5, hval5⟩, ⟨ae5, le5, ce5, rfl, lr5, hM5, hcam5, hvam5⟩⟩
  obtain rfl := hL5.hlen
  obtain rfl := hM5.hlen
  refine zz 14 ?_
  have hmod := canon_mod hcam5 hb.hlt hpos hvam5
  have hml := Nat.mod_lt (val la) hpos
  refine znext (fun a h => H2 ((lr5, ad9, lb, cap9, ae5, ce5)) _ a h ⟨_, C5, (Le2 j2 j5), (hb.mono j5), hM5, hcb, hcam5, hlb, by omega, by rw [hvam5, ← hg]; exact (Nat.gcd_comm _ _).trans ((Nat.gcd_rec (val lb) (val la)).symm.trans (Nat.gcd_comm _ _))⟩ ?_)
  first | omega | (simp <;> omega)
 have hz : val lb = 0 := by rw [List.eq_nil_of_length_eq_zero (l := lb) (by omega)]; rfl
 rw [hz, Nat.gcd_zero_right] at hg
 refine zz 9 ?_
 refine zop (at1 [K2] Tryz.f115 [1, 1, 0]) 1 (fun a6 _ G6 hz6 => op_nilL (e := 56) (i0 := Tryz.t56) G6 C2 ha (by first | omega | (simp; omega)) ?_)
 intro ad7 cap7 w7 C7 j7 hL7 a8 G8
 refine hz6 G8 ?_
 refine zz 4 ?_
 refine zr' (v := .slice ad7 la.length cap7) ?_
 exact ⟨C7.upd, _, rfl, _, _, _, rfl, _, (hL7).mono C7.le, hca, hg⟩
end Go.Proofs.YtppalofalmieaaaGreat
namespace Go.Proofs.YtppalofalmieaaaGreat
open Go Go.Gv Go.RowKit
set_option maxRecDepth 100000
set_option maxHeartbeats 1000000
theorem one6_c (w : World) (X : Hid) (hX : ∀ k o, X k o → k < w.heap.size) : Calls Tryz.prog 86 #[] w (Ret E0 w fun w' v => ∃ ad cap, v = .slice ad 1 cap ∧ Limbs (rd w' X) ad 1 cap [1]) := by
 refine zen Tryz.func86 ?_
 have C0 : St E0 w X w X [] := St.start hX
 refine zz 7 ?_
 refine zn (fun b => .slice (some ⟨b, 0, none⟩) 1 1) (.cells #[.int .u32 1] 56 (0, 0)) C0 ?_
 intro b3 w3 Y3 C3 j3 hu3
 refine zz 4 ?_
 refine zr' (v := .slice (some ⟨b3, 0, none⟩) 1 1) ?_
 have hrow4 : URow 1 1 #[.int .u32 1] [1] := URow.of [1] (by simp) (by simp [maxLen]) (by simp [U32]) (by simp)
 exact ⟨C3.upd, _, rfl, _, _, rfl, URow.limbs hrow4 (C3.get 0 rfl) (fun o h9 => Nat.not_lt.2 (C3.own_ge 0 rfl) (hX _ _ h9))⟩
theorem canon_one : Canon [1] := .inr (by decide)
/-- The limbs of a denominator. -/
def denL (l : List Nat) : List Nat := if l.length = 0 then [1] else l
theorem denL_pos {l : List Nat} (h : ¬ (l.length : Int) = 0) : denL l = l := if_neg (by omega)
theorem denL_nil {l : List Nat} (h : (l.length : Int) = 0) : denL l = [1] := if_pos (by omega)
theorem denL_canon {l : List Nat} (h : Canon l) : Canon (denL l) := by unfold denL; split; exact canon_one; exact h
theorem denL_le {l : List Nat} {k : Nat} (h : l.length ≤ k) (h0 : 0 < k) : (denL l).length ≤ k := by unfold denL; split; exact h0; exact h
theorem denL_val (a : Raw) (h : Canon a.ld) : val (denL a.ld) = a.d := by
  have h1 := canon_len0 h
  unfold denL Raw.d
  by_cases h2 : a.ld.length = 0
  · rw [if_pos h2, if_pos (h1.1 h2)]; rfl
  · rw [if_neg h2, if_neg (fun e => h2 (h1.2 e))]
theorem den6_c (w : World) (X : Hid) (hX : ∀ k o, X k o → k < w.heap.size) (a : Raw) (ad : Option Addr) (len cap : Nat) (h : Limbs (rd w X) ad len cap a.ln) (ad2 : Option Addr) (len2 cap2 : Nat) (h2 : Limbs (rd w X) ad2 len2 cap2 a.ld) : Calls Tryz.prog 136 #[.agg #[.bool a.neg, .slice ad len cap, .slice ad2 len2 cap2]] w (Ret E0 w fun w' v => ∃ ad len cap, v = .slice ad len cap ∧ Limbs (rd w' X) ad len cap (denL a.ld)) := by
 obtain rfl := h.hlen
 obtain rfl := h2.hlen
 have hcap := h.hcap
 have hbig := h.hbig
 have hcap2 := h2.hcap
 have hbig2 := h2.hbig
 refine zen Tryz.func136 ?_
 have C0 : St E0 w X w X [] := St.start hX
 refine zz 2 ?_
 refine zn pn (.cells #[.bool a.neg, .slice ad a.ln.length cap, .slice ad2 a.ld.length cap2] 28 (0, 0)) C0 ?_
 intro b3 w3 Y3 C3 j3 hu3
 refine zz 7 ?_
 refine zo 0 C3 ?_
 refine zz 4 ?_
 refine zb 6 (b := ((a.ld.length : Int) == 0)) (fun hc4 => ?_) (fun hc4 => ?_)
 ·
  have ht5 : (a.ld.length : Int) = 0 := by simpa using hc4
  refine zz 3 ?_
  refine zc C3 (one6_c _ _ C3.lt) ?_
  rintro v7 w7 C7 j7 hu7 ⟨ad7, cap7, rfl, hL7⟩
  refine zz 5 ?_
  refine zr' (v := .slice ad7 1 cap7) ?_
  exact ⟨C7.upd, _, rfl, _, _, _, rfl, by rw [denL_nil ht5]; exact (hL7).mono C7.le⟩
 have ht8 : (a.ld.length : Int) ≠ 0 := by simpa using hc4
 refine zz 6 ?_
 refine zo 0 C3 ?_
 refine zz 4 ?_
 refine zr' (v := .slice ad2 a.ld.length cap2) ?_
 exact ⟨C3.upd, _, rfl, _, _, _, rfl, by rw [denL_pos ht8]; exact ((h2.mono j3)).mono C3.le⟩
end Go.Proofs.YtppalofalmieaaaGreat
namespace Go.Proofs.YtppalofalmieaaaGreat
open Go Go.Gv Go.RowKit
set_option maxRecDepth 100000
set_option maxHeartbeats 1000000
theorem one_iff {l : List Nat} (hl : ∀ x ∈ l, x < 4294967296) (hc : Canon l) : l = [1] ↔ val l = 1 :=
  ⟨fun h => by rw [h]; rfl, fun h => canon_inj hl (by intro x hx; simp at hx; omega) hc canon_one (h.trans rfl)⟩
theorem mk6_c (w : World) (X : Hid) (hX : ∀ k o, X k o → k < w.heap.size) (ad : Option Addr) (len cap : Nat) (l : List Nat) (h : Limbs (rd w X) ad len cap l) (ad2 : Option Addr) (len2 cap2 : Nat) (l2 : List Nat) (h2 : Limbs (rd w X) ad2 len2 cap2 l2) (sg : Bool) (hm : len ≤ 100000) (hm2 : len2 ≤ 100000) (hc1 : Canon l) (hc2 : Canon l2) (hd : 0 < val l2) : Calls Tryz.prog 84 #[.bool sg, .slice ad len cap, .slice ad2 len2 cap2] w (Ret E0 w fun w' v => RatX X w' v (mkRat (sgn sg (val l)) (val l2))) := by
 obtain rfl := h.hlen
 obtain rfl := h2.hlen
 have hcap := h.hcap
 have hbig := h.hbig
 have hcap2 := h2.hcap
 have hbig2 := h2.hbig
 refine zen Tryz.func84 ?_
 have C0 : St E0 w X w X [] := St.start hX
 refine zz 2 ?_
 refine zn pn (.cells #[.bool false, .slice none 0 0, .slice none 0 0] 28 (0, 0)) C0 ?_
 intro b3 w3 Y3 C3 j3 hu3
 refine zz 10 ?_
 refine zb 10 (b := ((l.length : Int) == 0)) (fun hc4 => ?_) (fun hc4 => ?_)
 ·
  have ht5 : (l.length : Int) = 0 := by simpa using hc4
  refine zz 4 ?_
  refine zx 0 #[.bool false, .slice none 0 0, .slice none 0 0] C3 ?_
  intro w6 C6 j6
  refine zz 4 ?_
  refine zrS [.cell 6 28] (v := .agg #[.bool false, .slice none 0 0, .slice none 0 0]) (Res.cM C6 0 Res.nil) ?_
  exact ⟨C6.upd, _, rfl, by rw [(canon_len0 hc1).1 (by omega)]; exact zero_rat _⟩
 have ht7 : (l.length : Int) ≠ 0 := by simpa using hc4
 refine zz 7 ?_
 refine zc C3 (gcd5_c _ _ C3.lt _ _ _ l (h.mono j3) _ _ _ l2 (h2.mono j3) (by first | omega | (simp; done) | (simp; omega)) (by first | omega | (simp; done) | (simp; omega)) hc1 hc2) ?_
 rintro v9 w9 C9 j9 hu9 ⟨ad9, len9, cap9, rfl, ls9, hL9, hcan9, hval9⟩
 obtain rfl := hL9.hlen
 have hgp : 0 < val ls9 := by rw [hval9]; exact Nat.gcd_pos_of_pos_right _ hd
 have hgl := canon_len h2.hlt hcan9 (by rw [hval9]; exact Nat.gcd_le_right _ hd)
 refine zz 7 ?_
 refine zc C9 (div5_c _ _ C9.lt _ _ _ l (h.mono (Le2 j3 j9)) _ _ _ ls9 hL9 (by first | omega | (simp; done) | (simp; omega)) (by first | omega | (simp; done) | (simp; omega)) hc1 hcan9 hgp) ?_
 rintro v11 w11 C11 j11 hu11 ⟨_, _, rfl, ⟨ad11, len11, cap11, rfl, ls11, hL11, hcan11, hval11⟩, ⟨ae11, le11, ce11, rfl, lr11, hM11, hcam11, hvam11⟩⟩
 obtain rfl := hL11.hlen
 obtain rfl := hM11.hlen
 have hql11 := canon_pow hcan11 (k := 100000) (Nat.lt_of_le_of_lt (hval11 ▸ Nat.div_le_self _ _) ((canon_le_iff h.hlt hc1 100000).1 (by omega)))
 refine zz 10 ?_
 refine zc C11 (div5_c _ _ C11.lt _ _ _ l2 (h2.mono (Le3 j3 j9 j11)) _ _ _ ls9 (hL9.mono j11) (by first | omega | (simp; done) | (simp; omega)) (by first | omega | (simp; done) | (simp; omega)) hc2 hcan9 hgp) ?_
 rintro v13 w13 C13 j13 hu13 ⟨_, _, rfl, ⟨ad13, len13, cap13, rfl, ls13, hL13, hcan13, hval13⟩, ⟨ae13, le13, ce13, rfl, lr13, hM13, hcam13, hvam13⟩⟩
 obtain rfl := hL13.hlen
 obtain rfl := hM13.hlen
 have hql13 := canon_pow hcan13 (k := 100000) (Nat.lt_of_le_of_lt (hval13 ▸ Nat.div_le_self _ _) ((canon_le_iff h2.hlt hc2 100000).1 (by omega)))
 refine zz 10 ?_
 refine zc C13 (one6_c _ _ C13.lt) ?_
 rintro v15 w15 C15 j15 hu15 ⟨ad15, cap15, rfl, hL15⟩
 refine zc C15 (EqualNat_c _ _ C15.lt _ _ _ _ (hL13.mono j15) _ _ _ _ hL15) ?_
 rintro v17 w17 C17 j17 hu17 rfl
 refine zz 2 ?_
 refine zb 29 (b := (decide (ls13 = [1]))) (fun hc18 => ?_) (fun hc18 => ?_)
 ·
  have ht19 : ls13 = [1] := of_decide_eq_true hc18
  refine zz 11 ?_
  refine zx 0 #[.bool sg, .slice ad11 ls11.length cap11, .slice none 0 0] C17 ?_
  intro w20 C20 j20
  refine zz 3 ?_
  refine zrS [.cell 6 28] (v := .agg #[.bool sg, .slice ad11 ls11.length cap11, .slice none 0 0]) (Res.cM C20 0 Res.nil) ?_
  have hn0 : val l ≠ 0 := fun e => ht7 (by have := (canon_len0 hc1).2 e; omega)
  have hc1_ := (Le3 j13 j15 j17).trans j20
  exact ⟨C20.upd, _, rfl, low_rat hn0 hd ⟨ls11, ((hL11.mono hc1_)).mono C20.le, hcan11, by rw [← hval9]; exact hval11⟩ (by rw [← hval9, ← hval13, (one_iff hL13.hlt hcan13).1 (by simpa using ht19)]; exact NatR.nil none (by omega))⟩
 have ht21 : ¬ (ls13 = [1]) := of_decide_eq_false hc18
 refine zz 9 ?_
 refine zx 0 #[.bool sg, .slice ad11 ls11.length cap11, .slice ad13 ls13.length cap13] C17 ?_
 intro w22 C22 j22
 refine zz 3 ?_
 refine zrS [.cell 6 28] (v := .agg #[.bool sg, .slice ad11 ls11.length cap11, .slice ad13 ls13.length cap13]) (Res.cM C22 0 Res.nil) ?_
 have hn0 : val l ≠ 0 := fun e => ht7 (by have := (canon_len0 hc1).2 e; omega)
 have hc2_ := (Le3 j13 j15 j17).trans j22
 exact ⟨C22.upd, _, rfl, low_rat hn0 hd ⟨ls11, ((hL11.mono hc2_)).mono C22.le, hcan11, by rw [← hval9]; exact hval11⟩ (by rw [← hval9, ← hval13, den1, if_neg (fun e => by have := (one_iff hL13.hlt hcan13).2 e; simp [this] at ht21)]; exact ⟨ls13, ((hL13.mono (Le3 j15 j17 j22))).mono C22.le, hcan13, rfl⟩)⟩
end Go.Proofs.YtppalofalmieaaaGreat
namespace Go.Proofs.YtppalofalmieaaaGreat
open Go Go.Gv Go.RowKit
set_option maxRecDepth 100000
set_option maxHeartbeats 1000000
theorem rcheck6_c (w : World) (X : Hid) (hX : ∀ k o, X k o → k < w.heap.size) (a : Raw) (ad : Option Addr) (len cap : Nat) (h : Limbs (rd w X) ad len cap a.ln) (ad2 : Option Addr) (len2 cap2 : Nat) (h2 : Limbs (rd w X) ad2 len2 cap2 a.ld) : Calls Tryz.prog 112 #[.agg #[.bool a.neg, .slice ad len cap, .slice ad2 len2 cap2]] w (Ret E0 w fun _ v => v = .int .i64 a.chk) := by
 obtain rfl := h.hlen
 obtain rfl := h2.hlen
 have hcap := h.hcap
 have hbig := h.hbig
 have hcap2 := h2.hcap
 have hbig2 := h2.hbig
 refine zen Tryz.func112 ?_
 have C0 : St E0 w X w X [] := St.start hX
 refine zz 2 ?_
 refine zn pn (.cells #[.bool a.neg, .slice ad a.ln.length cap, .slice ad2 a.ld.length cap2] 28 (0, 0)) C0 ?_
 intro b3 w3 Y3 C3 j3 hu3
 refine zz 7 ?_
 refine zo 0 C3 ?_
 refine zz 3 ?_
 refine zt 7 (p := (a.ln.length : Int) > 128) (fun ht4 => ?_) (fun ht4 => ?_)
 ·
  refine zz 15 ?_
  refine zr' (v := .int .i64 4) ?_
  exact ⟨C3.upd, _, rfl, vint (chk_4 (by omega)).symm⟩
 refine zz 1 ?_
 refine zo 0 C3 ?_
 refine zz 5 ?_
 refine zt 12 (p := (a.ld.length : Int) > 128) (fun ht5 => ?_) (fun ht5 => ?_)
 ·
  refine zz 8 ?_
  refine zr' (v := .int .i64 4) ?_
  exact ⟨C3.upd, _, rfl, vint (chk_4 (by omega)).symm⟩
 have hlong : ¬ (128 < a.ln.length ∨ 128 < a.ld.length) := by omega
 refine zz 7 ?_
 refine zo 0 C3 ?_
 refine zc C3 (check5_c _ X0 (X0_lt _) _ _ _ a.ln ((h.mono j3).mono Le.x0)) ?_
 rintro v7 w7 C7 j7 hu7 rfl
 refine zz 2 ?_
 refine zb 17 (b := ((chkN a.ln) != 0)) (fun hc8 => ?_) (fun hc8 => ?_)
 ·
  have ht9 : (chkN a.ln) ≠ 0 := by simpa using hc8
  refine zz 15 ?_
  refine zr' (v := .int .i64 2) ?_
  exact ⟨C7.upd, _, rfl, vint (chk_2 hlong (.inl (by simpa using ht9))).symm⟩
 have ht10 : (chkN a.ln) = 0 := by simpa using hc8
 have cn : chkN a.ln = 0 := by simpa using ht10
 have hcn := (chkN_ok cn).2
 have hzn := canon_len0 hcn
 refine zz 1 ?_
 refine zo 0 C7 ?_
 refine zc C7 (check5_c _ X0 (X0_lt _) _ _ _ a.ld ((h2.mono (Le2 j3 j7)).mono Le.x0)) ?_
 rintro v12 w12 C12 j12 hu12 rfl
 refine zz 4 ?_
 refine zb 22 (b := ((chkN a.ld) != 0)) (fun hc13 => ?_) (fun hc13 => ?_)
 ·
  have ht14 : (chkN a.ld) ≠ 0 := by simpa using hc13
  refine zz 8 ?_
  refine zr' (v := .int .i64 2) ?_
  exact ⟨C12.upd, _, rfl, vint (chk_2 hlong (.inr (.inl (by simpa using ht14)))).symm⟩
 have ht15 : (chkN a.ld) = 0 := by simpa using hc13
 have cd : chkN a.ld = 0 := by simpa using ht15
 have hcd := (chkN_ok cd).2
 have hzd := canon_len0 hcd
 refine zz 5 ?_
 refine zdr C12 ?_
 refine gz [0] ?_
 refine gw 1 0 ?_
 refine gz [2, 3, 4] ?_
 refine gb 27 (b := ((a.ln.length : Int) == 0)) (fun hc16 => ?_) (fun hc16 => ?_)
 ·
  have ht17 : (a.ln.length : Int) = 0 := by simpa using hc16
  refine gz [5] ?_
  refine gw 6 0 ?_
  refine gz [7] ?_
  refine gb 30 (b := a.neg) (fun hc18 => ?_) (fun hc18 => ?_)
  ·
   have ht19 : a.neg = true := by simpa using hc18
   have un : a.neg = true := by simpa using ht19
   refine gz [8, 9, 10, 11, 12, 13, 14, 15, 16, 17, 18, 19] ?_
   refine gend (fun w20 Y20 C20 j20 => ?_)
   refine zz 9 ?_
   refine zr' (v := .int .i64 2) ?_
   exact ⟨C20.upd, _, rfl, vint (chk_2 hlong (.inr (.inr (.inr ⟨by omega, .inl un⟩)))).symm⟩
  have ht21 : a.neg = false := by simpa using hc18
  have un : a.neg = false := by simpa using ht21
  refine gz [8] ?_
  refine gw 9 0 ?_
  refine gz [10, 11, 12, 13, 14] ?_
  refine gt 37 (p := (a.ld.length : Int) > 0) (fun ht22 => ?_) (fun ht22 => ?_)
  ·
   refine gz [15, 16, 17, 18, 19] ?_
   refine gend (fun w23 Y23 C23 j23 => ?_)
   refine zz 9 ?_
   refine zr' (v := .int .i64 2) ?_
   exact ⟨C23.upd, _, rfl, vint (chk_2 hlong (.inr (.inr (.inr ⟨by omega, .inr (by omega)⟩)))).symm⟩
  refine gz [15] ?_
  refine gw 16 0 ?_
  refine gC 17 (fun w24 Y24 _ C24 j24 => (one6_c _ _ C24.lt)) ?_
  rintro v25 w24 Y25 w25 C24 j25 ⟨ad25, cap25, rfl, hL25⟩
  have hc1_ := (Le3 j3 j7 j12).trans j25
  refine gC 18 (fun w26 Y26 _ C26 j26 => (EqualNat_c _ _ C26.lt _ _ _ _ (h2.mono (hc1_.trans j26)) _ _ _ _ (hL25.mono j26))) ?_
  rintro v27 w26 Y27 w27 C26 j27 rfl
  refine gz [19] ?_
  refine gend (fun w28 Y28 C28 j28 => ?_)
  refine zz 1 ?_
  refine zb 42 (b := (decide (a.ld = [1]))) (fun hc29 => ?_) (fun hc29 => ?_)
  ·
   have ht30 : a.ld = [1] := of_decide_eq_true hc29
   have u1 : val a.ld = 1 := (one_iff h2.hlt hcd).1 (by simpa using ht30)
   refine zz 8 ?_
   refine zr' (v := .int .i64 2) ?_
   exact ⟨C28.upd, _, rfl, vint (chk_2 hlong (.inr (.inr (.inl u1)))).symm⟩
  have ht31 : ¬ (a.ld = [1]) := of_decide_eq_false hc29
  have u1 : val a.ld ≠ 1 := fun e => absurd ((one_iff h2.hlt hcd).2 e) (by simpa using ht31)
  have hok : ¬ (chkN a.ln ≠ 0 ∨ chkN a.ld ≠ 0 ∨ val a.ld = 1 ∨ (val a.ln = 0 ∧ (a.neg = true ∨ 0 < val a.ld))) := by rintro (e | e | e | ⟨e, e2 | e2⟩); exact e cn; exact e cd; exact u1 e; (first | omega | (rw [un] at e2; cases e2)); omega
  refine zz 7 ?_
  refine zo 0 C28 ?_
  refine zz 3 ?_
  refine zt 47 (p := (a.ld.length : Int) > 0) (fun ht32 => ?_) (fun ht32 => ?_)
  ·
   have hdp : 0 < val a.ld := by omega
   refine zz 1 ?_
   refine zo 0 C28 ?_
   refine zz 1 ?_
   refine zo 0 C28 ?_
   have hc2_ := (hc1_.trans j27).trans j28
   refine zc C28 (gcd5_c _ _ C28.lt _ _ _ a.ln (h.mono hc2_) _ _ _ a.ld (h2.mono hc2_) (by first | omega | (simp; done) | (simp; omega)) (by first | omega | (simp; done) | (simp; omega)) hcn hcd) ?_
   rintro v34 w34 C34 j34 hu34 ⟨ad34, len34, cap34, rfl, ls34, hL34, hcan34, hval34⟩
   obtain rfl := hL34.hlen
   refine zc C34 (one6_c _ _ C34.lt) ?_
   rintro v36 w36 C36 j36 hu36 ⟨ad36, cap36, rfl, hL36⟩
   refine zc C36 (EqualNat_c _ _ C36.lt _ _ _ _ (hL34.mono j36) _ _ _ _ hL36) ?_
   rintro v38 w38 C38 j38 hu38 rfl
   refine zz 4 ?_
   refine zb 56 (b := !(decide (ls34 = [1]))) (fun hc39 => ?_) (fun hc39 => ?_)
   ·
    have ht40 : ¬ (ls34 = [1]) := by simpa using hc39
    have ug : Nat.gcd (val a.ln) (val a.ld) ≠ 1 := by rw [← hval34]; exact fun e => absurd ((one_iff hL34.hlt hcan34).2 e) (by simpa using ht40)
    refine zz 8 ?_
    refine zr' (v := .int .i64 2) ?_
    exact ⟨C38.upd, _, rfl, vint (chk_g hlong hok ⟨by omega, ug⟩).symm⟩
   have ht41 : ls34 = [1] := by simpa using hc39
   have ug : Nat.gcd (val a.ln) (val a.ld) = 1 := by rw [← hval34]; exact (one_iff hL34.hlt hcan34).1 (by simpa using ht41)
   refine zz 9 ?_
   refine zr' (v := .int .i64 0) ?_
   exact ⟨C38.upd, _, rfl, vint (chk_0 hlong hok (fun hh => hh.2 ug)).symm⟩
  refine zz 20 ?_
  refine zr' (v := .int .i64 0) ?_
  exact ⟨C28.upd, _, rfl, vint (chk_0 hlong hok (fun hh => by omega)).symm⟩
 have ht42 : (a.ln.length : Int) ≠ 0 := by simpa using hc16
 refine gz [5, 6, 7, 8, 9, 10, 11, 12, 13, 14, 15] ?_
 refine gw 16 0 ?_
 refine gC 17 (fun w43 Y43 _ C43 j43 => (one6_c _ _ C43.lt)) ?_
 rintro v44 w43 Y44 w44 C43 j44 ⟨ad44, cap44, rfl, hL44⟩
 have hc3_ := (Le3 j3 j7 j12).trans j44
 refine gC 18 (fun w45 Y45 _ C45 j45 => (EqualNat_c _ _ C45.lt _ _ _ _ (h2.mono (hc3_.trans j45)) _ _ _ _ (hL44.mono j45))) ?_
 rintro v46 w45 Y46 w46 C45 j46 rfl
 refine gz [19] ?_
 refine gend (fun w47 Y47 C47 j47 => ?_)
 refine zz 1 ?_
 refine zb 42 (b := (decide (a.ld = [1]))) (fun hc48 => ?_) (fun hc48 => ?_)
 ·
  have ht49 : a.ld = [1] := of_decide_eq_true hc48
  have u1 : val a.ld = 1 := (one_iff h2.hlt hcd).1 (by simpa using ht49)
  refine zz 8 ?_
  refine zr' (v := .int .i64 2) ?_
  exact ⟨C47.upd, _, rfl, vint (chk_2 hlong (.inr (.inr (.inl u1)))).symm⟩
 have ht50 : ¬ (a.ld = [1]) := of_decide_eq_false hc48
 have u1 : val a.ld ≠ 1 := fun e => absurd ((one_iff h2.hlt hcd).2 e) (by simpa using ht50)
 have hok : ¬ (chkN a.ln ≠ 0 ∨ chkN a.ld ≠ 0 ∨ val a.ld = 1 ∨ (val a.ln = 0 ∧ (a.neg = true ∨ 0 < val a.ld))) := by rintro (e | e | e | ⟨e, e2 | e2⟩); exact e cn; exact e cd; exact u1 e; (first | omega | (rw [un] at e2; cases e2)); omega
 refine zz 7 ?_
 refine zo 0 C47 ?_
 refine zz 3 ?_
 refine zt 47 (p := (a.ld.length : Int) > 0) (fun ht51 => ?_) (fun ht51 => ?_)
 ·
  have hdp : 0 < val a.ld := by omega
  refine zz 1 ?_
  refine zo 0 C47 ?_
  refine zz 1 ?_
  refine zo 0 C47 ?_
  have hc4_ := (hc3_.trans j46).trans j47
  refine zc C47 (gcd5_c _ _ C47.lt _ _ _ a.ln (h.mono hc4_) _ _ _ a.ld (h2.mono hc4_) (by first | omega | (simp; done) | (simp; omega)) (by first | omega | (simp; done) | (simp; omega)) hcn hcd) ?_
  rintro v53 w53 C53 j53 hu53 ⟨ad53, len53, cap53, rfl, ls53, hL53, hcan53, hval53⟩
  obtain rfl := hL53.hlen
  refine zc C53 (one6_c _ _ C53.lt) ?_
  rintro v55 w55 C55 j55 hu55 ⟨ad55, cap55, rfl, hL55⟩
  refine zc C55 (EqualNat_c _ _ C55.lt _ _ _ _ (hL53.mono j55) _ _ _ _ hL55) ?_
  rintro v57 w57 C57 j57 hu57 rfl
  refine zz 4 ?_
  refine zb 56 (b := !(decide (ls53 = [1]))) (fun hc58 => ?_) (fun hc58 => ?_)
  ·
   have ht59 : ¬ (ls53 = [1]) := by simpa using hc58
   have ug : Nat.gcd (val a.ln) (val a.ld) ≠ 1 := by rw [← hval53]; exact fun e => absurd ((one_iff hL53.hlt hcan53).2 e) (by simpa using ht59)
   refine zz 8 ?_
   refine zr' (v := .int .i64 2) ?_
   exact ⟨C57.upd, _, rfl, vint (chk_g hlong hok ⟨by omega, ug⟩).symm⟩
  have ht60 : ls53 = [1] := by simpa using hc58
  have ug : Nat.gcd (val a.ln) (val a.ld) = 1 := by rw [← hval53]; exact (one_iff hL53.hlt hcan53).1 (by simpa using ht60)
  refine zz 9 ?_
  refine zr' (v := .int .i64 0) ?_
  exact ⟨C57.upd, _, rfl, vint (chk_0 hlong hok (fun hh => hh.2 ug)).symm⟩
 refine zz 20 ?_
 refine zr' (v := .int .i64 0) ?_
 exact ⟨C47.upd, _, rfl, vint (chk_0 hlong hok (fun hh => by omega)).symm⟩
end Go.Proofs.YtppalofalmieaaaGreat
namespace Go.Proofs.YtppalofalmieaaaGreat
open Go Go.Gv Go.RowKit
set_option maxRecDepth 100000
set_option maxHeartbeats 1000000
theorem CopyLimbs_c (w : World) (X : Hid) (hX : ∀ k o, X k o → k < w.heap.size) (ad : Option Addr) (len cap : Nat) (l : List Nat) (h : Limbs (rd w X) ad len cap l) (hm : len * 4 ≤ 140737488351232) : Calls Tryz.prog 134 #[.slice ad len cap] w (Ret E0 w fun w' v => ∃ ad len cap, v = .slice ad len cap ∧ Limbs (rd w' X) ad len cap l) := by
 obtain rfl := h.hlen
 have hcap := h.hcap
 have hbig := h.hbig
 refine zen Tryz.func134 ?_
 have C0 : St E0 w X w X [] := St.start hX
 refine zz 17 ?_
 refine zlp Tryz.f134 [] [1, 1, 0, 1, 0] (fun ((k, adr, capr) : Nat × (Option Addr) × Nat) => [(0, .slice ad l.length cap), (3, .slice adr k capr), (4, .int .i64 (k : Int))]) (fun ((k, adr, capr) : Nat × (Option Addr) × Nat) w1 => ∃ (Y1 : Hid) (rb1 : List (Nat × Obj)), St E0 w X w1 Y1 (rb1) ∧ Le (rd w X) (rd w1 Y1) ∧ (TRow 56 1 rb1 adr k capr (U32 (l.take k))) ∧ (k ≤ l.length)) (fun ((k, adr, capr) : Nat × (Option Addr) × Nat) => l.length - k) (0, none, 0) ?_ ?_
 ·
  refine ⟨_, [], C0, Le.refl _, TRow.nil _ _, Nat.zero_le _⟩
 rintro ⟨k, adr, capr⟩ w2 K2 H2 ⟨Y2, rb1, C2, j2, hp2_0, hp2_1⟩
 have hr1 := hp2_0
 have hkl := hp2_1
 refine zz 9 ?_
 refine zt 8 (p := (k : Int) < (l.length : Int)) (fun ht3 => ?_) (fun ht3 => ?_)
 ·
  obtain ⟨b1, off1, rfl, _⟩ := h.addr (by omega)
  have hx1 := getD_some (l := l) (k := k) (by omega)
  refine zz 9 ?_
  refine zi (b := b1) (off := off1) (len := l.length) (cap := cap) (kd := .i64) (i := (k : Int)) 1 (off1 + k) ?_
  refine zl ((h.cell (i := k) (by omega)).mono j2).cells ?_
  refine zn (fun b => .slice (some ⟨b, 0, none⟩) 1 1) (.cells #[.int .u32 ((l.getD k 0 : Nat) : Int)] 56 (0, 0)) C2 ?_
  intro b5 w5 Y5 C5 j5 hu5
  refine zop (at1 [K2] Tryz.f134 [1, 1, 0, 1, 0, 0, 1, 0, 0]) 6 (fun a6 _ G6 hz6 => op_appEZ (b := 4) (m := 1) (c := 1) (ad := ⟨b5, 0, none⟩) (news := [.int .u32 ((l.getD k 0 : Nat) : Int)]) (i0 := Tryz.t56) (R1 := []) 1 G6 C5 rfl hr1 (C5.cells 0 rfl rfl) (by omega) (by omega) ?_)
  intro rb7 ad7 cap7 w7 Y7 hrow7 C7 j7 a8 G8
  have hrw7 : TRow 56 1 rb7 ad7 (k + 1) cap7 (U32 (l.take k ++ [l.getD k 0])) := by rw [← U32_snoc]; exact hrow7
  refine hz6 G8 ?_
  refine zz 7 ?_
  refine zw 10 (x := (k : Int) + 1) ?_
  refine zz 2 ?_
  refine znext (fun a h => H2 ((k + 1, ad7, cap7)) _ a h ⟨_, rb7, C7.tail, (Le3 j2 j5 j7), by rw [take_snoc hx1]; exact hrw7, by omega⟩ ?_)
  first | omega | (simp <;> omega)
 refine zz 13 ?_
 refine zr' (v := .slice adr k capr) ?_
 have hlt := h.hlt
 have htk : l.take k = l := List.take_of_length_le (by omega)
 rw [htk] at hr1
 obtain ⟨Yz, hSz, hlez, hRz⟩ := St.pubLimbs (A := []) (B := []) (fun rb => rb) C2 (fun _ => by simp) hr1 (by omega) hlt
 exact ⟨hSz.upd, _, rfl, _, _, _, rfl, hRz.mono hSz.le⟩
theorem CopyNat_c (w : World) (X : Hid) (hX : ∀ k o, X k o → k < w.heap.size) (ad : Option Addr) (len cap : Nat) (l : List Nat) (h : Limbs (rd w X) ad len cap l) (hm : len * 4 ≤ 140737488351232) : Calls Tryz.prog 103 #[.slice ad len cap] w (Ret E0 w fun w' v => ∃ ad len cap, v = .slice ad len cap ∧ Limbs (rd w' X) ad len cap l) := by
 obtain rfl := h.hlen
 have hcap := h.hcap
 have hbig := h.hbig
 refine zen Tryz.func103 ?_
 have C0 : St E0 w X w X [] := St.start hX
 refine zz 8 ?_
 refine zc C0 (CopyLimbs_c _ _ C0.lt _ _ _ _ h (by omega)) ?_
 rintro v3 w3 C3 j3 hu3 ⟨ad3, len3, cap3, rfl, hN3⟩
 refine zz 4 ?_
 refine zr' (v := .slice ad3 len3 cap3) ?_
 exact ⟨C3.upd, _, rfl, _, _, _, rfl, hN3.mono C3.le⟩
theorem CopyRat_c (w : World) (X : Hid) (hX : ∀ k o, X k o → k < w.heap.size) (a : Raw) (ad₁ : Option Addr) (len₁ cap₁ : Nat) (h₁ : Limbs (rd w X) ad₁ len₁ cap₁ a.ln) (ae₁ : Option Addr) (le₁ ce₁ : Nat) (k₁ : Limbs (rd w X) ae₁ le₁ ce₁ a.ld) (hm : len₁ * 4 ≤ 140737488351232) (hm2 : le₁ * 4 ≤ 140737488351232) : Calls Tryz.prog 62 #[.agg #[.bool a.neg, .slice ad₁ len₁ cap₁, .slice ae₁ le₁ ce₁]] w (Ret E0 w fun w' v => RawX X w' v a) := by
 refine zen Tryz.func62 ?_
 have C0 : St E0 w X w X [] := St.start hX
 refine zz 2 ?_
 refine zn pn (.cells #[.bool a.neg, .slice ad₁ len₁ cap₁, .slice ae₁ le₁ ce₁] 28 (0, 0)) C0 ?_
 intro b3 w3 Y3 C3 j3 hu3
 refine zn pn (.cells #[.bool false, .slice none 0 0, .slice none 0 0] 28 (0, 0)) C3 ?_
 intro b5 w5 Y5 C5 j5 hu5
 refine zz 3 ?_
 refine zdr C5 ?_
 refine gz [0] ?_
 refine gw 1 1 ?_
 refine gz [2] ?_
 refine gw 3 1 ?_
 refine gz [5] ?_
 refine gw 6 1 ?_
 refine gC 4 (fun w6 Y6 _ C6 j6 => (CopyNat_c _ _ C6.lt _ _ _ _ (h₁.mono (Le3 j3 j5 j6)) (by omega))) ?_
 rintro v7 w6 Y7 w7 C6 j7 ⟨ad7, len7, cap7, rfl, hN7⟩
 have hc1_ := (Le2 j3 j5).trans j7
 refine gC 7 (fun w8 Y8 _ C8 j8 => (CopyNat_c _ _ C8.lt _ _ _ _ (k₁.mono (hc1_.trans j8)) (by omega))) ?_
 rintro v9 w8 Y9 w9 C8 j9 ⟨ad9, len9, cap9, rfl, hN9⟩
 refine gz [8] ?_
 refine gX 9 0 #[.bool a.neg, .slice ad7 len7 cap7, .slice ad9 len9 cap9] ?_
 intro w10 Y10 j10
 refine gend (fun w11 Y11 C11 j11 => ?_)
 refine zz 2 ?_
 refine zrS [.cell 2 28] (v := .agg #[.bool a.neg, .slice ad7 len7 cap7, .slice ad9 len9 cap9]) (Res.cM C11 0 Res.nil) ?_
 exact ⟨C11.upd, _, rfl, ⟨_, _, _, _, _, _, rfl, (hN7.mono (Le3 j9 j10 j11)).mono C11.le, (hN9.mono (Le2 j10 j11)).mono C11.le⟩⟩
end Go.Proofs.YtppalofalmieaaaGreat
namespace Go.Proofs.YtppalofalmieaaaGreat
open Go Go.Gv Go.RowKit
set_option maxRecDepth 100000
set_option maxHeartbeats 1000000
theorem prod_len {l l2 l3 : List Nat} (k : Nat) (hc : Canon l3) (h : val l3 = val l * val l2) (h1 : ∀ x ∈ l, x < 4294967296) (h2 : ∀ x ∈ l2, x < 4294967296) (k1 : l.length ≤ k) (k2 : l2.length ≤ k) : l3.length ≤ k + k :=
  canon_pow hc (by rw [h, Nat.pow_add]; exact Nat.mul_lt_mul'' (Nat.lt_of_lt_of_le (val_lt h1) (Nat.pow_le_pow_right (by omega) k1)) (Nat.lt_of_lt_of_le (val_lt h2) (Nat.pow_le_pow_right (by omega) k2)))
/-- A number whose parts have no leading zeros and are not long. -/
def Vr (a : Raw) : Prop := Canon a.ln ∧ Canon a.ld ∧ a.ln.length ≤ 1000 ∧ a.ld.length ≤ 1000
theorem mk6_r (w : World) (X : Hid) (hX : ∀ k o, X k o → k < w.heap.size) (ad : Option Addr) (len cap : Nat) (l : List Nat) (h : Limbs (rd w X) ad len cap l) (ad2 : Option Addr) (len2 cap2 : Nat) (l2 : List Nat) (h2 : Limbs (rd w X) ad2 len2 cap2 l2) (sg : Bool) (hm : len ≤ 100000) (hm2 : len2 ≤ 100000) (hc1 : Canon l) (hc2 : Canon l2) (hd : 0 < val l2) (z : Rat) (hz : mkRat (sgn sg (val l)) (val l2) = z) : Calls Tryz.prog 84 #[.bool sg, .slice ad len cap, .slice ad2 len2 cap2] w (Ret E0 w fun w' v => RatX X w' v z) := by
  subst hz; exact mk6_c w X hX ad len cap l h ad2 len2 cap2 l2 h2 sg hm hm2 hc1 hc2 hd
theorem prod6 (a b : Raw) : mkRat (sgn (a.neg != b.neg) (val a.ln * val b.ln)) (a.d * b.d) = a.rat * b.rat := by
  unfold Raw.rat; rw [Rat.mkRat_mul_mkRat]; congr 1; cases a.neg <;> cases b.neg <;> simp [sgn, Int.neg_mul, Int.mul_neg]
theorem denL_lt {l : List Nat} (h : ∀ x ∈ l, x < 4294967296) : ∀ x ∈ denL l, x < 4294967296 := by unfold denL; split; (intro x hx; simp at hx; omega); exact h
theorem rprod6_c (w : World) (X : Hid) (hX : ∀ k o, X k o → k < w.heap.size) (a : Raw) (ad₁ : Option Addr) (len₁ cap₁ : Nat) (h₁ : Limbs (rd w X) ad₁ len₁ cap₁ a.ln) (ae₁ : Option Addr) (le₁ ce₁ : Nat) (k₁ : Limbs (rd w X) ae₁ le₁ ce₁ a.ld) (b : Raw) (ad₂ : Option Addr) (len₂ cap₂ : Nat) (h₂ : Limbs (rd w X) ad₂ len₂ cap₂ b.ln) (ae₂ : Option Addr) (le₂ ce₂ : Nat) (k₂ : Limbs (rd w X) ae₂ le₂ ce₂ b.ld) (va : Vr a) (vb : Vr b) : Calls Tryz.prog 105 #[.agg #[.bool a.neg, .slice ad₁ len₁ cap₁, .slice ae₁ le₁ ce₁], .agg #[.bool b.neg, .slice ad₂ len₂ cap₂, .slice ae₂ le₂ ce₂]] w (Ret E0 w fun w' v => RatX X w' v (a.rat * b.rat)) := by
 refine zen Tryz.func105 ?_
 have C0 : St E0 w X w X [] := St.start hX
 obtain ⟨hca, hda, hla, hma⟩ := va
 obtain ⟨hcb, hdb, hlb, hmb⟩ := vb
 have lh₁ := h₁.hlen
 have lk₁ := k₁.hlen
 have lh₂ := h₂.hlen
 have lk₂ := k₂.hlen
 have dla := denL_le hma (by omega)
 have dva := denL_val a hda
 have dpa := Raw.d_pos a
 have dlb := denL_le hmb (by omega)
 have dvb := denL_val b hdb
 have dpb := Raw.d_pos b
 refine zz 2 ?_
 refine zn pn (.cells #[.bool a.neg, .slice ad₁ len₁ cap₁, .slice ae₁ le₁ ce₁] 28 (0, 0)) C0 ?_
 intro b3 w3 Y3 C3 j3 hu3
 refine zn pn (.cells #[.bool b.neg, .slice ad₂ len₂ cap₂, .slice ae₂ le₂ ce₂] 28 (0, 0)) C3 ?_
 intro b5 w5 Y5 C5 j5 hu5
 refine zn pn (.cells #[.bool false, .slice none 0 0, .slice none 0 0] 28 (0, 0)) C5 ?_
 intro b7 w7 Y7 C7 j7 hu7
 refine zz 3 ?_
 refine zdr C7 ?_
 refine gz [0] ?_
 refine gw 1 2 ?_
 refine gz [2] ?_
 refine gw 3 1 ?_
 refine gz [4, 5] ?_
 refine gw 6 2 ?_
 refine gz [7] ?_
 refine gw 8 1 ?_
 refine gw 10 2 ?_
 refine gw 12 1 ?_
 have hc1_ := (Le2 j3 j5).trans j7
 refine gC 9 (fun w8 Y8 _ C8 j8 => (prod5_c _ _ C8.lt _ _ _ a.ln (h₁.mono (hc1_.trans j8)) _ _ _ b.ln (h₂.mono (hc1_.trans j8)) (by first | omega | (simp; done) | (simp; omega)) (by first | omega | (simp; done) | (simp; omega)))) ?_
 rintro v9 w8 Y9 w9 C8 j9 ⟨ad9, len9, cap9, rfl, ls9, hL9, hcan9, hval9⟩
 have hlen9 := hL9.hlen
 have hc2_ := hc1_.trans j9
 refine gC 11 (fun w10 Y10 _ C10 j10 => (den6_c _ _ C10.lt a _ _ _ (h₁.mono (hc2_.trans j10)) _ _ _ (k₁.mono (hc2_.trans j10)))) ?_
 rintro v11 w10 Y11 w11 C10 j11 ⟨ad11, len11, cap11, rfl, hL11⟩
 obtain rfl := hL11.hlen
 have hc3_ := hc2_.trans j11
 refine gC 13 (fun w12 Y12 _ C12 j12 => (den6_c _ _ C12.lt b _ _ _ (h₂.mono (hc3_.trans j12)) _ _ _ (k₂.mono (hc3_.trans j12)))) ?_
 rintro v13 w12 Y13 w13 C12 j13 ⟨ad13, len13, cap13, rfl, hL13⟩
 obtain rfl := hL13.hlen
 refine gC 14 (fun w14 Y14 _ C14 j14 => (prod5_c _ _ C14.lt _ _ _ (denL a.ld) (hL11.mono (Le2 j13 j14)) _ _ _ (denL b.ld) (hL13.mono j14) (by first | omega | (simp; done) | (simp; omega)) (by first | omega | (simp; done) | (simp; omega)))) ?_
 rintro v15 w14 Y15 w15 C14 j15 ⟨ad15, len15, cap15, rfl, ls15, hL15, hcan15, hval15⟩
 have hlen15 := hL15.hlen
 have hc4_ := (Le2 j11 j13).trans j15
 refine gC 15 (fun w16 Y16 _ C16 j16 => (mk6_r _ _ C16.lt _ _ _ ls9 (hL9.mono (hc4_.trans j16)) _ _ _ ls15 (hL15.mono j16) _ (by have := prod_len 1000 hcan9 hval9 h₁.hlt h₂.hlt hla hlb; omega) (by have := prod_len 1000 hcan15 hval15 (denL_lt k₁.hlt) (denL_lt k₂.hlt) dla dlb; omega) hcan9 hcan15 (by rw [hval15, dva, dvb]; exact Nat.mul_pos dpa dpb) (a.rat * b.rat) (by rw [hval9, hval15, dva, dvb]; exact prod6 a b))) ?_
 rintro v17 w16 Y17 w17 C16 j17 ⟨ad17, len17, cap17, ae17, le17, ce17, rfl, hN17, hD17⟩
 refine gX 16 0 #[.bool (decide ((a.rat * b.rat).num < 0)), .slice ad17 len17 cap17, .slice ae17 le17 ce17] ?_
 intro w18 Y18 j18
 refine gend (fun w19 Y19 C19 j19 => ?_)
 refine zz 2 ?_
 refine zrS [.cell 4 28] (v := .agg #[.bool (decide ((a.rat * b.rat).num < 0)), .slice ad17 len17 cap17, .slice ae17 le17 ce17]) (Res.cM C19 0 Res.nil) ?_
 exact ⟨C19.upd, _, rfl, _, _, _, _, _, _, rfl, hN17.mono (Le.trans (Le2 j18 j19) C19.le), hD17.mono (Le.trans (Le2 j18 j19) C19.le)⟩
end Go.Proofs.YtppalofalmieaaaGreat
namespace Go.Proofs.YtppalofalmieaaaGreat
open Go Go.Gv Go.RowKit
set_option maxRecDepth 100000
set_option maxHeartbeats 1000000
theorem add_len {l l2 l3 : List Nat} (k : Nat) (hc : Canon l3) (h : val l3 ≤ val l + val l2) (h1 : ∀ x ∈ l, x < 4294967296) (h2 : ∀ x ∈ l2, x < 4294967296) (k1 : l.length ≤ k) (k2 : l2.length ≤ k) : l3.length ≤ k + 1 :=
  canon_pow hc (by
    have e1 := Nat.lt_of_lt_of_le (val_lt h1) (Nat.pow_le_pow_right (by omega) k1)
    have e2 := Nat.lt_of_lt_of_le (val_lt h2) (Nat.pow_le_pow_right (by omega) k2)
    rw [Nat.pow_succ]; omega)
theorem sgn_mulN (s : Bool) (n d : Nat) : sgn s n * (d : Int) = sgn s (n * d) := by cases s <;> simp [sgn, Int.neg_mul]
theorem rat_sum6 (a b : Raw) {z : Int} (h : sgn a.neg (val a.ln * b.d) + sgn b.neg (val b.ln * a.d) = z) : mkRat z (a.d * b.d) = a.rat + b.rat := by
  have h1 := Raw.d_pos a
  have h2 := Raw.d_pos b
  unfold Raw.rat; rw [Rat.mkRat_add_mkRat _ _ (by omega) (by omega), sgn_mulN, sgn_mulN, h]
theorem sum6_eq {s t : Bool} {p q : Nat} (h : s = t) : sgn s p + sgn t q = sgn s (p + q) := by subst h; cases s <;> simp [sgn] <;> omega
theorem sum6_ge {s t : Bool} {p q : Nat} (h : s ≠ t) (k : q ≤ p) : sgn s p + sgn t q = sgn s (p - q) := by cases s <;> cases t <;> simp [sgn] at * <;> omega
theorem sum6_lt {s t : Bool} {p q : Nat} (h : s ≠ t) (k : p < q) : sgn s p + sgn t q = sgn t (q - p) := by cases s <;> cases t <;> simp [sgn] at * <;> omega
theorem rsum6_c (w : World) (X : Hid) (hX : ∀ k o, X k o → k < w.heap.size) (a : Raw) (ad₁ : Option Addr) (len₁ cap₁ : Nat) (h₁ : Limbs (rd w X) ad₁ len₁ cap₁ a.ln) (ae₁ : Option Addr) (le₁ ce₁ : Nat) (k₁ : Limbs (rd w X) ae₁ le₁ ce₁ a.ld) (b : Raw) (ad₂ : Option Addr) (len₂ cap₂ : Nat) (h₂ : Limbs (rd w X) ad₂ len₂ cap₂ b.ln) (ae₂ : Option Addr) (le₂ ce₂ : Nat) (k₂ : Limbs (rd w X) ae₂ le₂ ce₂ b.ld) (va : Vr a) (vb : Vr b) : Calls Tryz.prog 104 #[.agg #[.bool a.neg, .slice ad₁ len₁ cap₁, .slice ae₁ le₁ ce₁], .agg #[.bool b.neg, .slice ad₂ len₂ cap₂, .slice ae₂ le₂ ce₂]] w (Ret E0 w fun w' v => RatX X w' v (a.rat + b.rat)) := by
 refine zen Tryz.func104 ?_
 have C0 : St E0 w X w X [] := St.start hX
 obtain ⟨hca, hda, hla, hma⟩ := va
 obtain ⟨hcb, hdb, hlb, hmb⟩ := vb
 have lh₁ := h₁.hlen
 have lk₁ := k₁.hlen
 have lh₂ := h₂.hlen
 have lk₂ := k₂.hlen
 have dla := denL_le hma (by omega)
 have dva := denL_val a hda
 have dpa := Raw.d_pos a
 have dlb := denL_le hmb (by omega)
 have dvb := denL_val b hdb
 have dpb := Raw.d_pos b
 refine zz 2 ?_
 refine zn pn (.cells #[.bool a.neg, .slice ad₁ len₁ cap₁, .slice ae₁ le₁ ce₁] 28 (0, 0)) C0 ?_
 intro b3 w3 Y3 C3 j3 hu3
 refine zn pn (.cells #[.bool b.neg, .slice ad₂ len₂ cap₂, .slice ae₂ le₂ ce₂] 28 (0, 0)) C3 ?_
 intro b5 w5 Y5 C5 j5 hu5
 refine zn pn (.cells #[.bool false, .slice none 0 0, .slice none 0 0] 28 (0, 0)) C5 ?_
 intro b7 w7 Y7 C7 j7 hu7
 refine zz 3 ?_
 refine zdr C7 ?_
 refine gz [0] ?_
 refine gw 1 2 ?_
 refine gw 2 1 ?_
 have hc1_ := (Le2 j3 j5).trans j7
 refine gC 3 (fun w8 Y8 _ C8 j8 => (den6_c _ _ C8.lt b _ _ _ (h₂.mono (hc1_.trans j8)) _ _ _ (k₂.mono (hc1_.trans j8)))) ?_
 rintro v9 w8 Y9 w9 C8 j9 ⟨ad9, len9, cap9, rfl, hL9⟩
 obtain rfl := hL9.hlen
 have hc2_ := hc1_.trans j9
 refine gC 4 (fun w10 Y10 _ C10 j10 => (prod5_c _ _ C10.lt _ _ _ a.ln (h₁.mono (hc2_.trans j10)) _ _ _ (denL b.ld) (hL9.mono j10) (by first | omega | (simp; done) | (simp; omega)) (by first | omega | (simp; done) | (simp; omega)))) ?_
 rintro v11 w10 Y11 w11 C10 j11 ⟨ad11, len11, cap11, rfl, ls11, hL11, hcan11, hval11⟩
 have hlen11 := hL11.hlen
 have pl11 := prod_len 1000 hcan11 hval11 h₁.hlt (denL_lt k₂.hlt) hla dlb
 rw [dvb] at hval11
 refine gz [5] ?_
 refine gend (fun w12 Y12 C12 j12 => ?_)
 refine zz 2 ?_
 refine zdr C12 ?_
 refine gz [0] ?_
 refine gw 1 1 ?_
 refine gw 2 2 ?_
 have hc3_ := (hc2_.trans j11).trans j12
 refine gC 3 (fun w13 Y13 _ C13 j13 => (den6_c _ _ C13.lt a _ _ _ (h₁.mono (hc3_.trans j13)) _ _ _ (k₁.mono (hc3_.trans j13)))) ?_
 rintro v14 w13 Y14 w14 C13 j14 ⟨ad14, len14, cap14, rfl, hL14⟩
 obtain rfl := hL14.hlen
 have hc4_ := hc3_.trans j14
 refine gC 4 (fun w15 Y15 _ C15 j15 => (prod5_c _ _ C15.lt _ _ _ b.ln (h₂.mono (hc4_.trans j15)) _ _ _ (denL a.ld) (hL14.mono j15) (by first | omega | (simp; done) | (simp; omega)) (by first | omega | (simp; done) | (simp; omega)))) ?_
 rintro v16 w15 Y16 w16 C15 j16 ⟨ad16, len16, cap16, rfl, ls16, hL16, hcan16, hval16⟩
 have hlen16 := hL16.hlen
 have pl16 := prod_len 1000 hcan16 hval16 h₂.hlt (denL_lt k₁.hlt) hlb dla
 rw [dva] at hval16
 refine gz [5] ?_
 refine gend (fun w17 Y17 C17 j17 => ?_)
 refine zz 2 ?_
 refine zdr C17 ?_
 refine gw 0 2 ?_
 refine gw 2 1 ?_
 have hc5_ := (hc4_.trans j16).trans j17
 refine gC 1 (fun w18 Y18 _ C18 j18 => (den6_c _ _ C18.lt a _ _ _ (h₁.mono (hc5_.trans j18)) _ _ _ (k₁.mono (hc5_.trans j18)))) ?_
 rintro v19 w18 Y19 w19 C18 j19 ⟨ad19, len19, cap19, rfl, hL19⟩
 obtain rfl := hL19.hlen
 have hc6_ := hc5_.trans j19
 refine gC 3 (fun w20 Y20 _ C20 j20 => (den6_c _ _ C20.lt b _ _ _ (h₂.mono (hc6_.trans j20)) _ _ _ (k₂.mono (hc6_.trans j20)))) ?_
 rintro v21 w20 Y21 w21 C20 j21 ⟨ad21, len21, cap21, rfl, hL21⟩
 obtain rfl := hL21.hlen
 refine gC 4 (fun w22 Y22 _ C22 j22 => (prod5_c _ _ C22.lt _ _ _ (denL a.ld) (hL19.mono (Le2 j21 j22)) _ _ _ (denL b.ld) (hL21.mono j22) (by first | omega | (simp; done) | (simp; omega)) (by first | omega | (simp; done) | (simp; omega)))) ?_
 rintro v23 w22 Y23 w23 C22 j23 ⟨ad23, len23, cap23, rfl, ls23, hL23, hcan23, hval23⟩
 have hlen23 := hL23.hlen
 have pl23 := prod_len 1000 hcan23 hval23 (denL_lt k₁.hlt) (denL_lt k₂.hlt) dla dlb
 rw [dva, dvb] at hval23
 refine gz [5] ?_
 refine gend (fun w24 Y24 C24 j24 => ?_)
 refine zz 5 ?_
 refine zo 2 C24 ?_
 refine zz 1 ?_
 refine zo 1 C24 ?_
 refine zz 3 ?_
 refine zb 27 (b := (a.neg == b.neg)) (fun hc25 => ?_) (fun hc25 => ?_)
 ·
  have ht26 : a.neg = b.neg := by simpa using hc25
  have hne : a.neg = b.neg := by simpa using ht26
  refine zz 2 ?_
  refine zdr C24 ?_
  refine gz [0] ?_
  refine gw 1 2 ?_
  refine gz [2, 3, 5] ?_
  have hc7_ := (Le7 j12 j14 j16 j17 j19 j21 j23).trans j24
  have hc8_ := (Le4 j17 j19 j21 j23).trans j24
  refine gC 4 (fun w27 Y27 _ C27 j27 => (sum5_c _ _ C27.lt _ _ _ ls11 (hL11.mono (hc7_.trans j27)) _ _ _ ls16 (hL16.mono (hc8_.trans j27)) (by first | omega | (simp; done) | (simp; omega)) (by first | omega | (simp; done) | (simp; omega)))) ?_
  rintro v28 w27 Y28 w28 C27 j28 ⟨ad28, len28, cap28, rfl, ls28, hL28, hcan28, hval28⟩
  have hlen28 := hL28.hlen
  have pl28 := add_len 2000 hcan28 (by omega) hL11.hlt hL16.hlt pl11 pl16
  refine gC 6 (fun w29 Y29 _ C29 j29 => (mk6_r _ _ C29.lt _ _ _ ls28 (hL28.mono j29) _ _ _ ls23 (hL23.mono (Le3 j24 j28 j29)) _ (by omega) (by omega) hcan28 hcan23 (by rw [hval23]; exact Nat.mul_pos dpa dpb) (a.rat + b.rat) (by rw [hval28, hval11, hval16, hval23]; exact rat_sum6 a b (sum6_eq hne)))) ?_
  rintro v30 w29 Y30 w30 C29 j30 ⟨ad30, len30, cap30, ae30, le30, ce30, rfl, hN30, hD30⟩
  refine gX 7 0 #[.bool (decide ((a.rat + b.rat).num < 0)), .slice ad30 len30 cap30, .slice ae30 le30 ce30] ?_
  intro w31 Y31 j31
  refine gend (fun w32 Y32 C32 j32 => ?_)
  refine zz 3 ?_
  refine zrS [.cell 4 28] (v := .agg #[.bool (decide ((a.rat + b.rat).num < 0)), .slice ad30 len30 cap30, .slice ae30 le30 ce30]) (Res.cM C32 0 Res.nil) ?_
  exact ⟨C32.upd, _, rfl, _, _, _, _, _, _, rfl, hN30.mono (Le.trans (Le2 j31 j32) C32.le), hD30.mono (Le.trans (Le2 j31 j32) C32.le)⟩
 have ht33 : a.neg ≠ b.neg := by simpa using hc25
 have hne : a.neg ≠ b.neg := by simpa using ht33
 refine zz 8 ?_
 have hc9_ := (Le7 j12 j14 j16 j17 j19 j21 j23).trans j24
 have hc10_ := (Le4 j17 j19 j21 j23).trans j24
 refine zc C24 (order5_c _ _ C24.lt _ _ _ ls11 (hL11.mono hc9_) _ _ _ ls16 (hL16.mono hc10_) (by first | omega | (simp; done) | (simp; omega)) (by first | omega | (simp; done) | (simp; omega))) ?_
 rintro v35 w35 C35 j35 hu35 rfl
 refine zz 3 ?_
 refine zt 38 (p := (cmpI (val ls11) (val ls16)) ≥ 0) (fun ht36 => ?_) (fun ht36 => ?_)
 ·
  have hcmp := cmpI_ge ht36
  refine zz 2 ?_
  refine zdr C35 ?_
  refine gz [0] ?_
  refine gw 1 2 ?_
  refine gz [2, 3, 5] ?_
  have hc11_ := hc9_.trans j35
  have hc12_ := hc10_.trans j35
  refine gC 4 (fun w37 Y37 _ C37 j37 => (diff5_c _ _ C37.lt _ _ _ ls11 (hL11.mono (hc11_.trans j37)) _ _ _ ls16 (hL16.mono (hc12_.trans j37)) (by first | omega | (simp; done) | (simp; omega)) (canon_len hL11.hlt hcan16 (by omega)) (by omega))) ?_
  rintro v38 w37 Y38 w38 C37 j38 ⟨ad38, len38, cap38, rfl, ls38, hL38, hcan38, hval38⟩
  have hlen38 := hL38.hlen
  have pl38 := add_len 2000 hcan38 (by omega) hL11.hlt hL16.hlt pl11 pl16
  have hc13_ := (Le2 j24 j35).trans j38
  refine gC 6 (fun w39 Y39 _ C39 j39 => (mk6_r _ _ C39.lt _ _ _ ls38 (hL38.mono j39) _ _ _ ls23 (hL23.mono (hc13_.trans j39)) _ (by omega) (by omega) hcan38 hcan23 (by rw [hval23]; exact Nat.mul_pos dpa dpb) (a.rat + b.rat) (by rw [hval38, hval11, hval16, hval23]; exact rat_sum6 a b (sum6_ge hne (by rw [← hval11, ← hval16]; exact hcmp))))) ?_
  rintro v40 w39 Y40 w40 C39 j40 ⟨ad40, len40, cap40, ae40, le40, ce40, rfl, hN40, hD40⟩
  refine gX 7 0 #[.bool (decide ((a.rat + b.rat).num < 0)), .slice ad40 len40 cap40, .slice ae40 le40 ce40] ?_
  intro w41 Y41 j41
  refine gend (fun w42 Y42 C42 j42 => ?_)
  refine zz 3 ?_
  refine zrS [.cell 4 28] (v := .agg #[.bool (decide ((a.rat + b.rat).num < 0)), .slice ad40 len40 cap40, .slice ae40 le40 ce40]) (Res.cM C42 0 Res.nil) ?_
  exact ⟨C42.upd, _, rfl, _, _, _, _, _, _, rfl, hN40.mono (Le.trans (Le2 j41 j42) C42.le), hD40.mono (Le.trans (Le2 j41 j42) C42.le)⟩
 have hcmp := cmpI_nge ht36
 refine zz 4 ?_
 refine zdr C35 ?_
 refine gz [0] ?_
 refine gw 1 1 ?_
 refine gz [2, 3, 5] ?_
 have hc14_ := hc10_.trans j35
 have hc15_ := hc9_.trans j35
 refine gC 4 (fun w43 Y43 _ C43 j43 => (diff5_c _ _ C43.lt _ _ _ ls16 (hL16.mono (hc14_.trans j43)) _ _ _ ls11 (hL11.mono (hc15_.trans j43)) (by first | omega | (simp; done) | (simp; omega)) (canon_len hL16.hlt hcan11 (by omega)) (by omega))) ?_
 rintro v44 w43 Y44 w44 C43 j44 ⟨ad44, len44, cap44, rfl, ls44, hL44, hcan44, hval44⟩
 have hlen44 := hL44.hlen
 have pl44 := add_len 2000 hcan44 (by omega) hL16.hlt hL11.hlt pl16 pl11
 have hc16_ := (Le2 j24 j35).trans j44
 refine gC 6 (fun w45 Y45 _ C45 j45 => (mk6_r _ _ C45.lt _ _ _ ls44 (hL44.mono j45) _ _ _ ls23 (hL23.mono (hc16_.trans j45)) _ (by omega) (by omega) hcan44 hcan23 (by rw [hval23]; exact Nat.mul_pos dpa dpb) (a.rat + b.rat) (by rw [hval44, hval11, hval16, hval23]; exact rat_sum6 a b (sum6_lt hne (by rw [← hval11, ← hval16]; exact hcmp))))) ?_
 rintro v46 w45 Y46 w46 C45 j46 ⟨ad46, len46, cap46, ae46, le46, ce46, rfl, hN46, hD46⟩
 refine gX 7 0 #[.bool (decide ((a.rat + b.rat).num < 0)), .slice ad46 len46 cap46, .slice ae46 le46 ce46] ?_
 intro w47 Y47 j47
 refine gend (fun w48 Y48 C48 j48 => ?_)
 refine zz 2 ?_
 refine zrS [.cell 4 28] (v := .agg #[.bool (decide ((a.rat + b.rat).num < 0)), .slice ad46 len46 cap46, .slice ae46 le46 ce46]) (Res.cM C48 0 Res.nil) ?_
 exact ⟨C48.upd, _, rfl, _, _, _, _, _, _, rfl, hN46.mono (Le.trans (Le2 j47 j48) C48.le), hD46.mono (Le.trans (Le2 j47 j48) C48.le)⟩
end Go.Proofs.YtppalofalmieaaaGreat
namespace Go.Proofs.YtppalofalmieaaaGreat
open Go Go.Gv Go.RowKit
set_option maxRecDepth 100000
set_option maxHeartbeats 1000000
end Go.Proofs.YtppalofalmieaaaGreat
namespace Go.Proofs.YtppalofalmieaaaGreat
open Go Go.Gv Go.RowKit
set_option maxRecDepth 100000
set_option maxHeartbeats 1000000
/-- The negative. -/
def minusR (a : Raw) : Raw := ⟨!a.neg && decide (0 < a.ln.length), a.ln, a.ld⟩
theorem aggB {x y : Bool} {u v : Value} (h : x = y) : Value.agg #[.bool x, u, v] = .agg #[.bool y, u, v] := h ▸ rfl
end Go.Proofs.YtppalofalmieaaaGreat
namespace Go.Proofs.YtppalofalmieaaaGreat
open Go Go.Gv Go.RowKit
set_option maxRecDepth 100000
set_option maxHeartbeats 1000000
theorem vr_of {a : Raw} (h : a.chk = 0) : Vr a := by
  obtain ⟨h1, h2, h3, h4, _⟩ := Raw.chk_ok h
  exact ⟨h3, h4, by omega, by omega⟩
theorem ratE_long {z : Rat} (h : ¬ (z.num.natAbs < K128 ∧ den1 z.den < K128)) : ratE z = 4 := if_neg h
theorem ratE_fits {z : Rat} (h : z.num.natAbs < K128 ∧ den1 z.den < K128) : ratE z = 0 := if_pos h
/-- A result, if it fits. -/
def fitR (z : Rat) : Raw := if ratE z = 0 then Raw.of z else .zero
theorem fitR_long {z : Rat} (h : ratE z = 4) : fitR z = .zero := if_neg (by rw [h]; decide)
theorem fitR_ok {z : Rat} (h : ratE z = 0) : fitR z = .of z := if_pos h
theorem op6_err {a b : Raw} {z : Rat} (h : or2 a.chk b.chk ≠ 0) : opE a b z = or2 a.chk b.chk ∧ opR a b z = .zero := by
  have e : opE a b z = or2 a.chk b.chk := or2_err h
  exact ⟨e, if_neg (by rw [e]; exact h)⟩
theorem op6_ok {a b : Raw} {z : Rat} (h : or2 a.chk b.chk = 0) : opE a b z = ratE z ∧ opR a b z = fitR z := by
  have e : opE a b z = ratE z := or2_ok h
  exact ⟨e, by unfold opR fitR; rw [e]⟩
theorem minus_rat {b : Raw} (h : Canon b.ln) : (minusR b).rat = - b.rat := by
  have h1 := canon_len0 h
  show mkRat (sgn (!b.neg && decide (0 < b.ln.length)) (val b.ln)) b.d = - mkRat (sgn b.neg (val b.ln)) b.d
  rw [Rat.neg_mkRat]
  by_cases h0 : b.ln.length = 0
  · rw [h1.1 h0]; cases b.neg <;> simp [sgn]
  · rw [show decide (0 < b.ln.length) = true from decide_eq_true (by omega), Bool.and_true, sgn_not]
theorem num_neg6 {x : Rat} : x.num < 0 ↔ x < 0 := by
  rw [Rat.lt_iff, show (0 : Rat).num = 0 from rfl, show (0 : Rat).den = 1 from rfl]; omega
theorem cmpQ_neg {x y : Rat} (h : (x + - y).num < 0) : cmpQ x y = -1 := by
  have h1 : x + - y < 0 := num_neg6.1 h
  have h2 : x < y := by grind
  have h3 : x ≠ y := by grind
  rw [cmpQ, if_neg h3, if_pos h2]
theorem cmpQ_pos {x y : Rat} (h : ¬ (x + - y).num < 0) (h' : (x + - y).num.natAbs ≠ 0) : cmpQ x y = 1 := by
  have h1 : ¬ x + - y < 0 := fun e => h (num_neg6.2 e)
  have h0 : x + - y ≠ 0 := fun e => h' (by rw [e]; rfl)
  have h2 : ¬ x < y := by grind
  have h3 : x ≠ y := by grind
  rw [cmpQ, if_neg h3, if_neg h2]
theorem cmpQ_zero {x y : Rat} (h' : (x + - y).num.natAbs = 0) : cmpQ x y = 0 := by
  have h0 : x + - y = 0 := Rat.num_eq_zero.1 (by omega)
  have h3 : x = y := by grind
  rw [cmpQ, if_pos h3]
end Go.Proofs.YtppalofalmieaaaGreat
namespace Go.Proofs.YtppalofalmieaaaGreat
open Go Go.Gv Go.RowKit
set_option maxRecDepth 100000
set_option maxHeartbeats 1000000
/-- A number as an operation answers it. -/
def Nf (r : Raw) : Prop := r = .of r.rat ∧ ratE r.rat = 0
theorem Nf.zero : Nf .zero := by
  unfold Nf; rw [zero_rat0]; exact ⟨by decide, ratE_fits ⟨Nat.pow_pos (by omega), by show 0 < _; exact Nat.pow_pos (by omega)⟩⟩
theorem Nf.op {a b : Raw} {z : Rat} (h : opE a b z = 0) : Nf (opR a b z) := by
  have h1 : opR a b z = .of z := if_pos h
  rw [h1, Nf, Raw.of_rat]; exact ⟨rfl, (or2_zero h).2⟩
theorem Nf.chk {r : Raw} (h : Nf r) : r.chk = 0 := by rw [h.1]; exact Raw.of_chk h.2
theorem Nf.eq {r s : Raw} (h : Nf r) (h' : Nf s) : r = s ↔ r.rat = s.rat := ⟨fun e => by rw [e], fun e => by rw [h.1, h'.1, e]⟩
theorem addL_two {r p : Raw} (h : Nf r) : addL .zero [r, p] = (opR r p (r.rat + p.rat), opE r p (r.rat + p.rat)) := by
  have e1 : Raw.zero.rat + r.rat = r.rat := by rw [zero_rat0, Rat.zero_add]
  have e2 : opE .zero r (Raw.zero.rat + r.rat) = 0 := by rw [e1]; unfold opE; rw [zero_chk, h.chk, h.2]; rfl
  have e3 : opR .zero r (Raw.zero.rat + r.rat) = r := by unfold opR; rw [if_pos e2, e1]; exact h.1.symm
  rw [addL, if_pos e2, e3, addL]
  split
  · rename_i h1; rw [addL, h1]
  · rename_i h1; rw [opR, if_neg h1]
section
variable {r x y : Raw} {xs ys : List Raw} {k : Nat}
theorem dot6_add (hn : Nf r) (hx : xs[k]? = some x) (hy : ys[k]? = some y) (h : opE x y (x.rat * y.rat) = 0) (h2 : opE r (opR x y (x.rat * y.rat)) (r.rat + (opR x y (x.rat * y.rat)).rat) ≠ 0) :
    dotL r (xs.drop k) (ys.drop k) = (.zero, opE r (opR x y (x.rat * y.rat)) (r.rat + (opR x y (x.rat * y.rat)).rat)) := by
  have e := addL_two (p := opR x y (x.rat * y.rat)) hn
  rw [dotL_add hx hy h (by rw [e]; exact h2), e]
theorem dot6_step (hn : Nf r) (hx : xs[k]? = some x) (hy : ys[k]? = some y) (h : opE x y (x.rat * y.rat) = 0) (h2 : opE r (opR x y (x.rat * y.rat)) (r.rat + (opR x y (x.rat * y.rat)).rat) = 0) :
    dotL r (xs.drop k) (ys.drop k) = dotL (opR r (opR x y (x.rat * y.rat)) (r.rat + (opR x y (x.rat * y.rat)).rat)) (xs.drop (k + 1)) (ys.drop (k + 1)) := by
  have e := addL_two (p := opR x y (x.rat * y.rat)) hn
  rw [dotL_step hx hy h (by rw [e]; exact h2), e]
end
theorem int6 (n : Int) : mkRat (sgn (decide (n < 0)) n.natAbs) 1 = (n : Rat) := by rw [sgn_num]; first | exact Rat.mkRat_one _ | simp [Rat.mkRat_one] | (rw [Rat.mkRat_eq_div]; simp)
theorem nat6_c (w : World) (X : Hid) (hX : ∀ k o, X k o → k < w.heap.size) (n : Int) (h1 : -9223372036854775808 ≤ n) (h2 : n ≤ 9223372036854775807) : Calls Tryz.prog 85 #[.int .i64 n] w (Ret E0 w fun w' v => NatX X w' v n.natAbs) := by
 refine zen Tryz.func85 ?_
 have C0 : St E0 w X w X [] := St.start hX
 refine zz 12 ?_
 refine zt 4 (p := (n) < 0) (fun ht2 => ?_) (fun ht2 => ?_)
 ·
  refine zz 5 ?_
  refine zs 6 (v := .int .u64 (IntKind.u64.wrap (n))) (v' := .int .u64 (n + 18446744073709551616)) (vint (by rw [wrap_u64]; omega)) ?_
  refine zz 1 ?_
  refine zs 7 (v := .int .u64 (IntKind.u64.wrap ((0 : Int) - (n + 18446744073709551616)))) (v' := .int .u64 ((n.natAbs : Nat) : Int)) (vint (by rw [wrap_u64]; omega)) ?_
  refine zc C0 (from5_c _ _ C0.lt n.natAbs (by omega)) ?_
  rintro v4 w4 C4 j4 hu4 ⟨ad4, len4, cap4, rfl, hN4⟩
  refine zz 5 ?_
  refine zr' (v := .slice ad4 len4 cap4) ?_
  exact ⟨C4.upd, _, rfl, C4.lastN hN4⟩
 refine zz 7 ?_
 refine zs 10 (v := .int .u64 (IntKind.u64.wrap (n))) (v' := .int .u64 ((n.natAbs : Nat) : Int)) (vint (by rw [wrap_u64]; omega)) ?_
 refine zc C0 (from5_c _ _ C0.lt n.natAbs (by omega)) ?_
 rintro v6 w6 C6 j6 hu6 ⟨ad6, len6, cap6, rfl, hN6⟩
 refine zz 4 ?_
 refine zr' (v := .slice ad6 len6 cap6) ?_
 exact ⟨C6.upd, _, rfl, C6.lastN hN6⟩
theorem rFrom6_c (w : World) (X : Hid) (hX : ∀ k o, X k o → k < w.heap.size) (n : Int) (h1 : -9223372036854775808 ≤ n) (h2 : n ≤ 9223372036854775807) : Calls Tryz.prog 32 #[.int .i64 n] w (Ret E0 w fun w' v => RawX X w' v (.of (n : Rat))) := by
 refine zen Tryz.func32 ?_
 have C0 : St E0 w X w X [] := St.start hX
 refine zz 2 ?_
 refine zn pn (.cells #[.bool false, .slice none 0 0, .slice none 0 0] 28 (0, 0)) C0 ?_
 intro b3 w3 Y3 C3 j3 hu3
 refine zz 7 ?_
 refine zc C3 (nat6_c _ _ C3.lt n (by omega) (by omega)) ?_
 rintro v5 w5 C5 j5 hu5 ⟨ad5, len5, cap5, rfl, ls5, hL5, hcan5, hval5⟩
 obtain rfl := hL5.hlen
 have hsh5 : ls5.length ≤ 100000 := by have := canon_pow hcan5 (k := 3) (by rw [hval5]; exact Nat.lt_of_lt_of_le (show _ < 18446744073709551616 by omega) (by decide)); omega
 refine zc C5 (one6_c _ _ C5.lt) ?_
 rintro v7 w7 C7 j7 hu7 ⟨ad7, cap7, rfl, hL7⟩
 refine zc C7 (mk6_r _ _ C7.lt _ _ _ ls5 (hL5.mono j7) _ _ _ ([1]) hL7 _ (by omega) (by simp) hcan5 canon_one (by decide) (n : Rat) (by rw [hval5]; exact int6 n)) ?_
 rintro v9 w9 C9 j9 hu9 ⟨ad9, len9, cap9, ae9, le9, ce9, rfl, hN9, hD9⟩
 refine zx 0 #[.bool (decide ((n : Rat).num < 0)), .slice ad9 len9 cap9, .slice ae9 le9 ce9] C9 ?_
 intro w10 C10 j10
 refine zz 3 ?_
 refine zrS [.cell 2 28] (v := .agg #[.bool (decide ((n : Rat).num < 0)), .slice ad9 len9 cap9, .slice ae9 le9 ce9]) (Res.cM C10 0 Res.nil) ?_
 exact ⟨C10.upd, _, rfl, RatX.raw ⟨_, _, _, _, _, _, rfl, hN9.mono (Le.trans j10 C10.le), hD9.mono (Le.trans j10 C10.le)⟩⟩
theorem rOf6_c (w : World) (X : Hid) (hX : ∀ k o, X k o → k < w.heap.size) (p q : Int) (h1 : -9223372036854775808 ≤ p) (h2 : p ≤ 9223372036854775807) (h3 : -9223372036854775808 ≤ q) (h4 : q ≤ 9223372036854775807) (hq : q ≠ 0) : Calls Tryz.prog 33 #[.int .i64 p, .int .i64 q] w (Ret E0 w fun w' v => ∃ u, v = .tuple #[u, .int .i64 0] ∧ RawX X w' u (.of (mkRat (sgn (decide (p < 0) != decide (q < 0)) p.natAbs) q.natAbs))) := by
 refine zen Tryz.func33 ?_
 have C0 : St E0 w X w X [] := St.start hX
 refine zz 2 ?_
 refine zn pn (.cells #[.bool false, .slice none 0 0, .slice none 0 0] 28 (0, 0)) C0 ?_
 intro b3 w3 Y3 C3 j3 hu3
 refine zz 10 ?_
 refine zb 7 (b := ((q) == 0)) (fun hc4 => ?_) (fun hc4 => ?_)
 ·
  have ht5 : (q) = 0 := by simpa using hc4
  omega
 have ht6 : (q) ≠ 0 := by simpa using hc4
 refine zz 11 ?_
 refine zc C3 (nat6_c _ _ C3.lt p (by omega) (by omega)) ?_
 rintro v8 w8 C8 j8 hu8 ⟨ad8, len8, cap8, rfl, ls8, hL8, hcan8, hval8⟩
 obtain rfl := hL8.hlen
 have hsh8 : ls8.length ≤ 100000 := by have := canon_pow hcan8 (k := 3) (by rw [hval8]; exact Nat.lt_of_lt_of_le (show _ < 18446744073709551616 by omega) (by decide)); omega
 refine zz 1 ?_
 refine zc C8 (nat6_c _ _ C8.lt q (by omega) (by omega)) ?_
 rintro v10 w10 C10 j10 hu10 ⟨ad10, len10, cap10, rfl, ls10, hL10, hcan10, hval10⟩
 obtain rfl := hL10.hlen
 have hsh10 : ls10.length ≤ 100000 := by have := canon_pow hcan10 (k := 3) (by rw [hval10]; exact Nat.lt_of_lt_of_le (show _ < 18446744073709551616 by omega) (by decide)); omega
 refine zc C10 (mk6_r _ _ C10.lt _ _ _ ls8 (hL8.mono j10) _ _ _ ls10 hL10 _ (by omega) (by omega) hcan8 hcan10 (by rw [hval10]; omega) (mkRat (sgn (decide (p < 0) != decide (q < 0)) p.natAbs) q.natAbs) (by rw [hval8, hval10])) ?_
 rintro v12 w12 C12 j12 hu12 ⟨ad12, len12, cap12, ae12, le12, ce12, rfl, hN12, hD12⟩
 refine zx 0 #[.bool (decide ((mkRat (sgn (decide (p < 0) != decide (q < 0)) p.natAbs) q.natAbs).num < 0)), .slice ad12 len12 cap12, .slice ae12 le12 ce12] C12 ?_
 intro w13 C13 j13
 refine zz 4 ?_
 refine zrS [.cell 4 28, .tmp 5] (v := .tuple #[.agg #[.bool (decide ((mkRat (sgn (decide (p < 0) != decide (q < 0)) p.natAbs) q.natAbs).num < 0)), .slice ad12 len12 cap12, .slice ae12 le12 ce12], .int .i64 0]) (Res.cM C13 0 (Res.tZ Res.nil)) ?_
 exact ⟨C13.upd, _, rfl, _, rfl, RatX.raw ⟨_, _, _, _, _, _, rfl, hN12.mono (Le.trans j13 C13.le), hD12.mono (Le.trans j13 C13.le)⟩⟩
end Go.Proofs.YtppalofalmieaaaGreat

/- Parts of the proof: F1 F2 F3 F4 F5 F6 F7 F8 F9 F10 F11 F12 F13 F14 F15 F16 F17 F18 F19 F20 F21 F22 F23 F24 F25 F26 F27 F28 F40 R1 R2. By an AI agent. -/
import Derived.Test.YtppalofalmieaaaGreatRows
import Derived.Test.YtppalofalmieaaaGreatBaseA
import Derived.Test.YtppalofalmieaaaGreatBaseB
set_option linter.unusedVariables false
set_option linter.unusedSimpArgs false
set_option linter.unnecessarySimpa false
namespace Go.Proofs.YtppalofalmieaaaGreat
open Go Go.Gv Go.RowKit
set_option maxRecDepth 100000
set_option maxHeartbeats 1000000
theorem trim_c (w : World) (X : Hid) (hX : ∀ k o, X k o → k < w.heap.size) (ad : Option Addr) (len cap : Nat) (l : List Nat) (h : Limbs (rd w X) ad len cap l) :
    Calls Tryz.prog 157 #[.slice ad len cap] w (Ret E0 w fun _ v => v = .slice ad (trimN l) cap) := by
 obtain rfl := h.hlen
 have hl := h.hlen
 have hcap := h.hcap
 have hbig := h.hbig
 refine zen Tryz.func157 ?_
 have C0 : St E0 w X w X [] := St.start hX
 refine zz 7 ?_
 refine zlp Tryz.f157 [] [1, 0, 0] (fun (k : Nat) => [(0, .slice ad k cap)]) (fun (k : Nat) w1 => ∃ (Y1 : Hid), St E0 w X w1 Y1 [] ∧ Le (rd w X) (rd w1 Y1) ∧ (k ≤ l.length) ∧ (trimTo l k = trimTo l l.length)) (fun (k : Nat) => k) l.length ?_ ?_
 ·
  refine ⟨_, C0, Le.refl _, Nat.le_refl _, rfl⟩
 rintro k w2 K2 H2 ⟨Y2, C2, j2, hp2_0, hp2_1⟩
 have hk := hp2_0
 have ht := hp2_1
 refine zz 7 ?_
 refine zt 6 (p := (k : Int) > 0) (fun ht3 => ?_) (fun ht3 => ?_)
 ·
  obtain ⟨bk4, of5, rfl, _⟩ := h.addr (by omega)
  have hcell := (h.cell (i := k - 1) (by omega))
  refine zz 4 ?_
  refine zw 10 (x := (k : Int) - 1) ?_
  refine zi (b := bk4) (off := of5) (len := k) (cap := cap) (kd := .i64) (i := (k : Int) - 1) 1 (of5 + (k - 1)) ?_ (hoff := (by first | omega | (simp; done) | (simp; omega)))
  refine zl ((hcell.mono j2)).cells ?_
  refine zz 4 ?_
  refine zb 14 (b := (((l.getD (k - 1) 0 : Nat) : Int) == 0)) (fun hc6 => ?_) (fun hc6 => ?_)
  ·
   have ht7 : ((l.getD (k - 1) 0 : Nat) : Int) = 0 := by simpa using hc6
   have hk2 := trimTo_pred (l := l) (k := k) (by omega) (by omega)
   refine zz 9 ?_
   refine zw 18 (x := (k : Int) - 1) ?_
   refine zop (at1 [K2] Tryz.f157 [1, 0, 0, 0, 1, 0]) 4 (fun a8 _ G8 hz8 => zF (d := 19) (v := .slice (some ⟨bk4, of5, none⟩) (k - 1) cap) G8 kr (run_sliceTo' (t := 26) (e := 56) (ad := (some ⟨bk4, of5, none⟩)) (len := k) (cap := cap) (kd := .i64) (i := (k : Int) - 1) (h' := (k - 1)) (g := false) (m := 1) rfl kr kr kr kr (by omega) (by omega) (by first | omega | (simp; done) | (simp; omega)) _) ?_)
   intro a9 G9
   refine hz8 G9 ?_
   refine zz 3 ?_
   refine znext (fun a h => H2 (k - 1) _ a h ⟨_, C2, j2, by omega, by omega⟩ ?_)
   first | omega | (simp <;> omega)
  have ht10 : ((l.getD (k - 1) 0 : Nat) : Int) ≠ 0 := by simpa using hc6
  have hk2 := trimTo_here (l := l) (k := k) (by omega) (by omega)
  refine zz 13 ?_
  refine zr' (v := .slice (some ⟨bk4, of5, none⟩) k cap) ?_
  exact ⟨C2.upd, _, rfl, by unfold trimN; first | rw [← ht, hk2] | rw [← ht]; rfl⟩
 obtain rfl : k = 0 := by omega
 refine zz 23 ?_
 refine zr' (v := .slice ad 0 cap) ?_
 exact ⟨C2.upd, _, rfl, by unfold trimN; first | rw [← ht, hk2] | rw [← ht]; rfl⟩
end Go.Proofs.YtppalofalmieaaaGreat
namespace Go.Proofs.YtppalofalmieaaaGreat
open Go Go.Gv Go.RowKit
set_option maxRecDepth 100000
set_option maxHeartbeats 1000000
theorem isNaN_int (w : World) (X : Hid) (hX : ∀ k o, X k o → k < w.heap.size) (x : Int) : Calls Tryz.prog 197 #[.int .i64 x] w (Ret E0 w fun _ v => v = .bool false) := by
 refine zen Tryz.func197 ?_
 have C0 : St E0 w X w X [] := St.start hX
 refine zz 14 ?_
 refine zr' (v := .bool ((x) != x)) ?_
 exact ⟨C0.upd, _, rfl, by simp⟩
theorem isNaN_uint32 (w : World) (X : Hid) (hX : ∀ k o, X k o → k < w.heap.size) (x : Int) : Calls Tryz.prog 199 #[.int .u32 x] w (Ret E0 w fun _ v => v = .bool false) := by
 refine zen Tryz.func199 ?_
 have C0 : St E0 w X w X [] := St.start hX
 refine zz 14 ?_
 refine zr' (v := .bool ((x) != x)) ?_
 exact ⟨C0.upd, _, rfl, by simp⟩
def cmpI (x y : Int) : Int := if x < y then -1 else if x > y then 1 else 0
theorem compare_int (w : World) (X : Hid) (hX : ∀ k o, X k o → k < w.heap.size) (x y : Int) : Calls Tryz.prog 186 #[.int .i64 x, .int .i64 y] w (Ret E0 w fun _ v => v = .int .i64 (cmpI x y)) := by
 refine zen Tryz.func186 ?_
 have C0 : St E0 w X w X [] := St.start hX
 refine zz 8 ?_
 refine zc C0 (isNaN_int _ _ C0.lt x) ?_
 rintro v3 w3 C3 j3 hu3 rfl
 refine zz 6 ?_
 refine zc C3 (isNaN_int _ _ C3.lt y) ?_
 rintro v5 w5 C5 j5 hu5 rfl
 refine zz 29 ?_
 refine zt 16 (p := (x) < y) (fun ht6 => ?_) (fun ht6 => ?_)
 ·
  refine zz 8 ?_
  refine zr' (v := .int .i64 (-1)) ?_
  exact ⟨C5.upd, _, rfl, vint (by unfold cmpI; (repeat' split) <;> omega)⟩
 refine zz 11 ?_
 refine zt 19 (p := (x) > y) (fun ht7 => ?_) (fun ht7 => ?_)
 ·
  refine zz 8 ?_
  refine zr' (v := .int .i64 1) ?_
  exact ⟨C5.upd, _, rfl, vint (by unfold cmpI; (repeat' split) <;> omega)⟩
 refine zz 9 ?_
 refine zr' (v := .int .i64 0) ?_
 exact ⟨C5.upd, _, rfl, vint (by unfold cmpI; (repeat' split) <;> omega)⟩
theorem compare_uint32 (w : World) (X : Hid) (hX : ∀ k o, X k o → k < w.heap.size) (x y : Int) : Calls Tryz.prog 187 #[.int .u32 x, .int .u32 y] w (Ret E0 w fun _ v => v = .int .i64 (cmpI x y)) := by
 refine zen Tryz.func187 ?_
 have C0 : St E0 w X w X [] := St.start hX
 refine zz 8 ?_
 refine zc C0 (isNaN_uint32 _ _ C0.lt x) ?_
 rintro v3 w3 C3 j3 hu3 rfl
 refine zz 6 ?_
 refine zc C3 (isNaN_uint32 _ _ C3.lt y) ?_
 rintro v5 w5 C5 j5 hu5 rfl
 refine zz 29 ?_
 refine zt 16 (p := (x) < y) (fun ht6 => ?_) (fun ht6 => ?_)
 ·
  refine zz 8 ?_
  refine zr' (v := .int .i64 (-1)) ?_
  exact ⟨C5.upd, _, rfl, vint (by unfold cmpI; (repeat' split) <;> omega)⟩
 refine zz 11 ?_
 refine zt 19 (p := (x) > y) (fun ht7 => ?_) (fun ht7 => ?_)
 ·
  refine zz 8 ?_
  refine zr' (v := .int .i64 1) ?_
  exact ⟨C5.upd, _, rfl, vint (by unfold cmpI; (repeat' split) <;> omega)⟩
 refine zz 9 ?_
 refine zr' (v := .int .i64 0) ?_
 exact ⟨C5.upd, _, rfl, vint (by unfold cmpI; (repeat' split) <;> omega)⟩
theorem add32 (w : World) (X : Hid) (hX : ∀ k o, X k o → k < w.heap.size) (x y c : Int) (hx : 0 ≤ x ∧ x < 4294967296) (hy : 0 ≤ y ∧ y < 4294967296) (hc : 0 ≤ c ∧ c ≤ 1) : Calls Tryz.prog 191 #[.int .u32 x, .int .u32 y, .int .u32 c] w (Ret E0 w fun _ v => v = .tuple #[.int .u32 ((x + y + c) % 4294967296), .int .u32 ((x + y + c) / 4294967296)]) := by
 refine zen Tryz.func191 ?_
 have C0 : St E0 w X w X [] := St.start hX
 refine zz 10 ?_
 refine zs 10 (v := .int .u64 (IntKind.u64.wrap (x))) (v' := .int .u64 x) (vint (wu64 (by omega) (by omega))) ?_
 refine zz 2 ?_
 refine zs 12 (v := .int .u64 (IntKind.u64.wrap (y))) (v' := .int .u64 y) (vint (wu64 (by omega) (by omega))) ?_
 refine zz 1 ?_
 refine zs 13 (v := .int .u64 (IntKind.u64.wrap ((x) + y))) (v' := .int .u64 ((x) + y)) (vint (wu64 (by omega) (by omega))) ?_
 refine zz 2 ?_
 refine zs 15 (v := .int .u64 (IntKind.u64.wrap (c))) (v' := .int .u64 c) (vint (wu64 (by omega) (by omega))) ?_
 refine zz 1 ?_
 refine zs 16 (v := .int .u64 (IntKind.u64.wrap (((x) + y) + c))) (v' := .int .u64 (((x) + y) + c)) (vint (wu64 (by omega) (by omega))) ?_
 refine zz 7 ?_
 refine zs 18 (v := .int .u32 (IntKind.u32.wrap (((x) + y) + c))) (v' := .int .u32 ((((x) + y) + c) % 4294967296)) (vint (wrap_u32 _)) ?_
 refine zz 7 ?_
 refine zs 20 (v := .int .u64 (Int.fdiv (((x) + y) + c) (2 ^ 32))) (v' := .int .u64 ((((x) + y) + c) / 4294967296)) (vint (fdiv_pow _ 32 (by decide) (by decide))) ?_
 refine zz 1 ?_
 refine zs 21 (v := .int .u32 (IntKind.u32.wrap ((((x) + y) + c) / 4294967296))) (v' := .int .u32 (((x) + (y) + (c)) / 4294967296)) (vint (wu32 (by omega) (by omega))) ?_
 refine zz 4 ?_
 refine zr' (v := .tuple #[.int .u32 ((((x) + y) + c) % 4294967296), .int .u32 (((x) + (y) + (c)) / 4294967296)]) ?_
 exact ⟨C0.upd, _, rfl, by first | rfl | (congr 3; omega) | skip⟩
end Go.Proofs.YtppalofalmieaaaGreat
namespace Go.Proofs.YtppalofalmieaaaGreat
open Go Go.Gv Go.RowKit
set_option maxRecDepth 100000
set_option maxHeartbeats 1000000
theorem sub32 (w : World) (X : Hid) (hX : ∀ k o, X k o → k < w.heap.size) (x y c : Int) (hx : 0 ≤ x ∧ x < 4294967296) (hy : 0 ≤ y ∧ y < 4294967296) (hc : 0 ≤ c ∧ c ≤ 1) : Calls Tryz.prog 188 #[.int .u32 x, .int .u32 y, .int .u32 c] w (Ret E0 w fun _ v => v = .tuple #[.int .u32 ((((x) - y) % 4294967296 - c) % 4294967296), .int .u32 (if x < y + c then 1 else 0)]) := by
 refine zen Tryz.func188 ?_
 have C0 : St E0 w X w X [] := St.start hX
 refine zz 11 ?_
 refine zs 10 (v := .int .u32 (IntKind.u32.wrap ((x) - y))) (v' := .int .u32 (((x) - y) % 4294967296)) (vint (wrap_u32 _)) ?_
 refine zz 2 ?_
 refine zs 12 (v := .int .u32 (IntKind.u32.wrap ((((x) - y) % 4294967296) - c))) (v' := .int .u32 (((((x) - y) % 4294967296) - c) % 4294967296)) (vint (wrap_u32 _)) ?_
 refine zz 17 ?_
 refine zs 24 (v := .int .u32 (Int.fdiv (bor32 (band32 (bxor32 4294967295 x) y) (band32 (bxor32 4294967295 (bxor32 x y)) (((((x) - y) % 4294967296) - c) % 4294967296))) (2 ^ 31))) (v' := .int .u32 ((bor32 (band32 (bxor32 4294967295 x) y) (band32 (bxor32 4294967295 (bxor32 x y)) (((((x) - y) % 4294967296) - c) % 4294967296))) / 2147483648)) (vint (fdiv_pow _ 31 (by decide) (by decide))) ?_
 refine zz 4 ?_
 refine zr' (v := .tuple #[.int .u32 (((((x) - y) % 4294967296) - c) % 4294967296), .int .u32 ((bor32 (band32 (bxor32 4294967295 x) y) (band32 (bxor32 4294967295 (bxor32 x y)) (((((x) - y) % 4294967296) - c) % 4294967296))) / 2147483648)]) ?_
 exact ⟨C0.upd, _, rfl, by
    obtain ⟨xn, rfl⟩ := Int.eq_ofNat_of_zero_le hx.1
    obtain ⟨yn, rfl⟩ := Int.eq_ofNat_of_zero_le hy.1
    obtain ⟨cn, rfl⟩ := Int.eq_ofNat_of_zero_le hc.1
    obtain ⟨dn, hd⟩ := Int.eq_ofNat_of_zero_le (a := (((xn : Int) - yn) % 4294967296 - cn) % 4294967296) (by omega)
    have := sub32_nat xn yn cn dn (by omega) (by omega) (by omega) (by omega) hd.symm
    rw [hd, this]⟩
theorem or_c (w : World) (X : Hid) (hX : ∀ k o, X k o → k < w.heap.size) (b off len cap : Nat) (es : List Int) (hlen : len = es.length) (hbig : es.length ≤ 1000) (hat : At (rd w X) ⟨b, off, none⟩ (I64 es)) : Calls Tryz.prog 119 #[.slice (some ⟨b, off, none⟩) len cap] w (Ret E0 w fun _ v => v = .int .i64 (orL es)) := by
 refine zen Tryz.func119 ?_
 have C0 : St E0 w X w X [] := St.start hX
 refine zz 19 ?_
 refine zlp Tryz.f119 [] [1, 1, 0, 1, 0] (fun (k : Nat) => [(3, .int .i64 0), (6, .slice (some ⟨b, off, none⟩) len cap), (7, .int .i64 (len : Int)), (8, .int .i64 (k : Int))]) (fun (k : Nat) w1 => ∃ (Y1 : Hid), St E0 w X w1 Y1 [] ∧ Le (rd w X) (rd w1 Y1) ∧ (k ≤ es.length) ∧ (∀ j, j < k → es.getD j 0 = 0)) (fun (k : Nat) => es.length - k) 0 ?_ ?_
 ·
  refine ⟨_, C0, Le.refl _, Nat.zero_le _, fun j hj => absurd hj (Nat.not_lt_zero j)⟩
 rintro k w2 K2 H2 ⟨Y2, C2, j2, hp2_0, hp2_1⟩
 refine zz 6 ?_
 refine zt 9 (p := (k : Int) < (len : Int)) (fun ht3 => ?_) (fun ht3 => ?_)
 ·
  have hcell := (hat.one (I64_get (l := es) (i := k) (by omega)))
  refine zz 7 ?_
  refine zi (b := b) (off := off) (len := len) (cap := cap) (kd := .i64) (i := (k : Int)) 1 (off + k) ?_
  refine zl ((hcell.mono j2)).cells ?_
  refine zz 10 ?_
  refine zb 14 (b := ((es.getD k 0) != 0)) (fun hc4 => ?_) (fun hc4 => ?_)
  ·
   have ht5 : (es.getD k 0) ≠ 0 := by simpa using hc4
   refine zz 13 ?_
   refine zr' (v := .int .i64 (es.getD k 0)) ?_
   exact ⟨C2.upd, _, rfl, vint (by first | exact (orL_zero es (fun j hj => hp2_1 j (by omega))).symm | exact (orL_at es k (by omega) hp2_1 (by omega)).symm)⟩
  have ht6 : (es.getD k 0) = 0 := by simpa using hc4
  refine zz 6 ?_
  refine zw 16 (x := (k : Int) + 1) ?_
  refine zz 2 ?_
  refine znext (fun a h => H2 (k + 1) _ a h ⟨_, C2, j2, by omega, fun j hj => (by rcases Nat.lt_succ_iff_lt_or_eq.1 hj with h | h; exact hp2_1 j h; rw [h]; omega)⟩ ?_)
  first | omega | (simp <;> omega)
 have hk : k = es.length := by omega
 refine zz 13 ?_
 refine zr' (v := .int .i64 0) ?_
 exact ⟨C2.upd, _, rfl, vint (by first | exact (orL_zero es (fun j hj => hp2_1 j (by omega))).symm | exact (orL_at es k (by omega) hp2_1 (by omega)).symm)⟩
theorem clone_nil (w : World) (X : Hid) (hX : ∀ k o, X k o → k < w.heap.size) (len cap : Nat) (l : List Nat) (hl : len = l.length) (hlen : len ≤ 35184372088831) (hlt : ∀ x ∈ l, x < 4294967296) (hnil : l = []) : Calls Tryz.prog 153 #[.slice none len cap] w (Ret E0 w fun w' v => ∃ ad' len' cap', OwnU w w' 56 v l ad' len' cap') := by
 refine zen Tryz.func153 ?_
 have C0 : St E0 w X w X [] := St.start hX
 refine zz 20 ?_
 refine zr' (v := .slice none 0 0) ?_
 exact ⟨C0.upd, _, rfl, _, _, _, ⟨rfl, by rw [hnil]; rfl, hlt, .inl ⟨rfl, rfl, rfl⟩⟩⟩
theorem clone_some (w : World) (X : Hid) (hX : ∀ k o, X k o → k < w.heap.size) (ad : Addr) (len cap : Nat) (l : List Nat) (hl : len = l.length) (hlen : len ≤ 35184372088831) (hlt : ∀ x ∈ l, x < 4294967296) (hat : At (rd w X) ad (U32 l)) : Calls Tryz.prog 153 #[.slice (some ad) len cap] w (Ret E0 w fun w' v => ∃ ad' len' cap', OwnU w w' 56 v l ad' len' cap') := by
 refine zen Tryz.func153 ?_
 have C0 : St E0 w X w X [] := St.start hX
 refine zz 17 ?_
 refine zn (fun b => .slice (some ⟨b, 0, none⟩) 0 0) (.cells #[] 56 (0, 0)) C0 ?_
 intro b3 w3 Y3 C3 j3 hu3
 refine zz 1 ?_
 refine zop (at1 [] Tryz.f153 [1, 1, 0]) 2 (fun a4 _ G4 hz4 => op_appendZ (b := 4) (m := len) (c := cap) (size := 1) (ad := ad) (xs := []) (news := U32 l) (i0 := Tryz.t56) (cur := #[]) (nn := 0) (cap := 0) (g := b3) (e := 56) 0 G4 C3 kr ⟨Nat.le_refl _, Nat.zero_le _, rfl, rfl⟩ (hat.mono j3).cells (by simp [hl]) (by simp [U32, Value.oneCell']) (by simp only [maxLen]; omega) (by show (0 + len) * 4 ≤ _; omega) ?_)
 intro g5 cap5 cur5 w5 Y5 hrow5 C5 j5 a6 G6
 simp only [Nat.zero_add, List.nil_append] at G6 hrow5
 refine hz4 G6 ?_
 refine zz 4 ?_
 refine zr' (v := .slice (some ⟨g5, 0, none⟩) len cap5) ?_
 exact ⟨C5.upd, _, rfl, _, _, _, ⟨rfl, hl, hlt, .inr ⟨_, _, rfl, C5.own_ge 0 rfl, C5.get 0 rfl, ⟨hrow5, hlt⟩⟩⟩⟩
theorem clone_c (w : World) (X : Hid) (hX : ∀ k o, X k o → k < w.heap.size) (ad : Option Addr) (len cap : Nat) (l : List Nat) (h : Limbs (rd w X) ad len cap l) (hlen : len ≤ 35184372088831) : Calls Tryz.prog 153 #[.slice ad len cap] w (Ret E0 w fun w' v => ∃ ad' len' cap', OwnU w w' 56 v l ad' len' cap') := by
  rcases h.hat with h0 | ⟨b, off, rfl, hat⟩
  · cases ad with
    | none => exact clone_nil w X hX len cap l h.hlen hlen h.hlt h0
    | some a => exact clone_some w X hX a len cap l h.hlen hlen h.hlt (h0 ▸ fun j v hj => by simp [U32] at hj)
  · exact clone_some w X hX _ len cap l h.hlen hlen h.hlt hat
end Go.Proofs.YtppalofalmieaaaGreat
namespace Go.Proofs.YtppalofalmieaaaGreat
open Go Go.Gv Go.RowKit
set_option maxRecDepth 100000
set_option maxHeartbeats 1000000
theorem bcheck (w : World) (X : Hid) (hX : ∀ k o, X k o → k < w.heap.size) (ad : Option Addr) (len cap : Nat) (l : List Nat) (h : Limbs (rd w X) ad len cap l) : Calls Tryz.prog 145 #[.slice ad len cap] w (Ret E0 w fun _ v => v = .int .i64 (chkN l)) := by
 obtain rfl := h.hlen
 have hcap := h.hcap
 have hbig := h.hbig
 refine zen Tryz.func145 ?_
 have C0 : St E0 w X w X [] := St.start hX
 refine zz 15 ?_
 refine zt 3 (p := (l.length : Int) > 512) (fun ht2 => ?_) (fun ht2 => ?_)
 ·
  refine zz 9 ?_
  refine zr' (v := .int .i64 4) ?_
  exact ⟨C0.upd, _, rfl, vint (by unfold chkN; (repeat' split) <;> first | rfl | omega)⟩
 refine zz 7 ?_
 refine zt 11 (p := (l.length : Int) > 0) (fun ht3 => ?_) (fun ht3 => ?_)
 ·
  obtain ⟨bk4, of5, rfl, _⟩ := h.addr (by omega)
  refine zz 4 ?_
  refine zw 15 (x := (l.length : Int) - 1) ?_
  refine zi (b := bk4) (off := of5) (len := l.length) (cap := cap) (kd := .i64) (i := (l.length : Int) - 1) 1 (of5 + (l.length - 1)) ?_ (hoff := (by first | omega | (simp; done) | (simp; omega)))
  refine zl ((h.cell (i := (l.length - 1)) (by omega)).mono (Le.refl _)).cells ?_
  refine zz 5 ?_
  refine zb 7 (b := (((l.getD (l.length - 1) 0 : Nat) : Int) == 0)) (fun hc6 => ?_) (fun hc6 => ?_)
  ·
   have ht7 : ((l.getD (l.length - 1) 0 : Nat) : Int) = 0 := by simpa using hc6
   refine zz 9 ?_
   refine zr' (v := .int .i64 2) ?_
   exact ⟨C0.upd, _, rfl, vint (by unfold chkN; (repeat' split) <;> first | rfl | omega)⟩
  have ht8 : ((l.getD (l.length - 1) 0 : Nat) : Int) ≠ 0 := by simpa using hc6
  refine zz 10 ?_
  refine zr' (v := .int .i64 0) ?_
  exact ⟨C0.upd, _, rfl, vint (by unfold chkN; (repeat' split) <;> first | rfl | omega)⟩
 refine zz 21 ?_
 refine zr' (v := .int .i64 0) ?_
 exact ⟨C0.upd, _, rfl, vint (by unfold chkN; (repeat' split) <;> first | rfl | omega)⟩
def chk2 (l l2 : List Nat) : Int := orL [chkN l, chkN l2]
theorem bcheck2 (w : World) (X : Hid) (hX : ∀ k o, X k o → k < w.heap.size) (ad : Option Addr) (len cap : Nat) (l : List Nat) (h : Limbs (rd w X) ad len cap l) (ad2 : Option Addr) (len2 cap2 : Nat) (l2 : List Nat) (h2 : Limbs (rd w X) ad2 len2 cap2 l2) : Calls Tryz.prog 165 #[.slice ad len cap, .slice ad2 len2 cap2] w (Ret E0 w fun _ v => v = .int .i64 (chk2 l l2)) := by
 refine zen Tryz.func165 ?_
 have C0 : St E0 w X w X [] := St.start hX
 refine zz 8 ?_
 refine zc C0 (bcheck _ X0 (X0_lt _) _ _ _ l (h.mono Le.x0)) ?_
 rintro v3 w3 C3 j3 hu3 rfl
 refine zz 1 ?_
 refine zc C3 (bcheck _ X0 (X0_lt _) _ _ _ l2 ((h2.mono j3).mono Le.x0)) ?_
 rintro v5 w5 C5 j5 hu5 rfl
 refine zn (fun b => .slice (some ⟨b, 0, none⟩) 2 2) (.cells #[.int .i64 (chkN l), .int .i64 (chkN l2)] 34 (0, 0)) C5 ?_
 intro b7 w7 Y7 C7 j7 hu7
 refine zc C7 (or_c _ X0 (X0_lt _) _ _ _ _ [chkN l, chkN l2] rfl (by simp) (C7.at0 0 rfl rfl)) ?_ (vs := #[.slice (some ⟨b7, 0, none⟩) 2 2])
 rintro v9 w9 C9 j9 hu9 rfl
 refine zz 4 ?_
 refine zr' (v := .int .i64 (orL [chkN l, chkN l2])) ?_
 exact ⟨C9.upd, _, rfl, vint (rfl)⟩
theorem fit_c (w : World) (X : Hid) (hX : ∀ k o, X k o → k < w.heap.size) (ad : Option Addr) (len cap : Nat) (l : List Nat) (h : Limbs (rd w X) ad len cap l) : Calls Tryz.prog 173 #[.slice ad len cap] w (Ret E0 w fun _ v => v = if 512 < trimN l then .tuple #[.slice none 0 0, .int .i64 4] else .tuple #[.slice ad (trimN l) cap, .int .i64 0]) := by
 have hcap := h.hcap
 have hbig := h.hbig
 have hl := h.hlen
 have htr := trimTo_le l l.length
 rw [show trimTo l l.length = trimN l from rfl] at htr
 refine zen Tryz.func173 ?_
 have C0 : St E0 w X w X [] := St.start hX
 refine zz 10 ?_
 refine zc C0 (trim_c _ _ C0.lt _ _ _ l h) ?_
 rintro v3 w3 C3 j3 hu3 rfl
 refine zz 10 ?_
 refine zt 8 (p := (trimN l : Int) > 512) (fun ht4 => ?_) (fun ht4 => ?_)
 ·
  refine zz 9 ?_
  refine zr' (v := .tuple #[.slice none 0 0, .int .i64 4]) ?_
  exact ⟨C3.upd, _, rfl, by first | rw [if_pos (by omega)] | rw [if_neg (by omega)]⟩
 refine zz 11 ?_
 refine zr' (v := .tuple #[.slice ad (trimN l) cap, .int .i64 0]) ?_
 exact ⟨C3.upd, _, rfl, by first | rw [if_pos (by omega)] | rw [if_neg (by omega)]⟩
end Go.Proofs.YtppalofalmieaaaGreat
namespace Go.Proofs.YtppalofalmieaaaGreat
open Go Go.Gv Go.RowKit
set_option maxRecDepth 100000
set_option maxHeartbeats 1000000
abbrev Two (a b : Nat) : Nat → Prop := fun k => k = a ∨ k = b
abbrev HTwo (a b : Nat) : Hid := fun k _ => k = a ∨ k = b
theorem add1_c (w : World) (g bc ba i m cap : Nat) (cur : Array Value) (l : List Nat) (x c : Nat) (hne : g ≠ bc) (hbg : ba ≠ g) (hbb : ba ≠ bc) (hg : w.heap[g]? = some (.cells cur 56 (0, 0))) (hrow : URow m cap cur l)
    (hbc : w.heap[bc]? = some (.cells #[.int .u32 (c : Int)] 56 (0, 0))) (hba : At (rd w (HTwo g bc)) ⟨ba, 0, none⟩ [.slice (some ⟨g, 0, none⟩) m cap]) (hi : i < l.length) (hx : x < 4294967296) (hc : c ≤ 1) (hbig : m ≤ 4611686018427387904) :
    Calls Tryz.prog 190 #[.int .i64 (i : Int), .int .u32 (x : Int), .pointer (some ⟨ba, 0, none⟩), .pointer (some ⟨bc, 0, none⟩)] w (Ret (Two g bc) w fun w' v => v = .tuple #[] ∧ ∃ cur', w'.heap[g]? = some (.cells cur' 56 (0, 0)) ∧ URow m cap cur' (l.set i ((l.getD i 0 + x + c) % 4294967296)) ∧
      w'.heap[bc]? = some (.cells #[.int .u32 (((l.getD i 0 + x + c) / 4294967296 : Nat) : Int)] 56 (0, 0))) := by
 have hX : ∀ k o, HTwo g bc k o → k < w.heap.size := by
   rintro k o (rfl | rfl)
   · exact (Array.getElem?_eq_some_iff.1 hg).1
   · exact (Array.getElem?_eq_some_iff.1 hbc).1
 refine i_enter (n := 19) (vs := [.int .i64 (i : Int), .int .u32 (x : Int), .pointer (some ⟨ba, 0, none⟩), .pointer (some ⟨bc, 0, none⟩)]) Tryz.func190 rfl rfl rfl kr (fun a0 G0 => ?_)
 have G0 : Fr 19 a0 [(0, .int .i64 (i : Int)), (1, .int .u32 (x : Int)), (2, .pointer (some ⟨ba, 0, none⟩)), (3, .pointer (some ⟨bc, 0, none⟩))] := G0
 have C0 : St (Two g bc) w (HTwo g bc) w (HTwo g bc) [(g, .cells cur 56 (0, 0)), (bc, .cells #[.int .u32 (c : Int)] 56 (0, 0))] := St.start2 hX hg hbc (fun _ => .inl rfl) (fun _ => .inr rfl) hne
 have hlen := hrow.len
 have hlt := hrow.getD_lt i
 refine i_drawN (N := 15) (Held [(⟨ba, 0, none⟩, [.slice (some ⟨g, 0, none⟩) m cap]), (⟨g, i, none⟩, [.int .u32 ((l.getD i 0 : Nat) : Int)]), (⟨bc, 0, none⟩, [.int .u32 (c : Int)])]) [13, 14] kr kr kr C0 ?_
 intro w1 C1 j1 hu1
 refine with_held (Held.cons ((hba.mono j1)).cells (Held.cons (C1.rowCells 0 rfl hrow (by have := hrow.len; (try simp only [List.length_set] at *); omega)) (Held.cons (C1.cells 1 rfl rfl) (Held.nil _)))) (fun hH1 => ?_)
 refine t_load (d := 7) (v := .slice (some ⟨g, 0, none⟩) m cap) 0 G0 rfl kr kr kr (fun w hw => zB (t := 26) (g := false) (vs := [.slice (some ⟨g, 0, none⟩) m cap]) (ad := ⟨ba, 0, none⟩) rfl kr kr ir (hw.get 0 kr)) hH1 ?_
 intro a2 G2
 refine zK (d := 8) (v := .int .i64 (i : Int)) 1 G2 rfl kr kr kw (fun _ => hH1) ?_
 intro a3 G3
 refine t_load (d := 9) (v := .slice (some ⟨g, 0, none⟩) m cap) 2 G3 rfl kr kr kr (fun w hw => zB (t := 26) (g := false) (vs := [.slice (some ⟨g, 0, none⟩) m cap]) (ad := ⟨ba, 0, none⟩) rfl kr kr ir (hw.get 0 kr)) hH1 ?_
 intro a4 G4
 refine zK (d := 10) (v := .int .i64 (i : Int)) 3 G4 rfl kr kr kw (fun _ => hH1) ?_
 intro a5 G5
 refine zK (d := 11) (v := .pointer (some ⟨g, i, none⟩)) 4 G5 rfl kr kr (fun w => run_indexOp (t := 26) (e := 56) (b := g) (off := 0) (len := m) (cap := cap) (kd := .i64) (i := (i : Int)) (g := false) (m := 1) (off' := i) rfl kr kr kr kr (by omega) (by omega) (by first | rfl | omega | (simp; done) | (simp; omega)) w) (fun _ => hH1) ?_
 intro a6 G6
 refine t_load (d := 12) (v := .int .u32 ((l.getD i 0 : Nat) : Int)) 5 G6 rfl kr kr kr (fun w hw => zB (t := 56) (g := false) (vs := [.int .u32 ((l.getD i 0 : Nat) : Int)]) (ad := ⟨g, i, none⟩) rfl kr kr ir (hw.get 1 kr)) hH1 ?_
 intro a7 G7
 refine zK (d := 13) (v := .int .u32 (x : Int)) 6 G7 rfl kr kr kw (fun _ => hH1) ?_
 intro a8 G8
 refine t_load (d := 14) (v := .int .u32 (c : Int)) 7 G8 rfl kr kr kr (fun w hw => zB (t := 56) (g := false) (vs := [.int .u32 (c : Int)]) (ad := ⟨bc, 0, none⟩) rfl kr kr ir (hw.get 2 kr)) hH1 ?_
 intro a9 G9
 refine t_fork [8] kr rfl ?_
 refine ForkT.cons (i := 8) G9 rfl kr (op_call (d := 15) (f := 191) (cap := #[]) (vs := #[.int .u32 ((l.getD i 0 : Nat) : Int), .int .u32 (x : Int), .int .u32 (c : Int)]) G9 kr C1 rfl kr kr (fun w => Tryz.call191 _ w) (add32 _ _ C1.lt ((l.getD i 0 : Nat) : Int) (x : Int) (c : Int) ⟨by omega, by omega⟩ ⟨by omega, by omega⟩ ⟨by omega, by omega⟩) ?_) ForkT.nil
 rintro v10 w10 C10 j10 hu10 rfl a11 G11
 refine held_next (hH1.up hu10) (fun hH10 => ?_)
 refine zK (d := 6) (v := .tuple #[.int .u32 ((((l.getD i 0 : Nat) : Int) + (x : Int) + (c : Int)) % 4294967296), .int .u32 ((((l.getD i 0 : Nat) : Int) + (x : Int) + (c : Int)) / 4294967296)]) 9 G11 rfl kr kr kw (fun _ => hH10) ?_
 intro a12 G12
 refine zK (d := 16) (v := .int .u32 ((((l.getD i 0 : Nat) : Int) + (x : Int) + (c : Int)) % 4294967296)) 10 G12 rfl kr kr kw (fun _ => hH10) ?_
 intro a13 G13
 refine zK (d := 17) (v := .int .u32 ((((l.getD i 0 : Nat) : Int) + (x : Int) + (c : Int)) / 4294967296)) 11 G13 rfl kr kr kw (fun _ => hH10) ?_
 intro a14 G14
 refine zK (d := 18) (v := .pointer (some ⟨g, i, none⟩)) 12 G14 rfl kr kr (fun w => run_indexOp (t := 26) (e := 56) (b := g) (off := 0) (len := m) (cap := cap) (kd := .i64) (i := (i : Int)) (g := false) (m := 1) (off' := i) rfl kr kr kr kr (by omega) (by omega) (by first | rfl | omega | (simp; done) | (simp; omega)) w) (fun _ => hH10) ?_
 intro a15 G15
 refine t_fork [13] kr rfl ?_
 refine ForkT.cons (i := 13) G15 rfl kr (op_storeU (t := 56) (y := ((l.getD i 0 + x + c) % 4294967296)) (k := i) (e := (((l.getD i 0 : Nat) : Int) + (x : Int) + (c : Int)) % 4294967296) 0 G15 kr C10 rfl rfl rfl (by first | rfl | omega | (simp; omega)) kr rfl hrow (by have := hrow.len; (try simp only [List.length_set] at *); omega) (by first | omega | (simp; omega)) ?_) ForkT.nil
 intro cur16 w16 hrow16 C16 j16
 refine ⟨begun_tt kr, ?_⟩
 refine t_fork [14] kr rfl ?_
 refine ForkT.cons (i := 14) G15 rfl kr (zE (t := 56) (b := bc) (off := 0) (c' := #[.int .u32 ((((l.getD i 0 : Nat) : Int) + (x : Int) + (c : Int)) / 4294967296)]) (g := false) (m := 1) 1 _ G15 kr C16 rfl kr rfl kr kr kr rfl (by first | decide | (simp; done)) kr rfl ?_) ForkT.nil
 intro w17 C17 j17
 refine ⟨begun_tt kr, ?_⟩
 refine t_done kr (nrm ?_)
 refine c_end (v := .tuple #[]) (rs := []) G15 kr Res.nil kr ?_
 refine ⟨C17.upd, _, rfl, rfl, cur16, C17.get 0 rfl, ?_, ?_⟩
 ·
  exact hrow16
 ·
  rw [C17.get 1 rfl]; congr 4
end Go.Proofs.YtppalofalmieaaaGreat
namespace Go.Proofs.YtppalofalmieaaaGreat
open Go Go.Gv Go.RowKit
set_option maxRecDepth 100000
set_option maxHeartbeats 1000000
abbrev HG (g : Nat) : Hid := fun k _ => k = g
abbrev B32 : Nat := 4294967296
theorem addstep (l1 l2 : List Nat) (j k c T : Nat) (hj : j < l2.length) (hk : j + k < l1.length) (h : val l1 + c * 4294967296 ^ (j + k) = T + 4294967296 ^ k * val (l2.take j)) :
    val (l1.set (j + k) ((l1.getD (j + k) 0 + l2.getD j 0 + c) % 4294967296)) + (l1.getD (j + k) 0 + l2.getD j 0 + c) / 4294967296 * 4294967296 ^ (j + 1 + k) = T + 4294967296 ^ k * val (l2.take (j + 1)) := by
  have h1 := val_add_step l1 (j + k) (l2.getD j 0) c hk
  rw [val_take l2 j hj, Nat.mul_add, show 4294967296 ^ k * (l2.getD j 0 * 4294967296 ^ j) = l2.getD j 0 * 4294967296 ^ (j + k) by rw [Nat.pow_add]; ac_rfl, show j + 1 + k = j + k + 1 by omega]
  omega
theorem addstep0 (l1 : List Nat) (p c T : Nat) (hk : p < l1.length) (h : val l1 + c * 4294967296 ^ p = T) :
    val (l1.set p ((l1.getD p 0 + 0 + c) % 4294967296)) + (l1.getD p 0 + 0 + c) / 4294967296 * 4294967296 ^ (p + 1) = T := by
  have h1 := val_add_step l1 p 0 c hk
  omega
theorem add_c (w : World) (g m cap : Nat) (cur : Array Value) (l : List Nat) (hg : w.heap[g]? = some (.cells cur 56 (0, 0))) (hrow : URow m cap cur l) (hm : m ≤ 1099511627776)
    (ad2 : Option Addr) (len2 cap2 : Nat) (l2 : List Nat) (h2 : Limbs (rd w (HG g)) ad2 len2 cap2 l2) (k : Nat) (hk : l2.length + k ≤ m) (hsum : val l + 4294967296 ^ k * val l2 < 4294967296 ^ m) :
    Calls Tryz.prog 172 #[.slice (some ⟨g, 0, none⟩) m cap, .slice ad2 len2 cap2, .int .i64 (k : Int)] w (Ret (· = g) w fun w' v => v = .tuple #[] ∧ ∃ cur' l', w'.heap[g]? = some (.cells cur' 56 (0, 0)) ∧ URow m cap cur' l' ∧ val l' = val l + 4294967296 ^ k * val l2) := by
 obtain rfl := h2.hlen
 have hcap2 := h2.hcap
 have hbig2 := h2.hbig
 refine zen Tryz.func172 ?_
 have hX : ∀ k o, HG g k o → k < w.heap.size := by rintro k o rfl; exact (Array.getElem?_eq_some_iff.1 hg).1
 have C0 : St (· = g) w (HG g) w (HG g) [(g, .cells cur 56 (0, 0))] := St.startE g _ hX hg (fun _ => rfl)
 refine zz 2 ?_
 refine zn pn (.cells #[.slice (some ⟨g, 0, none⟩) m cap] 26 (0, 0)) C0 ?_
 intro b3 w3 Y3 C3 j3 hu3
 refine zz 4 ?_
 refine zn pn (.cells #[.int .u32 0] 56 (0, 0)) C3 ?_
 intro b5 w5 Y5 C5 j5 hu5
 refine zx 0 #[.int .u32 0] C5 ?_
 intro w6 C6 j6
 refine zz 17 ?_
 refine zlp Tryz.f172 [] [1, 1, 1, 0, 1, 0] (fun (j : Nat) => [(1, .slice ad2 l2.length cap2), (2, .int .i64 (k : Int)), (6, .pointer (some ⟨b5, 0, none⟩)), (7, .func (.func 190) #[] #[.pointer (some ⟨b3, 0, none⟩), .pointer (some ⟨b5, 0, none⟩)]), (12, .slice ad2 l2.length cap2), (13, .int .i64 (l2.length : Int)), (14, .int .i64 (j : Int))]) (fun (j : Nat) w1 => ∃ (Y1 : Hid) (cur1 : Array Value) (l1 : List Nat) (c : Nat), St (· = g) w (HG g) w1 Y1 [(b5, .cells #[.int .u32 (c : Int)] 56 (0, 0)), (b3, .cells #[.slice (some ⟨g, 0, none⟩) m cap] 26 (0, 0)), (g, .cells cur1 56 (0, 0))] ∧ Le (rd w6 Y5) (rd w1 Y1) ∧ (URow m cap cur1 l1) ∧ (j ≤ l2.length) ∧ (c ≤ 1) ∧ (val l1 + c * 4294967296 ^ (j + k) = val l + 4294967296 ^ k * val (l2.take j))) (fun (j : Nat) => l2.length - j) 0 ?_ ?_
 ·
  refine ⟨_, cur, l, 0, C6, Le.refl _, hrow, Nat.zero_le _, by omega, by simp [val]⟩
 rintro j w7 K7 H7 ⟨Y7, cur1, l1, c, C7, j7, hp7_0, hp7_1, hp7_2, hp7_3⟩
 have hrow1 := hp7_0
 have hlen1 := hrow1.len
 refine zz 6 ?_
 refine zt 15 (p := (j : Int) < (l2.length : Int)) (fun ht8 => ?_) (fun ht8 => ?_)
 ·
  obtain ⟨bk9, of10, rfl, _⟩ := h2.addr (by omega)
  refine zz 8 ?_
  refine zi (b := bk9) (off := of10) (len := l2.length) (cap := cap2) (kd := .i64) (i := (j : Int)) 1 (of10 + j) ?_
  have hc1_ := (Le3 j3 j5 j6).trans j7
  refine zl ((h2.cell (i := j) (by omega)).mono hc1_).cells ?_
  refine zz 9 ?_
  refine zw 22 (x := ((j + k : Nat) : Int)) ?_
  refine zz 1 ?_
  refine zop (at1 [K7] Tryz.f172 [1, 1, 1, 0, 1, 0, 0, 1, 1, 0, 0, 1]) 5 (fun a11 _ G11 hz11 => op_call2Z 2 0 G11 C7 rfl rfl (add1_c _ g b5 b3 (j + k) m cap cur1 l1 (l2.getD j 0) c (C7.ne (i := 2) (j := 0) rfl rfl (by decide)) (C7.ne (i := 1) (j := 2) rfl rfl (by decide)) (C7.ne (i := 1) (j := 0) rfl rfl (by decide)) (C7.get 2 rfl) hrow1 (C7.get 0 rfl) (C7.atX 1 rfl (fun _ hx => hx.elim (C7.ne (i := 1) (j := 2) rfl rfl (by decide)) (C7.ne (i := 1) (j := 0) rfl rfl (by decide)))) (by omega) (by first | exact h2.getD_lt _ | omega) (by omega) (by omega)) ?_)
  rintro v12 w12 ⟨rfl, cur12, hg12, hrow12, hbc12⟩ hSf12 j12 a13 G13
  have C12 := hSf12 _ _ hg12 hbc12
  refine hz11 G13 ?_
  refine zz 5 ?_
  refine zw 25 (x := (j : Int) + 1) ?_
  refine zz 2 ?_
  refine znext (fun a h => H7 (j + 1) _ a h ⟨_, cur12, (l1.set (j + k) ((l1.getD (j + k) 0 + l2.getD j 0 + c) % 4294967296)), ((l1.getD (j + k) 0 + l2.getD j 0 + c) / 4294967296), C12, (Le2 j7 j12), hrow12, by omega, by have := h2.getD_lt j; have := hrow1.getD_lt (j + k); omega, addstep _ _ _ _ _ _ (by omega) (by omega) hp7_3⟩ ?_)
  first | omega | (simp <;> omega)
 refine zz 12 ?_
 refine zw 29 (x := ((l2.length + k : Nat) : Int)) ?_
 refine zz 4 ?_
 have htot := hp7_3
 have hj1 := hp7_1
 obtain rfl : j = l2.length := by omega
 rw [List.take_length] at htot
 refine zlp Tryz.f172 [K7] [1, 1, 1, 1, 1, 0] (fun (j : Nat) => [(6, .pointer (some ⟨b5, 0, none⟩)), (7, .func (.func 190) #[] #[.pointer (some ⟨b3, 0, none⟩), .pointer (some ⟨b5, 0, none⟩)]), (10, .int .i64 (j : Int))]) (fun (j : Nat) w1 => ∃ (Y1 : Hid) (cur1 : Array Value) (l1 : List Nat) (c : Nat), St (· = g) w (HG g) w1 Y1 [(b5, .cells #[.int .u32 (c : Int)] 56 (0, 0)), (b3, .cells #[.slice (some ⟨g, 0, none⟩) m cap] 26 (0, 0)), (g, .cells cur1 56 (0, 0))] ∧ Le (rd w7 Y7) (rd w1 Y1) ∧ (URow m cap cur1 l1) ∧ (c ≤ 1) ∧ (val l1 + c * 4294967296 ^ j = val l + 4294967296 ^ k * val l2)) (fun (j : Nat) => m - j) (l2.length + k) ?_ ?_
 ·
  refine ⟨_, cur1, l1, c, C7, Le.refl _, hrow1, hp7_2, htot⟩
 rintro j w14 K14 H14 ⟨Y14, cur1, l1, c, C14, j14, hp14_0, hp14_1, hp14_2⟩
 have hrow1 := hp14_0
 have hlen1 := hrow1.len
 refine zz 3 ?_
 refine zo 0 C14 ?_
 refine zz 3 ?_
 refine zb 31 (b := ((c : Int) != 0)) (fun hc15 => ?_) (fun hc15 => ?_)
 ·
  have ht16 : (c : Int) ≠ 0 := by simpa using hc15
  have hjm : j < m := pow_lt_of (i := j) (len := m) (v := val l + 4294967296 ^ k * val l2) (by have h1 := hp14_2; obtain rfl : c = 1 := (by have := hp14_1; omega); omega) hsum
  refine zz 8 ?_
  refine zop (at1 [K7, K14] Tryz.f172 [1, 1, 1, 1, 1, 0, 0, 1, 0, 0]) 2 (fun a17 _ G17 hz17 => op_call2Z 2 0 G17 C14 rfl rfl (add1_c _ g b5 b3 (j) m cap cur1 l1 (0) c (C14.ne (i := 2) (j := 0) rfl rfl (by decide)) (C14.ne (i := 1) (j := 2) rfl rfl (by decide)) (C14.ne (i := 1) (j := 0) rfl rfl (by decide)) (C14.get 2 rfl) hrow1 (C14.get 0 rfl) (C14.atX 1 rfl (fun _ hx => hx.elim (C14.ne (i := 1) (j := 2) rfl rfl (by decide)) (C14.ne (i := 1) (j := 0) rfl rfl (by decide)))) (by omega) (by first | exact h2.getD_lt _ | omega) (by omega) (by omega)) ?_)
  rintro v18 w18 ⟨rfl, cur18, hg18, hrow18, hbc18⟩ hSf18 j18 a19 G19
  have C18 := hSf18 _ _ hg18 hbc18
  refine hz17 G19 ?_
  refine zz 6 ?_
  refine zw 33 (x := (j : Int) + 1) ?_
  refine zz 2 ?_
  refine znext (fun a h => H14 (j + 1) _ a h ⟨_, cur18, (l1.set (j) ((l1.getD (j) 0 + 0 + c) % 4294967296)), ((l1.getD (j) 0 + 0 + c) / 4294967296), C18, (Le2 j14 j18), hrow18, by have := hrow1.getD_lt j; omega, addstep0 _ _ _ _ (by omega) hp14_2⟩ ?_)
  first | omega | (simp <;> omega)
 have ht20 : (c : Int) = 0 := by simpa using hc15
 obtain rfl : c = 0 := by omega
 refine zz 5 ?_
 refine zr' (v := .tuple #[]) ?_
 exact ⟨C14.upd, _, rfl, rfl, _, _, C14.get 2 rfl, hrow1, by have := hp14_2; simpa using this⟩
end Go.Proofs.YtppalofalmieaaaGreat
namespace Go.Proofs.YtppalofalmieaaaGreat
open Go Go.Gv Go.RowKit
set_option maxRecDepth 100000
set_option maxHeartbeats 1000000
theorem from_c (w : World) (X : Hid) (hX : ∀ k o, X k o → k < w.heap.size) (x : Nat) (hx : x < 18446744073709551616) : Calls Tryz.prog 125 #[.int .u64 (x : Int)] w (Ret E0 w fun w' v => ∃ l ad len cap, OwnU w w' 56 v l ad len cap ∧ Canon l ∧ val l = x) := by
 refine zen Tryz.func125 ?_
 have C0 : St E0 w X w X [] := St.start hX
 refine zz 9 ?_
 refine zs 4 (v := .int .u32 (IntKind.u32.wrap ((x : Int)))) (v' := .int .u32 ((x % 4294967296 : Nat) : Int)) (vint (by rw [wrap_u32]; omega)) ?_
 refine zz 2 ?_
 refine zs 6 (v := .int .u64 (Int.fdiv ((x : Int)) (2 ^ 32))) (v' := .int .u64 ((x / 4294967296 : Nat) : Int)) (vint (by rw [fdiv_pow _ 32 (c := 4294967296) (by decide) (by decide)]; omega)) ?_
 refine zz 1 ?_
 refine zs 7 (v := .int .u32 (IntKind.u32.wrap (((x / 4294967296 : Nat) : Int)))) (v' := .int .u32 ((x / 4294967296 % 4294967296 : Nat) : Int)) (vint (by rw [wrap_u32]; omega)) ?_
 refine zn (fun b => .slice (some ⟨b, 0, none⟩) 2 2) (.cells #[.int .u32 ((x % 4294967296 : Nat) : Int), .int .u32 ((x / 4294967296 % 4294967296 : Nat) : Int)] 56 (0, 0)) C0 ?_
 intro b3 w3 Y3 C3 j3 hu3
 have hrow5 : URow 2 2 #[.int .u32 ((x % 4294967296 : Nat) : Int), .int .u32 ((x / 4294967296 % 4294967296 : Nat) : Int)] [x % 4294967296, x / 4294967296 % 4294967296] := URow.of [x % 4294967296, x / 4294967296 % 4294967296] (by intro y hy; simp at hy; omega) (by simp [maxLen]) (by simp [U32]) (by simp)
 refine zc C3 (trim_c _ X0 (X0_lt _) _ _ _ ([x % 4294967296, x / 4294967296 % 4294967296]) (URow.limbs (Y := X0) hrow5 (C3.get 0 rfl) (fun _ h => h.elim))) ?_ (vs := #[.slice (some ⟨b3, 0, none⟩) 2 2])
 rintro v6 w6 C6 j6 hu6 rfl
 refine zz 4 ?_
 refine zr' (v := .slice (some ⟨b3, 0, none⟩) (trimN ([x % 4294967296, x / 4294967296 % 4294967296])) 2) ?_
 exact ⟨C6.upd, _, rfl, Go.Gv.trimmed [x % 4294967296, x / 4294967296 % 4294967296], _, _, _, ⟨rfl, (trimmed_length _).symm, trimmed_lt hrow5.lt, .inr ⟨_, _, rfl, C6.own_ge 0 rfl, C6.get 0 rfl, hrow5.trimmed⟩⟩, canon_trimmed _, by rw [val_trimmed]; simp only [val]; omega⟩
theorem subtract_c (w : World) (g m cap : Nat) (cur : Array Value) (l : List Nat) (hg : w.heap[g]? = some (.cells cur 56 (0, 0))) (hrow : URow m cap cur l) (hm : m ≤ 1099511627776)
    (ad2 : Option Addr) (len2 cap2 : Nat) (l2 : List Nat) (h2 : Limbs (rd w (HG g)) ad2 len2 cap2 l2) (hll : l2.length ≤ l.length) (hle : val l2 ≤ val l) :
    Calls Tryz.prog 168 #[.slice (some ⟨g, 0, none⟩) m cap, .slice ad2 len2 cap2] w (Ret (· = g) w fun w' v => ∃ cur' l', v = .slice (some ⟨g, 0, none⟩) l'.length cap ∧ w'.heap[g]? = some (.cells cur' 56 (0, 0)) ∧ URow l'.length cap cur' l' ∧ Canon l' ∧ val l' = val l - val l2) := by
 obtain rfl := h2.hlen
 have hcap2 := h2.hcap
 have hbig2 := h2.hbig
 refine zen Tryz.func168 ?_
 have hX : ∀ k o, HG g k o → k < w.heap.size := by rintro k o rfl; exact (Array.getElem?_eq_some_iff.1 hg).1
 have C0 : St (· = g) w (HG g) w (HG g) [(g, .cells cur 56 (0, 0))] := St.startE g _ hX hg (fun _ => rfl)
 have hlen := hrow.len
 refine zz 19 ?_
 refine zlp Tryz.f168 [] [1, 1, 0, 1, 0] (fun ((j, c) : Nat × Nat) => [(0, .slice (some ⟨g, 0, none⟩) m cap), (1, .slice ad2 l2.length cap2), (5, .int .u32 (c : Int)), (9, .slice ad2 l2.length cap2), (10, .int .i64 (l2.length : Int)), (11, .int .i64 (j : Int))]) (fun ((j, c) : Nat × Nat) w1 => ∃ (Y1 : Hid) (cur1 : Array Value) (l1 : List Nat), St (· = g) w (HG g) w1 Y1 [(g, .cells cur1 56 (0, 0))] ∧ Le (rd w (HG g)) (rd w1 Y1) ∧ (URow m cap cur1 l1) ∧ (j ≤ l2.length) ∧ (c ≤ 1) ∧ (val l1 + val (l2.take j) = val l + c * 4294967296 ^ j)) (fun ((j, c) : Nat × Nat) => l2.length - j) (0, 0) ?_ ?_
 ·
  refine ⟨_, cur, l, C0, Le.refl _, hrow, Nat.zero_le _, by omega, by simp [val]⟩
 rintro ⟨j, c⟩ w2 K2 H2 ⟨Y2, cur1, l1, C2, j2, hp2_0, hp2_1, hp2_2, hp2_3⟩
 have hrow1 := hp2_0
 have hlen1 := hrow1.len
 have hlt1 := hrow1.getD_lt j
 have hlt2 := h2.getD_lt j
 have hc1 := hp2_2
 refine zz 6 ?_
 refine zt 12 (p := (j : Int) < (l2.length : Int)) (fun ht3 => ?_) (fun ht3 => ?_)
 ·
  obtain ⟨bk4, of5, rfl, _⟩ := h2.addr (by omega)
  refine zz 8 ?_
  refine zi (b := bk4) (off := of5) (len := l2.length) (cap := cap2) (kd := .i64) (i := (j : Int)) 1 (of5 + j) ?_
  refine zl ((h2.cell (i := j) (by omega)).mono j2).cells ?_
  refine zz 9 ?_
  refine zi (b := g) (off := 0) (len := m) (cap := cap) (kd := .i64) (i := (j : Int)) 1 j ?_
  refine zl (ad := ⟨g, j, none⟩) (C2.rowCells 0 rfl hrow1 (by have := hrow1.len; (try simp only [List.length_set] at *); omega)) ?_
  refine zz 2 ?_
  refine zc C2 (sub32 _ _ C2.lt ((l1.getD j 0 : Nat) : Int) ((l2.getD j 0 : Nat) : Int) (c : Int) ⟨by omega, by omega⟩ ⟨by omega, by omega⟩ ⟨by omega, by omega⟩) ?_
  rintro v7 w7 C7 j7 hu7 rfl
  refine zz 3 ?_
  refine zi (b := g) (off := 0) (len := m) (cap := cap) (kd := .i64) (i := (j : Int)) 1 j ?_
  refine zop (at1 [K2] Tryz.f168 [1, 1, 0, 1, 0, 0, 1, 1, 0, 0, 1]) 13 (fun a8 _ G8 hz8 => op_storeUZ (y := (subD (l1.getD j 0) (l2.getD j 0) c)) (k := j) (e := ((((l1.getD j 0 : Nat) : Int) - ((l2.getD j 0 : Nat) : Int)) % 4294967296 - (c : Int)) % 4294967296) 0 G8 C7 (by unfold subD; omega) rfl hrow1 (by have := hrow1.len; (try simp only [List.length_set] at *); omega) (subD_lt _ _ _) ?_)
  intro cur9 w9 hrow9 C9 j9
  refine hz8 G8 ?_
  refine zz 1 ?_
  refine zs 5 (v := .int .u32 (if ((l1.getD j 0 : Nat) : Int) < ((l2.getD j 0 : Nat) : Int) + (c : Int) then 1 else 0)) (v' := .int .u32 ((brw (l1.getD j 0) (l2.getD j 0) c : Nat) : Int)) (vint (by unfold brw; (repeat' split) <;> omega)) ?_
  refine zz 5 ?_
  refine zw 29 (x := (j : Int) + 1) ?_
  refine zz 2 ?_
  refine znext (fun a h => H2 ((j + 1, brw (l1.getD j 0) (l2.getD j 0) c)) _ a h ⟨_, cur9, (l1.set j (subD (l1.getD j 0) (l2.getD j 0) c)), C9, (Le3 j2 j7 j9), hrow9, by omega, brw_le _ _ _, substep _ _ _ _ _ (by omega) (by omega) hlt1 hlt2 hc1 hp2_3⟩ ?_)
  first | omega | (simp <;> omega)
 refine zz 15 ?_
 have htot := hp2_3
 have hj1 := hp2_1
 obtain rfl : j = l2.length := by omega
 rw [List.take_length] at htot
 refine zlp Tryz.f168 [K2] [1, 1, 1, 0, 1, 0] (fun ((j, c) : Nat × Nat) => [(0, .slice (some ⟨g, 0, none⟩) m cap), (5, .int .u32 (c : Int)), (8, .int .i64 (j : Int))]) (fun ((j, c) : Nat × Nat) w1 => ∃ (Y1 : Hid) (cur1 : Array Value) (l1 : List Nat), St (· = g) w (HG g) w1 Y1 [(g, .cells cur1 56 (0, 0))] ∧ Le (rd w2 Y2) (rd w1 Y1) ∧ (URow m cap cur1 l1) ∧ (c ≤ 1) ∧ (val l1 + val l2 = val l + c * 4294967296 ^ j)) (fun ((j, c) : Nat × Nat) => m - j) (l2.length, c) ?_ ?_
 ·
  refine ⟨_, cur1, l1, C2, Le.refl _, hrow1, hp2_2, htot⟩
 rintro ⟨j, c⟩ w10 K10 H10 ⟨Y10, cur1, l1, C10, j10, hp10_0, hp10_1, hp10_2⟩
 have hrow1 := hp10_0
 have hlen1 := hrow1.len
 have hlt1 := hrow1.getD_lt j
 have hc1 := hp10_1
 refine zz 7 ?_
 refine zb 33 (b := ((c : Int) != 0)) (fun hc11 => ?_) (fun hc11 => ?_)
 ·
  have ht12 : (c : Int) ≠ 0 := by simpa using hc11
  have hjm : j < m := (by have h3 := val_lt hrow1.lt; rw [hlen1] at h3; refine pow_lt_of (i := j) (len := m) (v := val l1) ?_ h3; have h1 := hp10_2; obtain rfl : c = 1 := (by omega); omega)
  refine zz 10 ?_
  refine zi (b := g) (off := 0) (len := m) (cap := cap) (kd := .i64) (i := (j : Int)) 1 j ?_
  refine zl (ad := ⟨g, j, none⟩) (C10.rowCells 0 rfl hrow1 (by have := hrow1.len; (try simp only [List.length_set] at *); omega)) ?_
  refine zz 1 ?_
  refine zc C10 (sub32 _ _ C10.lt ((l1.getD j 0 : Nat) : Int) 0 (c : Int) ⟨by omega, by omega⟩ ⟨by omega, by omega⟩ ⟨by omega, by omega⟩) ?_
  rintro v14 w14 C14 j14 hu14 rfl
  refine zz 3 ?_
  refine zi (b := g) (off := 0) (len := m) (cap := cap) (kd := .i64) (i := (j : Int)) 1 j ?_
  refine zop (at1 [K2, K10] Tryz.f168 [1, 1, 1, 0, 1, 0, 0, 1, 0, 0]) 12 (fun a15 _ G15 hz15 => op_storeUZ (y := (subD (l1.getD j 0) 0 c)) (k := j) (e := ((((l1.getD j 0 : Nat) : Int) - (0 : Int)) % 4294967296 - (c : Int)) % 4294967296) 0 G15 C14 (by unfold subD; omega) rfl hrow1 (by have := hrow1.len; (try simp only [List.length_set] at *); omega) (subD_lt _ _ _) ?_)
  intro cur16 w16 hrow16 C16 j16
  refine hz15 G15 ?_
  refine zz 1 ?_
  refine zs 5 (v := .int .u32 (if ((l1.getD j 0 : Nat) : Int) < (0 : Int) + (c : Int) then 1 else 0)) (v' := .int .u32 ((brw (l1.getD j 0) 0 c : Nat) : Int)) (vint (by unfold brw; (repeat' split) <;> omega)) ?_
  refine zz 6 ?_
  refine zw 35 (x := (j : Int) + 1) ?_
  refine zz 2 ?_
  refine znext (fun a h => H10 ((j + 1, brw (l1.getD j 0) 0 c)) _ a h ⟨_, cur16, (l1.set j (subD (l1.getD j 0) 0 c)), C16, (Le3 j10 j14 j16), hrow16, brw_le _ _ _, substep0 _ _ _ _ _ (by omega) hlt1 hc1 hp10_2⟩ ?_)
  first | omega | (simp <;> omega)
 have ht17 : (c : Int) = 0 := by simpa using hc11
 have hc0 : c = 0 := by omega
 refine zz 9 ?_
 refine zc C10 (trim_c _ X0 (X0_lt _) _ _ _ l1 (URow.limbs (Y := X0) hrow1 (C10.get 0 rfl) (fun _ h => h.elim))) ?_ (vs := #[.slice (some ⟨g, 0, none⟩) m cap])
 rintro v19 w19 C19 j19 hu19 rfl
 refine zz 4 ?_
 refine zr' (v := .slice (some ⟨g, 0, none⟩) (trimN l1) cap) ?_
 exact ⟨C19.upd, _, rfl, cur1, Go.Gv.trimmed l1, by rw [trimmed_length], C19.get 0 rfl, by rw [trimmed_length]; exact hrow1.trimmed, canon_trimmed _, by rw [val_trimmed]; have h9 := hp10_2; rw [hc0] at h9; omega⟩
end Go.Proofs.YtppalofalmieaaaGreat
namespace Go.Proofs.YtppalofalmieaaaGreat
open Go Go.Gv Go.RowKit
set_option maxRecDepth 100000
set_option maxHeartbeats 1000000
theorem backward1_c (l bx : Nat) (ad : Option Addr) (len cap : Nat) (xs : List Nat) (hlen : len = xs.length) (hbig : len ≤ 1099511627776) (J : Nat → World → Prop) (R : World → Prop)
    (hread : ∀ k w, J k w → At (rd w X0) ⟨bx, 0, none⟩ [.slice ad len cap])
    (hel : ∀ k w, J (k + 1) w → k < len → ∃ b off, ad = some ⟨b, off, none⟩ ∧ At (rd w X0) ⟨b, off + k, none⟩ [.int .u32 ((xs.getD k 0 : Nat) : Int)])
    (hY : ∀ k w, k < len → J (k + 1) w → YieldAt (FF none) 0 Tryz.prog l #[.int .i64 (k : Int), .int .u32 ((xs.getD k 0 : Nat) : Int)] w (Rounds (J k) R))
    (h0 : ∀ w, J 0 w → R w) (w : World) (hJ : J len w) : Calls Tryz.prog 198 #[.func (.yield l) #[] #[], .pointer (some ⟨bx, 0, none⟩)] w (fun e w' => (∃ v, e = .returned v) ∧ R w') := by
 refine i_enter (n := 19) (vs := [.func (.yield l) #[] #[], .pointer (some ⟨bx, 0, none⟩)]) Tryz.func198 rfl rfl rfl kr (fun a0 G0 => ?_)
 have G0 : Fr 19 a0 [(0, .func (.yield l) #[] #[]), (1, .pointer (some ⟨bx, 0, none⟩))] := G0
 have C0 : St E0 w X0 w X0 [] := St.start (X0_lt _)
 refine zG (fun K1 H1 => ?_)
 refine zC ?_
 refine wplI G0 kr (zF (d := 4) (v := .slice ad len cap) G0 kr (zB (t := 26) (g := false) (vs := [.slice ad len cap]) (ad := ⟨bx, 0, none⟩) rfl kr kr ir ((hread _ _ hJ)).cells) ?_)
 intro a2 G2
 refine zD 2 [(6, .int .i64 (IntKind.i64.wrap ((len : Int) - 1))), (5, .int .i64 (len : Int))] G2 kr kr (fun a3 G3 => ?_)
 have G4 := G3.set 6 (v' := .int .i64 ((len : Int) - 1)) kr rfl (vint (wi64 (by omega) (by omega)))
 refine zD 1 [(3, .int .i64 ((len : Int) - 1))] G4 kr kr (fun a5 G5 => ?_)
 refine zH ?_
 refine zA (H1 _ _ ?_)
 refine i_block ?_
 refine i_loop (fun (k : Nat) a w1 => Fr 19 a [(0, .func (.yield l) #[] #[]), (1, .pointer (some ⟨bx, 0, none⟩)), (3, .int .i64 ((k : Int) - 1))] ∧ J k w1 ∧ k ≤ len) (fun k => k) len ?_ ?_
 ·
  exact ⟨G5.as [0, 1, 3] kr kr, hJ, Nat.le_refl _⟩
 rintro k a6 w6 ⟨G6, hJ6, hk⟩
 have C6 : St E0 w6 X0 w6 X0 [] := St.start (X0_lt _)
 refine zG (fun K7 H7 => ?_)
 refine zG (fun K8 H8 => ?_)
 refine zC ?_
 refine zD 2 [(8, .bool (decide (((k : Int) - 1) ≥ 0))), (7, .int .i64 ((k : Int) - 1))] G6 kr kr (fun a9 G9 => ?_)
 refine zH ?_
 refine zA (H8 _ _ ?_)
 refine i_cond (decide (((k : Int) - 1) ≥ 0)) G9 kr kr (fun hc10 => ?_) (fun hc10 => ?_)
 ·
  have G11 := G9.set 8 (v' := .bool true) kr rfl (zJ hc10)
  have ht12 : ((k : Int) - 1) ≥ 0 := of_decide_eq_true hc10
  obtain ⟨j, rfl⟩ : ∃ j, k = j + 1 := ⟨k - 1, by omega⟩
  have G13 := G11.set 3 (v := .int .i64 (((j + 1 : Nat) : Int) - 1)) (v' := .int .i64 (j : Int)) kr kr (vint (by omega))
  obtain ⟨b, off, rfl, hel1⟩ := hel j _ hJ6 (by omega)
  refine i_skip ?_
  refine zA (H7 _ _ ?_)
  refine zG (fun K14 H14 => ?_)
  refine i_block ?_
  refine zG (fun K15 H15 => ?_)
  refine zC ?_
  refine zD 2 [(12, .int .i64 (j : Int)), (11, .func (.yield l) #[] #[])] G13 kr kr (fun a16 G16 => ?_)
  refine wplI G16 kr (zF (d := 13) (v := .slice (some ⟨b, off, none⟩) len cap) G16 kr (zB (t := 26) (g := false) (vs := [.slice (some ⟨b, off, none⟩) len cap]) (ad := ⟨bx, 0, none⟩) rfl kr kr ir ((hread _ _ hJ6)).cells) ?_)
  intro a17 G17
  refine zD 1 [(14, .int .i64 (j : Int))] G17 kr kr (fun a18 G18 => ?_)
  refine wplI G18 kr (zF (d := 15) (v := .pointer (some ⟨b, off + j, none⟩)) G18 kr (run_indexOp (t := 26) (e := 56) (b := b) (off := off) (len := len) (cap := cap) (kd := .i64) (i := (j : Int)) (g := false) (m := 1) (off' := off + j) rfl kr kr kr kr (by omega) (by omega) (by first | rfl | omega | (simp; done) | (simp; omega)) _) ?_)
  intro a19 G19
  refine wplI G19 kr (zF (d := 16) (v := .int .u32 ((xs.getD j 0 : Nat) : Int)) G19 kr (zB (t := 56) (g := false) (vs := [.int .u32 ((xs.getD j 0 : Nat) : Int)]) (ad := ⟨b, off + j, none⟩) rfl kr kr ir (hel1).cells) ?_)
  intro a20 G20
  refine wpl_yield (d := 17) (l := l) (vs := #[.int .i64 (j : Int), .int .u32 ((xs.getD j 0 : Nat) : Int)]) G20 kr rfl kr kr (hY j _ (by omega) hJ6) (fun _ _ h => h.ret) ?_
  rintro v21 w21 ⟨bb21, hv21, hJ21, hR21⟩ a22 G22
  cases hv21
  have C21 : St E0 w21 X0 w21 X0 [] := St.start (X0_lt _)
  refine zD 1 [(18, .bool (!bb21))] G22 kr kr (fun a23 G23 => ?_)
  refine zH ?_
  refine zA (H15 _ _ ?_)
  refine i_cond (!bb21) G23 kr kr (fun hc24 => ?_) (fun hc24 => ?_)
  ·
   have G25 := G23.set 18 (v' := .bool true) kr rfl (zJ hc24)
   have ht26 : bb21 = false := by simpa using hc24
   have hbb := ht26
   refine i_ret ?_
   refine blk_ret ?_
   refine then_ret ?_
   refine then_ret ?_
   refine blk_ret ?_
   refine c_ret (v := .tuple #[]) (rs := []) G25 kr Res.nil kr ?_
   exact ⟨⟨_, rfl⟩, (hR21 hbb)⟩
  have G27 := G23.set 18 (v' := .bool false) kr rfl (zJ hc24)
  have ht28 : bb21 = true := by simpa using hc24
  have hbb := ht28
  refine i_skip ?_
  refine blk_norm ?_
  refine zA (H14 _ _ ?_)
  refine zC ?_
  refine zD 2 [(10, .int .i64 (IntKind.i64.wrap ((j : Int) - 1))), (9, .int .i64 (j : Int))] G27 kr kr (fun a29 G29 => ?_)
  have G30 := G29.set 10 (v' := .int .i64 ((j : Int) - 1)) kr rfl (vint (wi64 (by omega) (by omega)))
  refine zD 1 [(3, .int .i64 ((j : Int) - 1))] G30 kr kr (fun a31 G31 => ?_)
  refine zH ?_
  refine zA ?_
  exact ⟨j, ⟨G31.as [0, 1, 3] kr kr, hJ21 hbb, by omega⟩, by show j < j + 1; omega⟩
 have G32 := G9.set 8 (v' := .bool false) kr rfl (zJ hc10)
 have ht33 : ¬ (((k : Int) - 1) ≥ 0) := of_decide_eq_false hc10
 have hk0 : k = 0 := by omega
 refine i_exit ?_
 refine then_exit ?_
 refine then_exit ?_
 refine blk_here ?_
 refine c_end (v := .tuple #[]) (rs := []) G32 kr Res.nil kr ?_
 exact ⟨⟨_, rfl⟩, (h0 _ (hk0 ▸ hJ6))⟩
end Go.Proofs.YtppalofalmieaaaGreat
namespace Go.Proofs.YtppalofalmieaaaGreat
open Go Go.Gv Go.RowKit
set_option maxRecDepth 100000
set_option maxHeartbeats 1000000
theorem backward_c (w : World) (X : Hid) (hX : ∀ k o, X k o → k < w.heap.size) (ad : Option Addr) (len cap : Nat) : Calls Tryz.prog 185 #[.slice ad len cap] w (Ret E0 w fun w' v => ∃ bx, v = .func (.func 198) #[] #[.pointer (some ⟨bx, 0, none⟩)] ∧ w.heap.size ≤ bx ∧ w'.heap[bx]? = some (.cells #[.slice ad len cap] 26 (0, 0))) := by
 refine zen Tryz.func185 ?_
 have C0 : St E0 w X w X [] := St.start hX
 refine zz 2 ?_
 refine zn pn (.cells #[.slice ad len cap] 26 (0, 0)) C0 ?_
 intro b3 w3 Y3 C3 j3 hu3
 refine zz 10 ?_
 refine zr' (v := .func (.func 198) #[] #[.pointer (some ⟨b3, 0, none⟩)]) ?_
 exact ⟨C3.upd, _, rfl, _, rfl, C3.own_ge 0 rfl, C3.get 0 rfl⟩
theorem cmpI_nat_eq {x y : Nat} (h : cmpI (x : Int) (y : Int) = 0) : x = y := by unfold cmpI at h; (repeat' split at h) <;> omega
theorem cmpI_nat_lt {x y : Nat} (h : x < y) : cmpI (x : Int) (y : Int) = -1 := by unfold cmpI; rw [if_pos (by omega)]
theorem cmpI_nat_gt {x y : Nat} (h : y < x) : cmpI (x : Int) (y : Int) = 1 := by unfold cmpI; rw [if_neg (by omega), if_pos (by omega)]
theorem cmpI_self (x : Int) : cmpI x x = 0 := by unfold cmpI; rw [if_neg (by omega), if_neg (by omega)]
theorem order_len {l l2 : List Nat} (h1 : ∀ x ∈ l, x < 4294967296) (h2 : ∀ x ∈ l2, x < 4294967296) (c1 : Canon l) (c2 : Canon l2) (h : cmpI (l.length : Int) (l2.length : Int) ≠ 0) : cmpI (l.length : Int) (l2.length : Int) = cmpI (val l) (val l2) := by
  rcases Nat.lt_trichotomy l.length l2.length with e | e | e
  · rw [cmpI_nat_lt e, cmpI_nat_lt (val_shorter h1 c2 e)]
  · rw [e, cmpI_self] at h; exact absurd rfl h
  · rw [cmpI_nat_gt e, cmpI_nat_gt (val_shorter h2 c1 e)]
theorem order_top {l l2 : List Nat} (h1 : ∀ x ∈ l, x < 4294967296) (h2 : ∀ x ∈ l2, x < 4294967296) (hlen : l.length = l2.length) (k : Nat) (hk : k < l.length) (heq : ∀ j, k + 1 ≤ j → j < l.length → l.getD j 0 = l2.getD j 0)
    (h : cmpI ((l.getD k 0 : Nat) : Int) ((l2.getD k 0 : Nat) : Int) ≠ 0) : cmpI ((l.getD k 0 : Nat) : Int) ((l2.getD k 0 : Nat) : Int) = cmpI (val l) (val l2) := by
  rcases Nat.lt_trichotomy (l.getD k 0) (l2.getD k 0) with e | e | e
  · rw [cmpI_nat_lt e, cmpI_nat_lt (val_cmp h1 hlen k hk heq e)]
  · rw [e, cmpI_self] at h; exact absurd rfl h
  · rw [cmpI_nat_gt e, cmpI_nat_gt (val_cmp h2 hlen.symm k (by omega) (fun j h1 h2 => (heq j h1 (by omega)).symm) e)]
theorem order_eq {l l2 : List Nat} (hlen : l.length = l2.length) (heq : ∀ j, 0 ≤ j → j < l.length → l.getD j 0 = l2.getD j 0) : (0 : Int) = cmpI (val l) (val l2) := by rw [val_eq hlen heq, cmpI_self]
theorem order_c (w : World) (X : Hid) (hX : ∀ k o, X k o → k < w.heap.size) (ad : Option Addr) (len cap : Nat) (l : List Nat) (h : Limbs (rd w X) ad len cap l) (ad2 : Option Addr) (len2 cap2 : Nat) (l2 : List Nat) (h2 : Limbs (rd w X) ad2 len2 cap2 l2) (c1 : Canon l) (c2 : Canon l2) (hm : len ≤ 1099511627776) : Calls Tryz.prog 167 #[.slice ad len cap, .slice ad2 len2 cap2] w (Ret E0 w fun _ v => v = .int .i64 (cmpI (val l) (val l2))) := by
 obtain rfl := h.hlen
 obtain rfl := h2.hlen
 have hcap := h.hcap
 have hbig := h.hbig
 have hcap2 := h2.hcap
 have hbig2 := h2.hbig
 refine m_enter (n := 30) (vs := [.slice ad l.length cap, .slice ad2 l2.length cap2]) Tryz.func167 rfl rfl rfl kr (fun a0 G0 => ?_)
 have G0 : Fr 30 a0 [(0, .slice ad l.length cap), (1, .slice ad2 l2.length cap2)] := G0
 have C0 : St E0 w X w X [] := St.start hX
 refine zG (fun K1 H1 => ?_)
 refine zC ?_
 refine wplI G0 kr (op_new (d := 3) (fun b => .pointer (some ⟨b, 0, none⟩)) (.cells #[.slice ad2 l2.length cap2] 26 (0, 0)) G0 kr C0 kw ?_)
 intro b2 w2 Y2 C2 j2 hu2 a3 G3
 refine wplI G3 kr (op_new (d := 4) (fun b => .pointer (some ⟨b, 0, none⟩)) (.cells #[.int .i64 0] 3 (0, 0)) G3 kr C2 kw ?_)
 intro b4 w4 Y4 C4 j4 hu4 a5 G5
 refine zH ?_
 refine zA (H1 _ _ ?_)
 refine zG (fun K6 H6 => ?_)
 refine zG (fun K7 H7 => ?_)
 refine zC ?_
 refine zD 2 [(10, .int .i64 (l.length : Int)), (9, .slice ad l.length cap)] G5 kr kr (fun a8 G8 => ?_)
 refine wplI G8 kr (zF (d := 11) (v := .slice ad2 l2.length cap2) G8 kr (zB (t := 26) (g := false) (vs := [.slice ad2 l2.length cap2]) (ad := ⟨b2, 0, none⟩) rfl kr kr ir (C4.cells 1 rfl rfl)) ?_)
 intro a9 G9
 refine zD 1 [(12, .int .i64 (l2.length : Int))] G9 kr kr (fun a10 G10 => ?_)
 refine wplI G10 kr (op_call (d := 13) (f := 186) (cap := #[]) (vs := #[.int .i64 (l.length : Int), .int .i64 (l2.length : Int)]) G10 kr C4 rfl kr kr (fun w => Tryz.call186 _ w) (compare_int _ _ C4.lt (l.length : Int) (l2.length : Int)) ?_)
 rintro v11 w11 C11 j11 hu11 rfl a12 G12
 refine zD 1 [(5, .int .i64 (cmpI (l.length : Int) (l2.length : Int)))] G12 kr kr (fun a13 G13 => ?_)
 refine zH ?_
 refine zA (H7 _ _ ?_)
 refine zG (fun K14 H14 => ?_)
 refine zC ?_
 refine zD 2 [(15, .bool ((cmpI (l.length : Int) (l2.length : Int)) != 0)), (14, .int .i64 (cmpI (l.length : Int) (l2.length : Int)))] G13 kr kr (fun a15 G15 => ?_)
 refine zH ?_
 refine zA (H14 _ _ ?_)
 refine i_cond ((cmpI (l.length : Int) (l2.length : Int)) != 0) G15 kr kr (fun hc16 => ?_) (fun hc16 => ?_)
 ·
  have G17 := G15.set 15 (v' := .bool true) kr rfl (zJ hc16)
  have ht18 : (cmpI (l.length : Int) (l2.length : Int)) ≠ 0 := by simpa using hc16
  refine zG (fun K19 H19 => ?_)
  refine zC ?_
  refine zD 1 [(16, .int .i64 (cmpI (l.length : Int) (l2.length : Int)))] G17 kr kr (fun a20 G20 => ?_)
  refine wplI G20 kr (zE (t := 3) (b := b4) (off := 0) (c' := #[.int .i64 (cmpI (l.length : Int) (l2.length : Int))]) (g := false) (m := 1) 0 _ G20 kr C11 rfl kr rfl kr kr kr rfl (by first | decide | (simp; done)) kr rfl ?_)
  intro w21 C21 j21
  refine zH ?_
  refine zA (H19 _ _ ?_)
  refine i_ret ?_
  refine then_ret ?_
  refine m_ret0 (v := .int .i64 (cmpI (l.length : Int) (l2.length : Int))) (rs := [.cell 4 3]) G20 kr (Res.cell (ad := ⟨b4, 0, none⟩) (cs := [.int .i64 (cmpI (l.length : Int) (l2.length : Int))]) (g := false) kr kr kr ir (C21.cells 0 rfl rfl) Res.nil) kr ?_
  exact ⟨C21.upd, _, rfl, vint (order_len h.hlt h2.hlt c1 c2 ht18)⟩
 have G22 := G15.set 15 (v' := .bool false) kr rfl (zJ hc16)
 have ht23 : (cmpI (l.length : Int) (l2.length : Int)) = 0 := by simpa using hc16
 have hlen2 := cmpI_nat_eq ht23
 refine i_skip ?_
 refine zA (H6 _ _ ?_)
 refine zG (fun K24 H24 => ?_)
 refine zG (fun K25 H25 => ?_)
 refine zC ?_
 refine zD 1 [(17, .slice ad l.length cap)] G22 kr kr (fun a26 G26 => ?_)
 refine wplI G26 kr (op_call (d := 18) (f := 185) (cap := #[]) (vs := #[.slice ad l.length cap]) G26 kr C11 rfl kr kr (fun w => Tryz.call185 _ w) (backward_c _ _ C11.lt ad l.length cap) ?_)
 rintro v27 w27 C27 j27 hu27 ⟨bx27, rfl, hge27, hget27⟩ a28 G28
 have C29 := St.adopt C27 (fun o h => Nat.not_lt.2 hge27 (C11.lt _ _ h)) (Nat.le_trans C11.upd.size hge27) hget27
 have j29 := Le.adopt j27 hge27
 refine zH ?_
 refine zA (H25 _ _ ?_)
 refine i_block ?_
 refine i_range2 (f := 198) (caps := #[.pointer (some ⟨bx27, 0, none⟩)]) G28 C29 kr kr (fun args w => Tryz.call198 args w) ?_
 intro rec30 l30 b30 w30 Y30 hr30 C30 j30 hu30
 have G31 := fr_marked b30 G28
 refine backward1_c l30 bx27 ad l.length cap l rfl (by omega) (fun k w' => ∃ (Y' : Hid), St E0 w X w' Y' [(l30, .loop rec30), (b30, .deferred (some [])), (bx27, .cells #[.slice ad l.length cap] 26 (0, 0)), (b4, .cells #[.int .i64 0] 3 (0, 0)), (b2, .cells #[.slice ad2 l2.length cap2] 26 (0, 0))] ∧ Le (rd w30 Y30) (rd w' Y') ∧ (∀ j, k ≤ j → j < l.length → l.getD j 0 = l2.getD j 0)) _ ?_ ?_ ?_ ?_ _ ?_
 ·
  rintro k w32 ⟨Y32, C32, j32, hp32_0⟩
  exact C32.at0 2 rfl rfl
 ·
  rintro k w33 ⟨Y33, C33, j33, hp33_0⟩
  intro hk
  obtain ⟨b, off, rfl, _⟩ := h.addr (by omega)
  exact ⟨b, off, rfl, ((h.cell (i := k) (by omega)).mono (Le6 j2 j4 j11 j29 j30 j33)).mono Le.x0⟩
 ·
  intro k w34 hk
  rintro ⟨Y34, C34, j34, hp34_0⟩
  refine y_round2 (p := 19) (q := 20) hr30 G28 C34 kr kr (fun a35 G35 => ?_)
  obtain ⟨bk36, of37, rfl, _⟩ := h2.addr (by omega)
  refine zG (fun K38 H38 => ?_)
  refine zC ?_
  refine zD 1 [(6, .int .i64 (k : Int))] G35 kr kr (fun a39 G39 => ?_)
  refine zH ?_
  refine zA (H38 _ _ ?_)
  refine zC ?_
  refine zD 1 [(7, .int .u32 ((l.getD k 0 : Nat) : Int))] G39 kr kr (fun a40 G40 => ?_)
  refine zH ?_
  refine zA ?_
  refine y_begin2 hr30 C34 (fun w41 C41 j41 => ?_)
  refine i_block ?_
  refine zG (fun K42 H42 => ?_)
  refine zC ?_
  refine zD 1 [(21, .int .u32 ((l.getD k 0 : Nat) : Int))] G40 kr kr (fun a43 G43 => ?_)
  refine wplI G43 kr (zF (d := 22) (v := .slice (some ⟨bk36, of37, none⟩) l2.length cap2) G43 kr (zB (t := 26) (g := false) (vs := [.slice (some ⟨bk36, of37, none⟩) l2.length cap2]) (ad := ⟨b2, 0, none⟩) rfl kr kr ir (C41.cells 4 rfl rfl)) ?_)
  intro a44 G44
  refine zD 1 [(23, .int .i64 (k : Int))] G44 kr kr (fun a45 G45 => ?_)
  refine wplI G45 kr (zF (d := 24) (v := .pointer (some ⟨bk36, of37 + k, none⟩)) G45 kr (run_indexOp (t := 26) (e := 56) (b := bk36) (off := of37) (len := l2.length) (cap := cap2) (kd := .i64) (i := (k : Int)) (g := false) (m := 1) (off' := of37 + k) rfl kr kr kr kr (by omega) (by omega) (by first | rfl | omega | (simp; done) | (simp; omega)) _) ?_)
  intro a46 G46
  refine wplI G46 kr (zF (d := 25) (v := .int .u32 ((l2.getD k 0 : Nat) : Int)) G46 kr (zB (t := 56) (g := false) (vs := [.int .u32 ((l2.getD k 0 : Nat) : Int)]) (ad := ⟨bk36, of37 + k, none⟩) rfl kr kr ir ((h2.cell (i := k) (by omega)).mono (Le7 j2 j4 j11 j29 j30 j34 j41)).cells) ?_)
  intro a47 G47
  refine wplI G47 kr (op_call (d := 26) (f := 187) (cap := #[]) (vs := #[.int .u32 ((l.getD k 0 : Nat) : Int), .int .u32 ((l2.getD k 0 : Nat) : Int)]) G47 kr C41 rfl kr kr (fun w => Tryz.call187 _ w) (compare_uint32 _ _ C41.lt ((l.getD k 0 : Nat) : Int) ((l2.getD k 0 : Nat) : Int)) ?_)
  rintro v48 w48 C48 j48 hu48 rfl a49 G49
  refine zD 1 [(8, .int .i64 (cmpI ((l.getD k 0 : Nat) : Int) ((l2.getD k 0 : Nat) : Int)))] G49 kr kr (fun a50 G50 => ?_)
  refine zH ?_
  refine zA (H42 _ _ ?_)
  refine zG (fun K51 H51 => ?_)
  refine zC ?_
  refine zD 2 [(28, .bool ((cmpI ((l.getD k 0 : Nat) : Int) ((l2.getD k 0 : Nat) : Int)) != 0)), (27, .int .i64 (cmpI ((l.getD k 0 : Nat) : Int) ((l2.getD k 0 : Nat) : Int)))] G50 kr kr (fun a52 G52 => ?_)
  refine zH ?_
  refine zA (H51 _ _ ?_)
  refine i_cond ((cmpI ((l.getD k 0 : Nat) : Int) ((l2.getD k 0 : Nat) : Int)) != 0) G52 kr kr (fun hc53 => ?_) (fun hc53 => ?_)
  ·
   have G54 := G52.set 28 (v' := .bool true) kr rfl (zJ hc53)
   have ht55 : (cmpI ((l.getD k 0 : Nat) : Int) ((l2.getD k 0 : Nat) : Int)) ≠ 0 := by simpa using hc53
   refine zG (fun K56 H56 => ?_)
   refine zC ?_
   refine zD 1 [(29, .int .i64 (cmpI ((l.getD k 0 : Nat) : Int) ((l2.getD k 0 : Nat) : Int)))] G54 kr kr (fun a57 G57 => ?_)
   refine wplI G57 kr (zE (t := 3) (b := b4) (off := 0) (c' := #[.int .i64 (cmpI ((l.getD k 0 : Nat) : Int) ((l2.getD k 0 : Nat) : Int))]) (g := false) (m := 1) 3 _ G57 kr C48 rfl kr rfl kr kr kr rfl (by first | decide | (simp; done)) kr rfl ?_)
   intro w58 C58 j58
   refine zH ?_
   refine zA (H56 _ _ ?_)
   refine i_ret ?_
   refine blk_ret ?_
   refine y_ret2 C58 (fun w59 C59 j59 => Rounds.stop (RangeEnd.ret C59 (fun w60 C60 j60 => ?_)))
   refine blk_ret ?_
   refine then_ret ?_
   refine m_ret1 (v := .int .i64 (cmpI ((l.getD k 0 : Nat) : Int) ((l2.getD k 0 : Nat) : Int))) (rs := [.cell 4 3]) (vs := [.int .i64 (cmpI ((l.getD k 0 : Nat) : Int) ((l2.getD k 0 : Nat) : Int))]) 1 G31 C60 rfl kr kr (fun w61 C61 j61 => ?_)
   refine ⟨(Res.cell (ad := ⟨b4, 0, none⟩) (cs := [.int .i64 (cmpI ((l.getD k 0 : Nat) : Int) ((l2.getD k 0 : Nat) : Int))]) (g := false) kr kr kr ir (C61.cells 3 rfl rfl) Res.nil), ?_⟩
   exact ⟨C61.upd, _, rfl, vint (order_top h.hlt h2.hlt hlen2 k (by omega) hp34_0 ht55)⟩
  have G62 := G52.set 28 (v' := .bool false) kr rfl (zJ hc53)
  have ht63 : (cmpI ((l.getD k 0 : Nat) : Int) ((l2.getD k 0 : Nat) : Int)) = 0 := by simpa using hc53
  refine i_skip ?_
  refine blk_norm ?_
  refine y_next2 hr30 C48 (fun w64 C64 j64 => Rounds.next ?_)
  exact ⟨_, C64, (Le4 j34 j41 j48 j64), fun j hj hl => (by rcases Nat.eq_or_lt_of_le hj with rfl | h9; exact cmpI_nat_eq ht63; exact hp34_0 j h9 hl)⟩
 ·
  rintro w65 ⟨Y65, C65, j65, hp65_0⟩
  refine RangeEnd.norm hr30 C65 (fun w66 C66 j66 => ?_)
  refine blk_norm ?_
  refine zA (H24 _ _ ?_)
  refine zG (fun K67 H67 => ?_)
  refine zC ?_
  refine wplI G31 kr (zE (t := 3) (b := b4) (off := 0) (c' := #[.int .i64 0]) (g := false) (m := 1) 3 _ G31 kr C66 rfl kr rfl kr kr kr rfl (by first | decide | (simp; done)) kr rfl ?_)
  intro w68 C68 j68
  refine zH ?_
  refine zA (H67 _ _ ?_)
  refine i_ret ?_
  refine m_ret1 (v := .int .i64 0) (rs := [.cell 4 3]) (vs := [.int .i64 0]) 1 G31 C68 rfl kr kr (fun w69 C69 j69 => ?_)
  refine ⟨(Res.cell (ad := ⟨b4, 0, none⟩) (cs := [.int .i64 0]) (g := false) kr kr kr ir (C69.cells 3 rfl rfl) Res.nil), ?_⟩
  exact ⟨C69.upd, _, rfl, vint (order_eq hlen2 hp65_0)⟩
 ·
  exact ⟨_, C30, Le.refl _, fun j hj hl => absurd hl (Nat.not_lt.2 hj)⟩
end Go.Proofs.YtppalofalmieaaaGreat
namespace Go.Proofs.YtppalofalmieaaaGreat
open Go Go.Gv Go.RowKit
set_option maxRecDepth 100000
set_option maxHeartbeats 1000000
theorem chk2_ok {l l2 : List Nat} (h : chk2 l l2 = 0) : (l.length ≤ 512 ∧ Canon l) ∧ (l2.length ≤ 512 ∧ Canon l2) := by
  have h1 : chkN l = 0 ∧ chkN l2 = 0 := by
    unfold chk2 at h; simp only [orL] at h
    split at h
    · rename_i h1; split at h
      · rename_i h2; exact ⟨h1, h2⟩
      · contradiction
    · contradiction
  exact ⟨chkN_ok h1.1, chkN_ok h1.2⟩
theorem fit_sl (ad : Option Addr) (cap : Nat) (l : List Nat) : ∃ a1 a2 a3, (if 512 < trimN l then Value.tuple #[.slice none 0 0, .int .i64 4] else .tuple #[.slice ad (trimN l) cap, .int .i64 0]) = .tuple #[.slice a1 a2 a3, .int .i64 (fitI l)] := by
  unfold fitI; split <;> exact ⟨_, _, _, rfl⟩
theorem Add_c (w : World) (X : Hid) (hX : ∀ k o, X k o → k < w.heap.size) (ad : Option Addr) (len cap : Nat) (l : List Nat) (h : Limbs (rd w X) ad len cap l) (ad2 : Option Addr) (len2 cap2 : Nat) (l2 : List Nat) (h2 : Limbs (rd w X) ad2 len2 cap2 l2) : Calls Tryz.prog 155 #[.slice ad len cap, .slice ad2 len2 cap2] w (Ret E0 w fun w' v => NumV 56 w w' (or2 (chk2 l l2) (fitE (val l + val l2))) (val l + val l2) v) := by
 obtain rfl := h.hlen
 obtain rfl := h2.hlen
 have hcap := h.hcap
 have hbig := h.hbig
 have hcap2 := h2.hcap
 have hbig2 := h2.hbig
 refine zen Tryz.func155 ?_
 have C0 : St E0 w X w X [] := St.start hX
 refine zz 11 ?_
 refine zc C0 (bcheck2 _ X0 (X0_lt _) _ _ _ l (h.mono Le.x0) _ _ _ l2 (h2.mono Le.x0)) ?_
 rintro v3 w3 C3 j3 hu3 rfl
 refine zz 9 ?_
 refine zb 12 (b := ((chk2 l l2) != 0)) (fun hc4 => ?_) (fun hc4 => ?_)
 ·
  have ht5 : (chk2 l l2) ≠ 0 := by simpa using hc4
  refine zz 10 ?_
  refine zr' (v := .tuple #[.slice none 0 0, .int .i64 (chk2 l l2)]) ?_
  exact ⟨C3.upd, _, rfl, by rw [or2_err ht5]; exact .inl ⟨ht5, rfl⟩⟩
 have ht6 : (chk2 l l2) = 0 := by simpa using hc4
 obtain ⟨⟨hl1, c1⟩, hl2, c2⟩ := chk2_ok ht6
 refine zz 10 ?_
 refine zs 18 (v := .int .i64 (if (l2.length : Int) > (l.length : Int) then (l2.length : Int) else (l.length : Int))) (v' := .int .i64 ((max l.length l2.length : Nat) : Int)) (vint (by split <;> omega)) ?_
 refine zz 1 ?_
 refine zw 19 (x := ((max l.length l2.length + 1 : Nat) : Int)) ?_
 refine zop (at1 [] Tryz.f155 [1, 1, 0]) 6 (fun a7 _ G7 hz7 => op_makeZ (l := ((max l.length l2.length + 1 : Nat) : Int)) (e := 56) (z := .int .u32 0) (i0 := Tryz.t56) (max l.length l2.length + 1) 4 G7 C3 ?_)
 intro b8 w8 Y8 C8 j8 hu8 a9 G9
 have hrow8 := URow.zeros (max l.length l2.length + 1) (by simp only [maxLen]; omega)
 refine hz7 G9 ?_
 refine zz 7 ?_
 refine zop (at1 [] Tryz.f155 [1, 1, 1, 0]) 2 (fun a10 _ G10 hz10 => op_copyUZ (l2 := l) 0 G10 C8 rfl hrow8 (h.mono (Le2 j3 j8)) (by omega) ?_)
 intro cur11 w11 hrow11 C11 j11 a12 G12
 refine hz10 G12 ?_
 refine zz 6 ?_
 refine zcE 0 C11 rfl (add_c _ b8 (max l.length l2.length + 1) (max l.length l2.length + 1) _ (l ++ List.drop l.length (List.replicate (max l.length l2.length + 1) 0)) (C11.get 0 rfl) hrow11 (by omega) _ _ _ l2 ((h2.mono (Le3 j3 j8 j11)).mono (C11.leHG 0 rfl)) 0 (by omega) (by rw [val_app_zeros]; exact add_fits h.hlt h2.hlt)) ?_
 rintro v14 w14 ob14 ⟨rfl, cur14, ls14, hg14, hrow14, hval14⟩ hob14 C14 j14
 obtain rfl := Option.some.inj (hob14.symm.trans hg14)
 refine zz 5 ?_
 refine zc C14 (fit_c _ X0 (X0_lt _) _ _ _ ls14 (URow.limbs (Y := X0) hrow14 (C14.get 0 rfl) (fun _ h => h.elim))) ?_ (vs := #[.slice (some ⟨b8, 0, none⟩) (max l.length l2.length + 1) (max l.length l2.length + 1)])
 rintro v16 w16 C16 j16 hu16 hfit16
 obtain ⟨af16, lf16, cf16, hfe16⟩ := fit_sl (some ⟨b8, 0, none⟩) (max l.length l2.length + 1) ls14
 cases (hfit16.trans hfe16)
 refine zz 7 ?_
 refine zr' (v := .tuple #[.slice af16 lf16 cf16, .int .i64 (fitI ls14)]) ?_
 exact ⟨C16.upd, _, rfl, by rw [or2_ok ht6]; exact NumV.fit hrow14 (C16.get 0 rfl) (C16.own_ge 0 rfl) (by have h9 := hval14; rw [val_app_zeros] at h9; omega) hfe16.symm⟩
end Go.Proofs.YtppalofalmieaaaGreat
namespace Go.Proofs.YtppalofalmieaaaGreat
open Go Go.Gv Go.RowKit
set_option maxRecDepth 100000
set_option maxHeartbeats 1000000
theorem subtract_nil (w : World) (X : Hid) (hX : ∀ k o, X k o → k < w.heap.size) (ad2 : Option Addr) (len2 cap2 : Nat) (hl0 : len2 = 0) (hc2 : cap2 ≤ 9223372036854775807) : Calls Tryz.prog 168 #[.slice none 0 0, .slice ad2 len2 cap2] w (Ret E0 w fun _ v => v = .slice none 0 0) := by
 subst hl0
 refine zen Tryz.func168 ?_
 have C0 : St E0 w X w X [] := St.start hX
 refine zz 19 ?_
 refine zloop0 ?_
 refine zz 21 ?_
 refine zloop0 ?_
 refine zz 16 ?_
 refine zc C0 (trim_c _ _ C0.lt _ _ _ ([]) (Limbs.nil (r := rd w X) (cap := 0) none (by omega))) ?_ (vs := #[.slice none 0 0])
 rintro v3 w3 C3 j3 hu3 rfl
 refine zz 4 ?_
 refine zr' (v := .slice none (trimN ([])) 0) ?_
 exact ⟨C3.upd, _, rfl, rfl⟩
def subE (x y : Nat) : Int := if x < y then 7 else 0
theorem cmpI_lt0 {x y : Nat} (h : cmpI (x : Int) (y : Int) < 0) : x < y := by unfold cmpI at h; (repeat' split at h) <;> omega
theorem cmpI_ge0 {x y : Nat} (h : ¬ cmpI (x : Int) (y : Int) < 0) : y ≤ x := by unfold cmpI at h; (repeat' split at h) <;> omega
theorem Sub_c (w : World) (X : Hid) (hX : ∀ k o, X k o → k < w.heap.size) (ad : Option Addr) (len cap : Nat) (l : List Nat) (h : Limbs (rd w X) ad len cap l) (ad2 : Option Addr) (len2 cap2 : Nat) (l2 : List Nat) (h2 : Limbs (rd w X) ad2 len2 cap2 l2) : Calls Tryz.prog 156 #[.slice ad len cap, .slice ad2 len2 cap2] w (Ret E0 w fun w' v => NumV 56 w w' (or2 (chk2 l l2) (subE (val l) (val l2))) (val l - val l2) v) := by
 obtain rfl := h.hlen
 obtain rfl := h2.hlen
 have hcap := h.hcap
 have hbig := h.hbig
 have hcap2 := h2.hcap
 have hbig2 := h2.hbig
 have hbig2c := h2.hbig
 refine zen Tryz.func156 ?_
 have C0 : St E0 w X w X [] := St.start hX
 refine zz 11 ?_
 refine zc C0 (bcheck2 _ X0 (X0_lt _) _ _ _ l (h.mono Le.x0) _ _ _ l2 (h2.mono Le.x0)) ?_
 rintro v3 w3 C3 j3 hu3 rfl
 refine zz 11 ?_
 refine zb 10 (b := ((chk2 l l2) != 0)) (fun hc4 => ?_) (fun hc4 => ?_)
 ·
  have ht5 : (chk2 l l2) ≠ 0 := by simpa using hc4
  refine zz 11 ?_
  refine zr' (v := .tuple #[.slice none 0 0, .int .i64 (chk2 l l2)]) ?_
  exact ⟨C3.upd, _, rfl, by rw [or2_err ht5]; exact .inl ⟨ht5, rfl⟩⟩
 have ht6 : (chk2 l l2) = 0 := by simpa using hc4
 obtain ⟨⟨hl1, c1⟩, hl2, c2⟩ := chk2_ok ht6
 refine zz 5 ?_
 refine zc C3 (order_c _ X0 (X0_lt _) _ _ _ l ((h.mono j3).mono Le.x0) _ _ _ l2 ((h2.mono j3).mono Le.x0) c1 c2 (by omega)) ?_
 rintro v8 w8 C8 j8 hu8 rfl
 refine zz 4 ?_
 refine zt 14 (p := (cmpI (val l) (val l2)) < 0) (fun ht9 => ?_) (fun ht9 => ?_)
 ·
  have hcmp := cmpI_lt0 ht9
  refine zz 10 ?_
  refine zr' (v := .tuple #[.slice none 0 0, .int .i64 7]) ?_
  exact ⟨C8.upd, _, rfl, by rw [or2_ok ht6, subE, if_pos hcmp]; exact .inl ⟨by decide, rfl⟩⟩
 have hcmp := cmpI_ge0 ht9
 refine zz 7 ?_
 refine zc C8 (clone_c _ X0 (X0_lt _) _ _ _ l ((h.mono (Le2 j3 j8)).mono Le.x0) (by omega)) ?_
 rintro v11 w11 C11 j11 hu11 ⟨ad11, len11, cap11, how11⟩
 rcases how11 with ⟨rfl, hlen11, hlt11, ⟨rfl, rfl, rfl⟩ | ⟨g11, cur11, rfl, hge11, hget11, hrow11⟩⟩
 ·
  have hnil11 : l = [] := List.eq_nil_of_length_eq_zero hlen11.symm
  refine zz 1 ?_
  have hnil2 : l2 = [] := canon_zero c2 (by have := hcmp; rw [hnil11] at this; simp only [val] at this; omega)
  refine zc C11 (subtract_nil _ X0 (X0_lt _) _ _ _ (by rw [hnil2]; rfl) hbig2c) ?_ (vs := #[.slice none 0 0, .slice ad2 l2.length cap2])
  rintro v14 w14 C14 j14 hu14 rfl
  refine zz 5 ?_
  refine zr' (v := .tuple #[.slice none 0 0, .int .i64 0]) ?_
  exact ⟨C14.upd, _, rfl, .inr ⟨by rw [or2_ok ht6, subE, if_neg (by omega)], _, [], _, _, _, rfl, ⟨⟨rfl, rfl, fun x hx => by simp at hx, .inl ⟨rfl, rfl, rfl⟩⟩, .inl rfl, by rw [hnil11]; simp [val]⟩, by simp⟩⟩
 ·
  subst hlen11
  have C12 := St.adopt C11 (fun o h => Nat.not_lt.2 hge11 (C8.lt _ _ h)) (Nat.le_trans C8.upd.size hge11) hget11
  have j12 := Le.adopt j11 hge11
  refine zz 1 ?_
  refine zcE 0 C12 rfl (subtract_c _ g11 l.length cap11 _ l (C12.get 0 rfl) hrow11 (by omega) _ _ _ l2 ((h2.mono (Le3 j3 j8 j12)).mono (C12.leHG 0 rfl)) (canon_len h.hlt c2 (by omega)) (by omega)) ?_
  rintro v16 w16 ob16 ⟨cur16, ls16, rfl, hg16, hrow16, hcan16, hval16⟩ hob16 C16 j16
  obtain rfl := Option.some.inj (hob16.symm.trans hg16)
  refine zz 5 ?_
  refine zr' (v := .tuple #[.slice (some ⟨g11, 0, none⟩) ls16.length cap11, .int .i64 0]) ?_
  exact ⟨C16.upd, _, rfl, .inr ⟨by rw [or2_ok ht6, subE, if_neg (by omega)], _, ls16, _, _, _, rfl, ⟨⟨rfl, rfl, hrow16.lt, .inr ⟨_, _, rfl, C16.own_ge 0 rfl, C16.get 0 rfl, hrow16⟩⟩, hcan16, hval16⟩, Nat.le_trans (canon_len h.hlt hcan16 (by omega)) hl1⟩⟩
end Go.Proofs.YtppalofalmieaaaGreat
namespace Go.Proofs.YtppalofalmieaaaGreat
open Go Go.Gv Go.RowKit
set_option maxRecDepth 100000
set_option maxHeartbeats 1000000
theorem Mul_c (w : World) (X : Hid) (hX : ∀ k o, X k o → k < w.heap.size) (ad : Option Addr) (len cap : Nat) (l : List Nat) (h : Limbs (rd w X) ad len cap l) (ad2 : Option Addr) (len2 cap2 : Nat) (l2 : List Nat) (h2 : Limbs (rd w X) ad2 len2 cap2 l2) : Calls Tryz.prog 154 #[.slice ad len cap, .slice ad2 len2 cap2] w (Ret E0 w fun w' v => NumV 56 w w' (or2 (chk2 l l2) (fitE (val l * val l2))) (val l * val l2) v) := by
 obtain rfl := h.hlen
 obtain rfl := h2.hlen
 have hcap := h.hcap
 have hbig := h.hbig
 have hcap2 := h2.hcap
 have hbig2 := h2.hbig
 refine zen Tryz.func154 ?_
 have C0 : St E0 w X w X [] := St.start hX
 refine zz 11 ?_
 refine zc C0 (bcheck2 _ X0 (X0_lt _) _ _ _ l (h.mono Le.x0) _ _ _ l2 (h2.mono Le.x0)) ?_
 rintro v3 w3 C3 j3 hu3 rfl
 refine zz 9 ?_
 refine zb 18 (b := ((chk2 l l2) != 0)) (fun hc4 => ?_) (fun hc4 => ?_)
 ·
  have ht5 : (chk2 l l2) ≠ 0 := by simpa using hc4
  refine zz 10 ?_
  refine zr' (v := .tuple #[.slice none 0 0, .int .i64 (chk2 l l2)]) ?_
  exact ⟨C3.upd, _, rfl, by rw [or2_err ht5]; exact .inl ⟨ht5, rfl⟩⟩
 have ht6 : (chk2 l l2) = 0 := by simpa using hc4
 obtain ⟨⟨hl1, c1⟩, hl2, c2⟩ := chk2_ok ht6
 refine zz 10 ?_
 refine zw 24 (x := ((l.length + l2.length : Nat) : Int)) ?_
 refine zz 1 ?_
 refine zw 25 (x := ((l.length + l2.length + 1 : Nat) : Int)) ?_
 refine zop (at1 [] Tryz.f154 [1, 1, 0]) 6 (fun a7 _ G7 hz7 => op_makeZ (l := ((l.length + l2.length + 1 : Nat) : Int)) (e := 56) (z := .int .u32 0) (i0 := Tryz.t56) (l.length + l2.length + 1) 4 G7 C3 ?_)
 intro b8 w8 Y8 C8 j8 hu8 a9 G9
 have hrow8 := URow.zeros (l.length + l2.length + 1) (by simp only [maxLen]; omega)
 refine hz7 G9 ?_
 refine zz 12 ?_
 refine zlp Tryz.f154 [] [1, 1, 1, 0, 1, 0] (fun (i : Nat) => [(1, .slice ad2 l2.length cap2), (7, .slice (some ⟨b8, 0, none⟩) (l.length + l2.length + 1) (l.length + l2.length + 1)), (27, .slice ad l.length cap), (28, .int .i64 (l.length : Int)), (29, .int .i64 (i : Int))]) (fun (i : Nat) w1 => ∃ (Y1 : Hid) (cur1 : Array Value) (l1 : List Nat), St E0 w X w1 Y1 [(b8, .cells cur1 56 (0, 0))] ∧ Le (rd w8 Y8) (rd w1 Y1) ∧ (URow (l.length + l2.length + 1) (l.length + l2.length + 1) cur1 l1) ∧ (i ≤ l.length) ∧ (val l1 = val (l.take i) * val l2)) (fun (i : Nat) => l.length - i) 0 ?_ ?_
 ·
  refine ⟨_, (List.replicate (l.length + l2.length + 1) (Value.int .u32 0)).toArray, (List.replicate (l.length + l2.length + 1) 0), C8, Le.refl _, hrow8, Nat.zero_le _, by simp [val, val_replicate]⟩
 rintro i w10 K10 H10 ⟨Y10, cur1, l1, C10, j10, hp10_0, hp10_1, hp10_2⟩
 have hrow1 := hp10_0
 have hlen1 := hrow1.len
 have hlti := h.getD_lt i
 refine zz 6 ?_
 refine zt 30 (p := (i : Int) < (l.length : Int)) (fun ht11 => ?_) (fun ht11 => ?_)
 ·
  obtain ⟨bk12, of13, rfl, _⟩ := h.addr (by omega)
  refine zz 8 ?_
  refine zi (b := bk12) (off := of13) (len := l.length) (cap := cap) (kd := .i64) (i := (i : Int)) 1 (of13 + i) ?_
  refine zl ((h.cell (i := i) (by omega)).mono (Le3 j3 j8 j10)).cells ?_
  refine zz 9 ?_
  refine zw 36 (x := ((l2.length + 1 : Nat) : Int)) ?_
  refine zop (at1 [K10] Tryz.f154 [1, 1, 1, 0, 1, 0, 0, 1, 1, 0, 0, 1, 0]) 3 (fun a14 _ G14 hz14 => op_makeZ (l := ((l2.length + 1 : Nat) : Int)) (e := 56) (z := .int .u32 0) (i0 := Tryz.t56) (l2.length + 1) 4 G14 C10 ?_)
  intro b15 w15 Y15 C15 j15 hu15 a16 G16
  have hrow15 := URow.zeros (l2.length + 1) (by simp only [maxLen]; omega)
  refine hz14 G16 ?_
  refine zz 12 ?_
  refine zlp Tryz.f154 [K10] [1, 1, 1, 0, 1, 0, 0, 1, 1, 0, 0, 1, 1, 0, 1, 0] (fun (j : Nat) => [(1, .slice ad2 l2.length cap2), (7, .slice (some ⟨b8, 0, none⟩) (l.length + l2.length + 1) (l.length + l2.length + 1)), (8, .int .i64 (i : Int)), (9, .int .u32 ((l.getD i 0 : Nat) : Int)), (10, .slice (some ⟨b15, 0, none⟩) (l2.length + 1) (l2.length + 1)), (27, .slice (some ⟨bk12, of13, none⟩) l.length cap), (28, .int .i64 (l.length : Int)), (29, .int .i64 (i : Int)), (38, .slice ad2 l2.length cap2), (39, .int .i64 (l2.length : Int)), (40, .int .i64 (j : Int))]) (fun (j : Nat) w1 => ∃ (Y1 : Hid) (cur2 : Array Value) (lp : List Nat), St E0 w X w1 Y1 [(b15, .cells cur2 56 (0, 0)), (b8, .cells cur1 56 (0, 0))] ∧ Le (rd w15 Y15) (rd w1 Y1) ∧ (URow (l2.length + 1) (l2.length + 1) cur2 lp) ∧ (j ≤ l2.length) ∧ (val lp = l.getD i 0 * val (l2.take j)) ∧ (∀ t, j < t → lp.getD t 0 = 0)) (fun (j : Nat) => l2.length - j) 0 ?_ ?_
  ·
   refine ⟨_, (List.replicate (l2.length + 1) (Value.int .u32 0)).toArray, (List.replicate (l2.length + 1) 0), C15, Le.refl _, hrow15, Nat.zero_le _, by simp [val, val_replicate], fun t _ => by by_cases ht : t < l2.length + 1 <;> simp [List.getD_eq_getElem?_getD, ht]⟩
  rintro j w17 K17 H17 ⟨Y17, cur2, lp, C17, j17, hp17_0, hp17_1, hp17_2, hp17_3⟩
  have hrow2 := hp17_0
  have hlen2 := hrow2.len
  have hltj := h2.getD_lt j
  have hltp := hrow2.getD_lt j
  have hmul : l.getD i 0 * l2.getD j 0 ≤ 4294967295 * 4294967295 := Nat.mul_le_mul (by omega) (by omega)
  refine zz 6 ?_
  refine zt 41 (p := (j : Int) < (l2.length : Int)) (fun ht18 => ?_) (fun ht18 => ?_)
  ·
   obtain ⟨bk19, of20, rfl, _⟩ := h2.addr (by omega)
   refine zz 8 ?_
   refine zi (b := bk19) (off := of20) (len := l2.length) (cap := cap2) (kd := .i64) (i := (j : Int)) 1 (of20 + j) ?_
   have hc1_ := (Le4 j3 j8 j10 j15).trans j17
   refine zl ((h2.cell (i := j) (by omega)).mono hc1_).cells ?_
   refine zz 8 ?_
   refine zs 46 (v := .int .u64 (IntKind.u64.wrap (((l.getD i 0 : Nat) : Int)))) (v' := .int .u64 ((l.getD i 0 : Nat) : Int)) (vint (wu64 (by omega) (by omega))) ?_
   refine zz 2 ?_
   refine zs 48 (v := .int .u64 (IntKind.u64.wrap (((l2.getD j 0 : Nat) : Int)))) (v' := .int .u64 ((l2.getD j 0 : Nat) : Int)) (vint (wu64 (by omega) (by omega))) ?_
   refine zz 1 ?_
   refine zs 49 (v := .int .u64 (IntKind.u64.wrap (((l.getD i 0 : Nat) : Int) * ((l2.getD j 0 : Nat) : Int)))) (v' := .int .u64 ((l.getD i 0 * l2.getD j 0 : Nat) : Int)) (vint ((wu64 (by rw [← Int.natCast_mul]; omega) (by rw [← Int.natCast_mul]; omega)).trans (Int.natCast_mul _ _).symm)) ?_
   refine zz 2 ?_
   refine zi (b := b15) (off := 0) (len := (l2.length + 1)) (cap := (l2.length + 1)) (kd := .i64) (i := (j : Int)) 1 j ?_
   refine zl (ad := ⟨b15, j, none⟩) (C17.rowCells 0 rfl hrow2 (by have := hrow2.len; (try simp only [List.length_set] at *); omega)) ?_
   refine zz 1 ?_
   refine zs 54 (v := .int .u64 (IntKind.u64.wrap (((lp.getD j 0 : Nat) : Int)))) (v' := .int .u64 ((lp.getD j 0 : Nat) : Int)) (vint (wu64 (by omega) (by omega))) ?_
   refine zz 1 ?_
   refine zs 55 (v := .int .u64 (IntKind.u64.wrap (((l.getD i 0 * l2.getD j 0 : Nat) : Int) + ((lp.getD j 0 : Nat) : Int)))) (v' := .int .u64 ((l.getD i 0 * l2.getD j 0 + lp.getD j 0 : Nat) : Int)) (vint (wu64 (by omega) (by omega))) ?_
   refine zz 9 ?_
   refine zw 60 (x := ((j + 1 : Nat) : Int)) ?_
   refine zz 2 ?_
   refine zs 62 (v := .int .u32 (IntKind.u32.wrap (((l.getD i 0 * l2.getD j 0 + lp.getD j 0 : Nat) : Int)))) (v' := .int .u32 (((l.getD i 0 * l2.getD j 0 + lp.getD j 0) % 4294967296 : Nat) : Int)) (vint (by rw [wrap_u32]; omega)) ?_
   refine zz 2 ?_
   refine zs 64 (v := .int .u64 (Int.fdiv (((l.getD i 0 * l2.getD j 0 + lp.getD j 0 : Nat) : Int)) (2 ^ 32))) (v' := .int .u64 (((l.getD i 0 * l2.getD j 0 + lp.getD j 0) / 4294967296 : Nat) : Int)) (vint (by rw [fdiv_pow _ 32 (c := 4294967296) (by decide) (by decide)]; omega)) ?_
   refine zz 1 ?_
   refine zs 65 (v := .int .u32 (IntKind.u32.wrap ((((l.getD i 0 * l2.getD j 0 + lp.getD j 0) / 4294967296 : Nat) : Int)))) (v' := .int .u32 (((l.getD i 0 * l2.getD j 0 + lp.getD j 0) / 4294967296 : Nat) : Int)) (vint (by rw [wrap_u32]; omega)) ?_
   refine zi (b := b15) (off := 0) (len := (l2.length + 1)) (cap := (l2.length + 1)) (kd := .i64) (i := (j : Int)) 1 j ?_
   refine zop (at1 [K10, K17] Tryz.f154 [1, 1, 1, 0, 1, 0, 0, 1, 1, 0, 0, 1, 1, 0, 1, 0, 0, 1, 1, 0, 0, 1, 1]) 11 (fun a21 _ G21 hz21 => op_storeUZ (y := ((l.getD i 0 * l2.getD j 0 + lp.getD j 0) % 4294967296)) (k := j) (e := (((l.getD i 0 * l2.getD j 0 + lp.getD j 0) % 4294967296 : Nat) : Int)) 0 G21 C17 (by first | rfl | omega | (simp; omega)) rfl hrow2 (by have := hrow2.len; (try simp only [List.length_set] at *); omega) (by first | omega | (simp; omega)) ?_)
   intro cur22 w22 hrow22 C22 j22
   refine hz21 G21 ?_
   refine zi (b := b15) (off := 0) (len := (l2.length + 1)) (cap := (l2.length + 1)) (kd := .i64) (i := ((j + 1 : Nat) : Int)) 1 ((((j + 1 : Nat) : Int)).toNat) ?_
   refine zop (at1 [K10, K17] Tryz.f154 [1, 1, 1, 0, 1, 0, 0, 1, 1, 0, 0, 1, 1, 0, 1, 0, 0, 1, 1, 0, 0, 1, 1]) 13 (fun a23 _ G23 hz23 => op_storeUZ (y := ((l.getD i 0 * l2.getD j 0 + lp.getD j 0) / 4294967296)) (k := (((j + 1 : Nat) : Int)).toNat) (e := (((l.getD i 0 * l2.getD j 0 + lp.getD j 0) / 4294967296 : Nat) : Int)) 0 G23 C22 (by first | rfl | omega | (simp; omega)) rfl hrow22 (by have := hrow22.len; (try simp only [List.length_set] at *); omega) (by first | omega | (simp; omega)) ?_)
   intro cur24 w24 hrow24 C24 j24
   refine hz23 G23 ?_
   refine zz 5 ?_
   refine zw 68 (x := (j : Int) + 1) ?_
   refine zz 2 ?_
   refine znext (fun a h => H17 (j + 1) _ a h ⟨_, cur24, ((lp.set j ((l.getD i 0 * l2.getD j 0 + lp.getD j 0) % 4294967296)).set ((((j + 1 : Nat) : Int)).toNat) ((l.getD i 0 * l2.getD j 0 + lp.getD j 0) / 4294967296)), C24, (Le3 j17 j22 j24), hrow24, by omega, by rw [val_take l2 j (by omega), Nat.mul_add, ← Nat.mul_assoc]; exact mulstep lp j _ _ _ (by omega) (hp17_3 _ (by omega)) hp17_2, fun t ht => by rw [getD_set_of_ne (by omega), getD_set_of_ne (by omega)]; exact hp17_3 t (by omega)⟩ ?_)
   first | omega | (simp <;> omega)
  have hpv : val lp = l.getD i 0 * val l2 := by have h9 := hp17_2; rwa [show j = l2.length by omega, List.take_length] at h9
  refine zz 10 ?_
  refine zcE 1 C17 rfl (add_c _ b8 (l.length + l2.length + 1) (l.length + l2.length + 1) _ l1 (C17.get 1 rfl) hrow1 (by omega) _ _ _ lp (URow.limbs (Y := HG b8) hrow2 (C17.get 0 rfl) (fun o h => C17.ne (i := 0) (j := 1) rfl rfl (by decide) h)) i (by omega) (by have h8 := hp10_2; rw [hp10_2, hpv]; have h9 := val_take l i (by omega); have e : val (l.take i) * val l2 + 4294967296 ^ i * (l.getD i 0 * val l2) = val (l.take (i + 1)) * val l2 := (by rw [h9, Nat.add_mul]; congr 1; ac_rfl); rw [e]; exact mul_fits (Nat.lt_of_le_of_lt (val_take_le _ _) (val_lt h.hlt)) (val_lt h2.hlt) (by omega))) ?_ (vs := #[.slice (some ⟨b8, 0, none⟩) (l.length + l2.length + 1) (l.length + l2.length + 1), .slice (some ⟨b15, 0, none⟩) (l2.length + 1) (l2.length + 1), .int .i64 (i : Int)])
  rintro v26 w26 ob26 ⟨rfl, cur26, ls26, hg26, hrow26, hval26⟩ hob26 C26 j26
  obtain rfl := Option.some.inj (hob26.symm.trans hg26)
  refine zz 5 ?_
  refine zw 73 (x := (i : Int) + 1) ?_
  refine zz 2 ?_
  have hc2_ := (Le3 j10 j15 j17).trans j26
  refine znext (fun a h => H10 (i + 1) _ a h ⟨_, cur26, ls26, C26.tail, hc2_, hrow26, by omega, by have h8 := hval26; have h9 := hpv; rw [val_take l i (by omega), Nat.add_mul, h8, h9, ← hp10_2]; have e : l.getD i 0 * 4294967296 ^ i * val l2 = 4294967296 ^ i * (l.getD i 0 * val l2) := (by ac_rfl); omega⟩ ?_)
  first | omega | (simp <;> omega)
 have hfin : val l1 = val l * val l2 := by have h9 := hp10_2; rwa [show i = l.length by omega, List.take_length] at h9
 refine zz 9 ?_
 refine zc C10 (fit_c _ X0 (X0_lt _) _ _ _ l1 (URow.limbs (Y := X0) hrow1 (C10.get 0 rfl) (fun _ h => h.elim))) ?_ (vs := #[.slice (some ⟨b8, 0, none⟩) (l.length + l2.length + 1) (l.length + l2.length + 1)])
 rintro v28 w28 C28 j28 hu28 hfit28
 obtain ⟨af28, lf28, cf28, hfe28⟩ := fit_sl (some ⟨b8, 0, none⟩) (l.length + l2.length + 1) l1
 cases (hfit28.trans hfe28)
 refine zz 7 ?_
 refine zr' (v := .tuple #[.slice af28 lf28 cf28, .int .i64 (fitI l1)]) ?_
 exact ⟨C28.upd, _, rfl, by rw [or2_ok ht6]; exact NumV.fit hrow1 (C28.get 0 rfl) (C28.own_ge 0 rfl) (hfin) hfe28.symm⟩
end Go.Proofs.YtppalofalmieaaaGreat
namespace Go.Proofs.YtppalofalmieaaaGreat
open Go Go.Gv Go.RowKit
set_option maxRecDepth 100000
set_option maxHeartbeats 1000000
/-- A row in the place of an old one: of the length l. -/
def NewRow (T : TypeId) (Φ : List Nat → Prop) (g' : Nat) (o' : Obj) (v : Value) : Prop := ∃ cur' cap' l', o' = .cells cur' T (0, 0) ∧ v = .slice (some ⟨g', 0, none⟩) l'.length cap' ∧ URow l'.length cap' cur' l' ∧ Φ l'
theorem double_c (w : World) (g m cap : Nat) (cur : Array Value) (l : List Nat) (hg : w.heap[g]? = some (.cells cur 56 (0, 0))) (hrow : URow m cap cur l) (hm : m ≤ 1099511627776) (hcan : Canon l) (c0 : Nat) (hc : c0 ≤ 1) :
    Calls Tryz.prog 169 #[.slice (some ⟨g, 0, none⟩) m cap, .int .u32 (c0 : Int)] w (Ret (· = g) w fun w1 v => ∃ g' o', w1.heap[g']? = some o' ∧ (w.heap.size ≤ g' ∨ g' = g) ∧ NewRow 56 (fun l' => l'.length ≤ m + 1 ∧ Canon l' ∧ val l' = 2 * val l + c0) g' o' v) := by
 refine zen Tryz.func169 ?_
 have hX : ∀ k o, HG g k o → k < w.heap.size := by rintro k o rfl; exact (Array.getElem?_eq_some_iff.1 hg).1
 have C0 : St (· = g) w (HG g) w (HG g) [(g, .cells cur 56 (0, 0))] := St.startE g _ hX hg (fun _ => rfl)
 have hlen := hrow.len
 refine zz 14 ?_
 refine zlp Tryz.f169 [] [1, 0, 1, 0] (fun ((j, c) : Nat × Nat) => [(0, .slice (some ⟨g, 0, none⟩) m cap), (1, .int .u32 (c : Int)), (7, .slice (some ⟨g, 0, none⟩) m cap), (8, .int .i64 (m : Int)), (9, .int .i64 (j : Int))]) (fun ((j, c) : Nat × Nat) w1 => ∃ (Y1 : Hid) (cur1 : Array Value) (l1 : List Nat), St (· = g) w (HG g) w1 Y1 [(g, .cells cur1 56 (0, 0))] ∧ Le (rd w (HG g)) (rd w1 Y1) ∧ (URow m cap cur1 l1) ∧ (j ≤ l.length) ∧ (c ≤ 1) ∧ (val l1 + c * 4294967296 ^ j = (val l + c0) + val (l.take j)) ∧ (∀ t, j ≤ t → l1.getD t 0 = l.getD t 0)) (fun ((j, c) : Nat × Nat) => l.length - j) (0, c0) ?_ ?_
 ·
  refine ⟨_, cur, l, C0, Le.refl _, hrow, Nat.zero_le _, hc, by simp [val], fun _ _ => rfl⟩
 rintro ⟨j, c⟩ w2 K2 H2 ⟨Y2, cur1, l1, C2, j2, hp2_0, hp2_1, hp2_2, hp2_3, hp2_4⟩
 have hrow1 := hp2_0
 have hlen1 := hrow1.len
 have hlt1 := hrow.getD_lt j
 have hc1 := hp2_2
 have hpre := hp2_4
 refine zz 6 ?_
 refine zt 10 (p := (j : Int) < (m : Int)) (fun ht3 => ?_) (fun ht3 => ?_)
 ·
  refine zz 8 ?_
  refine zi (b := g) (off := 0) (len := m) (cap := cap) (kd := .i64) (i := (j : Int)) 1 j ?_
  refine zl (ad := ⟨g, j, none⟩) (C2.rowCells 0 rfl hrow1 (by have := hrow1.len; (try simp only [List.length_set] at *); omega)) ?_
  refine zz 9 ?_
  refine zs 17 (v := .int .u32 (IntKind.u32.wrap (((l1.getD j 0 : Nat) : Int) * 2 ^ 1))) (v' := .int .u32 ((l.getD j 0 * 2 % 4294967296 : Nat) : Int)) (vint (by rw [wrap_u32, hpre j (Nat.le_refl _)]; omega)) ?_
  refine zz 2 ?_
  refine zs 19 (v := .int .u32 (bor32 ((l.getD j 0 * 2 % 4294967296 : Nat) : Int) (c : Int))) (v' := .int .u32 ((l.getD j 0 * 2 % 4294967296 + c : Nat) : Int)) (vint (bor_low _ _ hc1)) ?_
  refine zz 2 ?_
  refine zs 21 (v := .int .u32 (Int.fdiv (((l1.getD j 0 : Nat) : Int)) (2 ^ 31))) (v' := .int .u32 ((l.getD j 0 / 2147483648 : Nat) : Int)) (vint (by rw [fdiv_pow _ 31 (c := 2147483648) (by decide) (by decide), hpre j (Nat.le_refl _)]; omega)) ?_
  refine zi (b := g) (off := 0) (len := m) (cap := cap) (kd := .i64) (i := (j : Int)) 1 j ?_
  refine zop (at1 [K2] Tryz.f169 [1, 0, 1, 0, 0, 1, 1, 0, 0, 1]) 9 (fun a4 _ G4 hz4 => op_storeUZ (y := (l.getD j 0 * 2 % 4294967296 + c)) (k := j) (e := ((l.getD j 0 * 2 % 4294967296 + c : Nat) : Int)) 0 G4 C2 (by first | rfl | omega | (simp; omega)) rfl hrow1 (by have := hrow1.len; (try simp only [List.length_set] at *); omega) (by omega) ?_)
  intro cur5 w5 hrow5 C5 j5
  refine hz4 G4 ?_
  refine zz 6 ?_
  refine zw 23 (x := (j : Int) + 1) ?_
  refine zz 2 ?_
  refine znext (fun a h => H2 ((j + 1, l.getD j 0 / 2147483648)) _ a h ⟨_, cur5, (l1.set j (l.getD j 0 * 2 % 4294967296 + c)), C5, (Le2 j2 j5), hrow5, by omega, by omega, dblstep l l1 j c _ (by omega) (by omega) (hpre j (Nat.le_refl _)) hp2_3, fun t ht => by rw [getD_set_of_ne (by omega)]; exact hpre t (by omega)⟩ ?_)
  first | omega | (simp <;> omega)
 have htot : val l1 + c * 4294967296 ^ m = val l + c0 + val l := by have h9 := hp2_3; rwa [show j = l.length by omega, List.take_length, hlen] at h9
 refine zz 13 ?_
 refine zb 25 (b := ((c : Int) != 0)) (fun hc6 => ?_) (fun hc6 => ?_)
 ·
  have ht7 : (c : Int) ≠ 0 := by simpa using hc6
  have hcz : c = 1 := by omega
  refine zz 4 ?_
  refine zn (fun b => .slice (some ⟨b, 0, none⟩) 1 1) (.cells #[.int .u32 (c : Int)] 56 (0, 0)) C2 ?_
  intro b9 w9 Y9 C9 j9 hu9
  refine zop (at1 [K2] Tryz.f169 [1, 1, 0, 1, 0]) 3 (fun a10 _ G10 hz10 => op_appendZ (b := 4) (m := 1) (c := 1) (size := 1) (ad := ⟨b9, 0, none⟩) (xs := U32 l1) (news := [.int .u32 (c : Int)]) (i0 := Tryz.t56) (cur := cur1) (nn := m) (cap := cap) (g := g) (e := 56) 1 G10 C9 rfl hrow1.row (C9.cells 0 rfl rfl) kr kr (by simp only [maxLen]; omega) (by show (_ + 1) * 4 ≤ _; omega) ?_)
  intro g11 cap11 cur11 w11 Y11 hrow11 C11 j11 a12 G12
  have hrw11 := URow.app hrow11 hrow1.lt (by omega : c < 4294967296)
  refine hz10 G12 ?_
  refine zz 10 ?_
  refine zr' (v := .slice (some ⟨g11, 0, none⟩) (m + 1) cap11) ?_
  exact ⟨C11.upd, _, rfl, g11, _, C11.get 1 rfl, C11.own_or 1 rfl, _, _, (l1 ++ [c]), rfl, by rw [List.length_append, hlen1]; rfl, by rw [List.length_append, hlen1]; exact hrw11, by simp only [List.length_append, List.length_singleton]; omega, canon_app (by omega), by rw [val_snoc, hlen1]; omega⟩
 have ht13 : (c : Int) = 0 := by simpa using hc6
 have hcz : c = 0 := by omega
 refine zz 10 ?_
 refine zr' (v := .slice (some ⟨g, 0, none⟩) m cap) ?_
 exact ⟨C2.upd, _, rfl, g, _, C2.get 0 rfl, C2.own_or 0 rfl, _, _, l1, rfl, by rw [hlen1], by rw [hlen1]; exact hrow1, by omega, canon_of_ge hrow1.lt (fun h0 => by rw [hcz] at htot; have h8 := canon_ge hcan (fun e => by rw [e] at hlen; simp at hlen; omega); rw [hlen1]; rw [hlen] at h8; omega), by rw [hcz] at htot; omega⟩
theorem double_nil (w : World) (X : Hid) (hX : ∀ k o, X k o → k < w.heap.size) (c0 : Nat) (hc : c0 ≤ 1) : Calls Tryz.prog 169 #[.slice none 0 0, .int .u32 (c0 : Int)] w (Ret E0 w fun w1 v => ∃ l' ad' len' cap', OwnN 56 w w1 v l' ad' len' cap' c0 ∧ l'.length ≤ 1) := by
 refine zen Tryz.func169 ?_
 have C0 : St E0 w X w X [] := St.start hX
 refine zz 14 ?_
 refine zloop0 ?_
 refine zz 19 ?_
 refine zb 25 (b := ((c0 : Int) != 0)) (fun hc2 => ?_) (fun hc2 => ?_)
 ·
  have ht3 : (c0 : Int) ≠ 0 := by simpa using hc2
  refine zz 4 ?_
  refine zn (fun b => .slice (some ⟨b, 0, none⟩) 1 1) (.cells #[.int .u32 (c0 : Int)] 56 (0, 0)) C0 ?_
  intro b5 w5 Y5 C5 j5 hu5
  refine zop (at1 [] Tryz.f169 [1, 1, 0, 1, 0]) 3 (fun a6 _ G6 hz6 => op_append0Z (b := 4) (m := 1) (c := 1) (size := 1) (ad := ⟨b5, 0, none⟩) (news := [.int .u32 (c0 : Int)]) (i0 := Tryz.t56) (e := 56) G6 C5 (C5.cells 0 rfl rfl) kr (by omega) (by simp only [maxLen]; omega) (by show 1 * 4 ≤ _; omega) ?_)
  intro g7 cap7 cur7 w7 Y7 hrow7 C7 j7 a8 G8
  have hrw7 : URow 1 cap7 cur7 [c0] := URow.app (m := 0) (l := []) hrow7 (fun x hx => by simp at hx) (by omega)
  refine hz6 G8 ?_
  refine zz 10 ?_
  refine zr' (v := .slice (some ⟨g7, 0, none⟩) 1 cap7) ?_
  exact ⟨C7.upd, _, rfl, [c0], _, _, _, ⟨⟨rfl, rfl, hrw7.lt, .inr ⟨_, _, rfl, C7.own_ge 0 rfl, C7.get 0 rfl, hrw7⟩⟩, canon_app (l := []) (by omega), by simp [val]⟩, by simp⟩
 have ht9 : (c0 : Int) = 0 := by simpa using hc2
 refine zz 10 ?_
 refine zr' (v := .slice none 0 0) ?_
 exact ⟨C0.upd, _, rfl, [], _, _, _, ⟨⟨rfl, rfl, fun x hx => by simp at hx, .inl ⟨rfl, rfl, rfl⟩⟩, .inl rfl, by simp [val]; omega⟩, by simp⟩
end Go.Proofs.YtppalofalmieaaaGreat
namespace Go.Proofs.YtppalofalmieaaaGreat
open Go Go.Gv Go.RowKit
set_option maxRecDepth 100000
set_option maxHeartbeats 1000000
theorem val_mod2 (l : List Nat) : val l % 2 = l.getD 0 0 % 2 := by
  rcases l with _ | ⟨x, l⟩
  · simp [val]
  · simp only [val, List.getD_cons_zero]; omega
theorem two_pow_lt {k m v V : Nat} (h : v * 2 ^ k = V) (hp : 0 < v) (hV : V < 4294967296 ^ m) : k < V ∧ k < 32 * m := by
  have h1 : 1 * 2 ^ k ≤ v * 2 ^ k := Nat.mul_le_mul_right _ hp
  have h2 : k < 2 ^ k := Nat.lt_two_pow_self
  refine ⟨by omega, ?_⟩
  have h3 : (4294967296 : Nat) ^ m = 2 ^ (32 * m) := by rw [Nat.pow_mul]
  have h4 : 2 ^ k < 2 ^ (32 * m) := by omega
  exact (Nat.pow_lt_pow_iff_right (by omega : 1 < 2)).1 h4
theorem halve_c (w : World) (g m cap : Nat) (cur : Array Value) (l : List Nat) (hg : w.heap[g]? = some (.cells cur 56 (0, 0))) (hrow : URow m cap cur l) (hm : m ≤ 1099511627776) (hcan : Canon l) (hpos : 0 < val l) :
    Calls Tryz.prog 166 #[.slice (some ⟨g, 0, none⟩) m cap] w (Ret (· = g) w fun w1 v => ∃ k cur' l', v = .tuple #[.slice (some ⟨g, 0, none⟩) l'.length cap, .int .i64 ((k : Nat) : Int)] ∧ w1.heap[g]? = some (.cells cur' 56 (0, 0)) ∧ URow l'.length cap cur' l' ∧ Canon l' ∧ val l' * 2 ^ k = val l ∧ val l' % 2 = 1) := by
 refine m_enter (n := 37) (vs := [.slice (some ⟨g, 0, none⟩) m cap]) Tryz.func166 rfl rfl rfl kr (fun a0 G0 => ?_)
 have G0 : Fr 37 a0 [(0, .slice (some ⟨g, 0, none⟩) m cap)] := G0
 have hX : ∀ k o, HG g k o → k < w.heap.size := by rintro k o rfl; exact (Array.getElem?_eq_some_iff.1 hg).1
 have C0 : St (· = g) w (HG g) w (HG g) [(g, .cells cur 56 (0, 0))] := St.startE g _ hX hg (fun _ => rfl)
 have hlen := hrow.len
 refine zG (fun K1 H1 => ?_)
 refine zC ?_
 refine wplI G0 kr (op_new (d := 1) (fun b => .pointer (some ⟨b, 0, none⟩)) (.cells #[.slice (some ⟨g, 0, none⟩) m cap] 26 (0, 0)) G0 kr C0 kw ?_)
 intro b2 w2 Y2 C2 j2 hu2 a3 G3
 refine zD 2 [(3, .int .i64 0), (2, .slice none 0 0)] G3 kr kr (fun a4 G4 => ?_)
 refine zH ?_
 refine zA (H1 _ _ ?_)
 refine zG (fun K5 H5 => ?_)
 refine zC ?_
 refine zD 1 [(4, .int .i64 0)] G4 kr kr (fun a6 G6 => ?_)
 refine zH ?_
 refine zA (H5 _ _ ?_)
 refine zG (fun K7 H7 => ?_)
 refine i_block ?_
 refine i_loop (fun (k : Nat) ac w1 => ∃ (Y1 : Hid) (bs : List Nat) (m1 : Nat) (cur1 : Array Value) (l1 : List Nat), Fr 37 ac [(1, .pointer (some ⟨b2, 0, none⟩)), (4, .int .i64 (k : Int))] (bs.map Go.Gv.mark) ∧ St (· = g) w (HG g) w1 Y1 ((b2, .cells #[.slice (some ⟨g, 0, none⟩) m1 cap] 26 (0, 0)) :: (g, .cells cur1 56 (0, 0)) :: marks bs) ∧ Le (rd w2 Y2) (rd w1 Y1) ∧ (URow m1 cap cur1 l1) ∧ (Canon l1) ∧ (val l1 * 2 ^ k = val l)) (fun (k : Nat) => val l - k) 0 ?_ ?_
 ·
  refine ⟨_, [], m, cur, l, G6.as [1, 4] kr kr, C2, Le.refl _, hrow, hcan, by simp⟩
 rintro k a8 w8 ⟨Y8, bs, m1, cur1, l1, G8, C8, j8, hp8_0, hp8_1, hp8_2⟩
 have hrow1 := hp8_0
 have hlen1 := hrow1.len
 have hcan1 := hp8_1
 have hval1 := hp8_2
 have hp1 : 0 < val l1 := Nat.pos_of_ne_zero (fun e => by rw [e] at hval1; omega)
 obtain ⟨hkv, hkm⟩ := two_pow_lt hval1 hp1 (val_lt hrow.lt)
 rw [hlen] at hkm
 have hm0 : 0 < m1 := by rcases Nat.eq_zero_or_pos m1 with e | e; rw [List.eq_nil_of_length_eq_zero (hlen1.trans e)] at hp1; simp [val] at hp1; exact e
 have hm1 : m1 ≤ m := by have := canon_len hrow.lt hcan1 (by have := Nat.le_mul_of_pos_right (val l1) (Nat.two_pow_pos k); omega); omega
 have hlt0 := hrow1.getD_lt 0
 refine zG (fun K9 H9 => ?_)
 refine zG (fun K10 H10 => ?_)
 refine zC ?_
 refine wplI G8 kr (zF (d := 8) (v := .slice (some ⟨g, 0, none⟩) m1 cap) G8 kr (zB (t := 26) (g := false) (vs := [.slice (some ⟨g, 0, none⟩) m1 cap]) (ad := ⟨b2, 0, none⟩) rfl kr kr ir (C8.cells 0 rfl rfl)) ?_)
 intro a11 G11
 refine zD 2 [(10, .bool (decide ((m1 : Int) > 0))), (9, .int .i64 (m1 : Int))] G11 kr kr (fun a12 G12 => ?_)
 have G13 := G12.set 10 (v' := .bool true) kr rfl (zJ (decide_eq_true (by omega)))
 refine zD 1 [(11, .bool true)] G13 kr kr (fun a14 G14 => ?_)
 refine wplI G14 kr (zF (d := 12) (v := .slice (some ⟨g, 0, none⟩) m1 cap) G14 kr (zB (t := 26) (g := false) (vs := [.slice (some ⟨g, 0, none⟩) m1 cap]) (ad := ⟨b2, 0, none⟩) rfl kr kr ir (C8.cells 0 rfl rfl)) ?_)
 intro a15 G15
 refine wplI G15 kr (zF (d := 13) (v := .pointer (some ⟨g, 0, none⟩)) G15 kr (run_indexOp (t := 26) (e := 56) (b := g) (off := 0) (len := m1) (cap := cap) (kd := .i64) (i := 0) (g := false) (m := 1) (off' := 0) rfl kr kr kr kr (by omega) (by omega) kr _) ?_)
 intro a16 G16
 refine wplI G16 kr (zF (d := 14) (v := .int .u32 ((l1.getD 0 0 : Nat) : Int)) G16 kr (zB (t := 56) (g := false) (vs := [.int .u32 ((l1.getD 0 0 : Nat) : Int)]) (ad := ⟨g, 0, none⟩) rfl kr kr ir (C8.rowCells 1 rfl hrow1 (by have := hrow1.len; (try simp only [List.length_set] at *); omega))) ?_)
 intro a17 G17
 refine zD 1 [(15, .int .u32 (band32 ((l1.getD 0 0 : Nat) : Int) 1))] G17 kr kr (fun a18 G18 => ?_)
 have G19 := G18.set 15 (v' := .int .u32 ((l1.getD 0 0 % 2 : Nat) : Int)) kr rfl (vint (band_one _ hlt0))
 refine zD 2 [(17, .bool (((l1.getD 0 0 % 2 : Nat) : Int) == 0)), (16, .bool (((l1.getD 0 0 % 2 : Nat) : Int) == 0))] G19 kr kr (fun a20 G20 => ?_)
 refine zH ?_
 refine zA (H10 _ _ ?_)
 refine i_cond (((l1.getD 0 0 % 2 : Nat) : Int) == 0) G20 kr kr (fun hc21 => ?_) (fun hc21 => ?_)
 ·
  have G22 := G20.set 17 (v' := .bool true) kr rfl (zJ hc21)
  have ht23 : ((l1.getD 0 0 % 2 : Nat) : Int) = 0 := by simpa using hc21
  have heven : val l1 % 2 = 0 := by rw [val_mod2]; omega
  refine i_skip ?_
  refine zA (H9 _ _ ?_)
  refine i_block ?_
  refine zG (fun K24 H24 => ?_)
  refine zC ?_
  refine wplI G22 kr (op_new (d := 5) (fun b => .pointer (some ⟨b, 0, none⟩)) (.cells #[.int .u32 0] 56 (0, 0)) G22 kr C8 kw ?_)
  intro b25 w25 Y25 C25 j25 hu25 a26 G26
  refine wplI G26 kr (zE (t := 56) (b := b25) (off := 0) (c' := #[.int .u32 0]) (g := false) (m := 1) 0 _ G26 kr C25 rfl kr rfl kr kr kr rfl (by first | decide | (simp; done)) kr rfl ?_)
  intro w27 C27 j27
  refine zH ?_
  refine zA (H24 _ _ ?_)
  refine zG (fun K28 H28 => ?_)
  refine zG (fun K29 H29 => ?_)
  refine zC ?_
  refine wplI G26 kr (zF (d := 18) (v := .slice (some ⟨g, 0, none⟩) m1 cap) G26 kr (zB (t := 26) (g := false) (vs := [.slice (some ⟨g, 0, none⟩) m1 cap]) (ad := ⟨b2, 0, none⟩) rfl kr kr ir (C27.cells 1 rfl rfl)) ?_)
  intro a30 G30
  refine wplI G30 kr (op_call (d := 19) (f := 185) (cap := #[]) (vs := #[.slice (some ⟨g, 0, none⟩) m1 cap]) G30 kr C27 rfl kr kr (fun w => Tryz.call185 _ w) (backward_c _ _ C27.lt (some ⟨g, 0, none⟩) m1 cap) ?_)
  rintro v31 w31 C31 j31 hu31 ⟨bx31, rfl, hge31, hget31⟩ a32 G32
  have C33 := St.adopt C31 (fun o h => Nat.not_lt.2 hge31 (C27.lt _ _ h)) (Nat.le_trans C27.upd.size hge31) hget31
  have j33 := Le.adopt j31 hge31
  refine zH ?_
  refine zA (H29 _ _ ?_)
  refine i_block ?_
  refine i_range2 (f := 198) (caps := #[.pointer (some ⟨bx31, 0, none⟩)]) G32 C33 kr kr (fun args w => Tryz.call198 args w) ?_
  intro rec34 l34 b34 w34 Y34 hr34 C34 j34 hu34
  have G35 := fr_marked b34 G32
  refine backward1_c l34 bx31 (some ⟨g, 0, none⟩) m1 cap l1 hlen1.symm (by omega) (fun k1 w' => ∃ (Y' : Hid) (cur2 : Array Value) (l2 : List Nat) (r : Nat), St (· = g) w (HG g) w' Y' ((l34, .loop rec34) :: (b34, .deferred (some [])) :: (bx31, .cells #[.slice (some ⟨g, 0, none⟩) m1 cap] 26 (0, 0)) :: (b25, .cells #[.int .u32 ((r * 2147483648 : Nat) : Int)] 56 (0, 0)) :: (b2, .cells #[.slice (some ⟨g, 0, none⟩) m1 cap] 26 (0, 0)) :: (g, .cells cur2 56 (0, 0)) :: marks bs) ∧ Le (rd w34 Y34) (rd w' Y') ∧ (URow m1 cap cur2 l2) ∧ (r ≤ 1) ∧ (2 * val l2 + r * 4294967296 ^ k1 = val l1 + val (l1.take k1)) ∧ (∀ i, i < k1 → l2.getD i 0 = l1.getD i 0)) _ ?_ ?_ ?_ ?_ _ ?_
  ·
   rintro k1 w36 ⟨Y36, cur2, l2, r, C36, j36, hp36_0, hp36_1, hp36_2, hp36_3⟩
   exact C36.at0 2 rfl rfl
  ·
   rintro k1 w37 ⟨Y37, cur2, l2, r, C37, j37, hp37_0, hp37_1, hp37_2, hp37_3⟩
   intro hk
   refine ⟨g, 0, rfl, ?_⟩
   rw [← hp37_3 k1 (by omega)]
   exact URow.cellX0 hp37_0 (C37.get 5 rfl) (by have := (hp37_0).len; omega)
  ·
   intro k1 w38 hk
   rintro ⟨Y38, cur2, l2, r, C38, j38, hp38_0, hp38_1, hp38_2, hp38_3⟩
   refine y_round2 (p := 20) (q := 21) hr34 G32 C38 kr kr (fun a39 G39 => ?_)
   have hrow2 := hp38_0
   have hlen2 := hrow2.len
   have hr1 := hp38_1
   have hv2 := hp38_2
   have heq2 := hp38_3
   have hltk := hrow1.getD_lt k1
   refine zG (fun K40 H40 => ?_)
   refine zC ?_
   refine zD 1 [(6, .int .i64 (k1 : Int))] G39 kr kr (fun a41 G41 => ?_)
   refine zH ?_
   refine zA (H40 _ _ ?_)
   refine zC ?_
   refine zD 1 [(7, .int .u32 ((l1.getD k1 0 : Nat) : Int))] G41 kr kr (fun a42 G42 => ?_)
   refine zH ?_
   refine zA ?_
   refine y_begin2 hr34 C38 (fun w43 C43 j43 => ?_)
   refine i_block ?_
   refine zC ?_
   refine wplI G42 kr (zF (d := 22) (v := .slice (some ⟨g, 0, none⟩) m1 cap) G42 kr (zB (t := 26) (g := false) (vs := [.slice (some ⟨g, 0, none⟩) m1 cap]) (ad := ⟨b2, 0, none⟩) rfl kr kr ir (C43.cells 4 rfl rfl)) ?_)
   intro a44 G44
   refine zD 3 [(25, .int .u32 (Int.fdiv (((l1.getD k1 0 : Nat) : Int)) (2 ^ 1))), (24, .int .u32 ((l1.getD k1 0 : Nat) : Int)), (23, .int .i64 (k1 : Int))] G44 kr kr (fun a45 G45 => ?_)
   have G46 := G45.set 25 (v' := .int .u32 ((l1.getD k1 0 / 2 : Nat) : Int)) kr rfl (vint (by rw [fdiv_pow _ 1 (c := 2) (by decide) (by decide)]; omega))
   refine wplI G46 kr (zF (d := 26) (v := .int .u32 ((r * 2147483648 : Nat) : Int)) G46 kr (zB (t := 56) (g := false) (vs := [.int .u32 ((r * 2147483648 : Nat) : Int)]) (ad := ⟨b25, 0, none⟩) rfl kr kr ir (C43.cells 3 rfl rfl)) ?_)
   intro a47 G47
   refine zD 1 [(27, .int .u32 (bor32 ((l1.getD k1 0 / 2 : Nat) : Int) ((r * 2147483648 : Nat) : Int)))] G47 kr kr (fun a48 G48 => ?_)
   have G49 := G48.set 27 (v' := .int .u32 ((l1.getD k1 0 / 2 + r * 2147483648 : Nat) : Int)) kr rfl (vint (bor_top _ _ (by omega) hr1))
   refine zD 2 [(29, .int .u32 (IntKind.u32.wrap (((l1.getD k1 0 : Nat) : Int) * 2 ^ 31))), (28, .int .u32 ((l1.getD k1 0 : Nat) : Int))] G49 kr kr (fun a50 G50 => ?_)
   have G51 := G50.set 29 (v' := .int .u32 ((l1.getD k1 0 % 2 * 2147483648 : Nat) : Int)) kr rfl (vint (by rw [wrap_u32]; omega))
   refine wplI G51 kr (zF (d := 30) (v := .pointer (some ⟨g, k1, none⟩)) G51 kr (run_indexOp (t := 26) (e := 56) (b := g) (off := 0) (len := m1) (cap := cap) (kd := .i64) (i := (k1 : Int)) (g := false) (m := 1) (off' := k1) rfl kr kr kr kr (by omega) (by omega) (by first | rfl | omega | (simp; done) | (simp; omega)) _) ?_)
   intro a52 G52
   refine wplI G52 kr (op_storeU (t := 56) (y := (l1.getD k1 0 / 2 + r * 2147483648)) (k := k1) (e := ((l1.getD k1 0 / 2 + r * 2147483648 : Nat) : Int)) 5 G52 kr C43 rfl rfl rfl (by first | rfl | omega | (simp; omega)) kr rfl hrow2 (by have := hrow2.len; (try simp only [List.length_set] at *); omega) (by omega) ?_)
   intro cur53 w53 hrow53 C53 j53
   refine wplI G52 kr (zE (t := 56) (b := b25) (off := 0) (c' := #[.int .u32 ((l1.getD k1 0 % 2 * 2147483648 : Nat) : Int)]) (g := false) (m := 1) 3 _ G52 kr C53 rfl kr rfl kr kr kr rfl (by first | decide | (simp; done)) kr rfl ?_)
   intro w54 C54 j54
   refine zH ?_
   refine blk_norm ?_
   refine y_next2 hr34 C54 (fun w55 C55 j55 => Rounds.next ?_)
   exact ⟨_, cur53, (l2.set k1 (l1.getD k1 0 / 2 + r * 2147483648)), l1.getD k1 0 % 2, C55, (Le5 j38 j43 j53 j54 j55), hrow53, by omega, hlvstep l1 l2 k1 r (by omega) (by omega) (heq2 k1 (by omega)) hv2, fun i hi => by rw [getD_set_of_ne (by omega)]; exact heq2 i (by omega)⟩
  ·
   rintro w56 ⟨Y56, cur2, l2, r, C56, j56, hp56_0, hp56_1, hp56_2, hp56_3⟩
   refine RangeEnd.norm hr34 C56 (fun w57 C57 j57 => ?_)
   have hrow2 := hp56_0
   have hlen2 := hrow2.len
   have hhalf : val l2 * 2 = val l1 := by have h9 := hp56_2; have h8 := hp56_1; rw [List.take_zero] at h9; simp only [val, Nat.pow_zero] at h9; omega
   refine blk_norm ?_
   refine zA (H28 _ _ ?_)
   refine zG (fun K58 H58 => ?_)
   refine zC ?_
   refine wplI G35 kr (zF (d := 31) (v := .slice (some ⟨g, 0, none⟩) m1 cap) G35 kr (zB (t := 26) (g := false) (vs := [.slice (some ⟨g, 0, none⟩) m1 cap]) (ad := ⟨b2, 0, none⟩) rfl kr kr ir (C57.cells 4 rfl rfl)) ?_)
   intro a59 G59
   refine wplI G59 kr (op_call (d := 32) (f := 157) (cap := #[]) (vs := #[.slice (some ⟨g, 0, none⟩) m1 cap]) G59 kr C57 rfl kr kr (fun w => Tryz.call157 _ w) (trim_c _ X0 (X0_lt _) _ _ _ l2 (URow.limbs (Y := X0) hrow2 (C57.get 5 rfl) (fun _ h => h.elim))) ?_)
   rintro v60 w60 C60 j60 hu60 rfl a61 G61
   have hrt := hrow2.trimmed
   refine wplI G61 kr (zE (t := 26) (b := b2) (off := 0) (c' := #[.slice (some ⟨g, 0, none⟩) (trimN l2) cap]) (g := false) (m := 1) 4 _ G61 kr C60 rfl kr rfl kr kr kr rfl (by first | decide | (simp; done)) kr rfl ?_)
   intro w62 C62 j62
   refine zH ?_
   refine zA (H58 _ _ ?_)
   refine zC ?_
   refine zD 2 [(34, .int .i64 (IntKind.i64.wrap ((k : Int) + 1))), (33, .int .i64 (k : Int))] G61 kr kr (fun a63 G63 => ?_)
   have G64 := G63.set 34 (v' := .int .i64 ((k + 1 : Nat) : Int)) kr rfl (vint (wi64 (by omega) (by omega)))
   refine zD 1 [(4, .int .i64 ((k + 1 : Nat) : Int))] G64 kr kr (fun a65 G65 => ?_)
   refine zH ?_
   refine blk_norm ?_
   refine zA ?_
   refine ⟨k + 1, ⟨_, (_ :: bs), trimN l2, cur2, (Go.Gv.trimmed l2), G65.as [1, 4] kr kr, (St.mid [(b2, .cells #[.slice (some ⟨g, 0, none⟩) (trimN l2) cap] 26 (0, 0)), (g, .cells cur2 56 (0, 0))] C62.tail.swap.tail.swap.tail), (Le9 j8 j25 j27 j33 j34 j56 j57 j60 j62), hrt, canon_trimmed _, by rw [val_trimmed, Nat.pow_succ, ← hval1, ← hhalf]; ac_rfl⟩, ?_⟩
   first | omega | (simp; omega)
  ·
   exact ⟨_, cur1, l1, 0, C34, Le.refl _, hrow1, by omega, by rw [← hlen1, List.take_length]; omega, fun _ _ => rfl⟩
 have G66 := G20.set 17 (v' := .bool false) kr rfl (zJ hc21)
 have ht67 : ((l1.getD 0 0 % 2 : Nat) : Int) ≠ 0 := by simpa using hc21
 have hodd : val l1 % 2 = 1 := by rw [val_mod2]; omega
 refine i_exit ?_
 refine then_exit ?_
 refine then_exit ?_
 refine blk_here ?_
 refine zA (H7 _ _ ?_)
 refine zG (fun K68 H68 => ?_)
 refine zC ?_
 refine wplI G66 kr (zF (d := 35) (v := .slice (some ⟨g, 0, none⟩) m1 cap) G66 kr (zB (t := 26) (g := false) (vs := [.slice (some ⟨g, 0, none⟩) m1 cap]) (ad := ⟨b2, 0, none⟩) rfl kr kr ir (C8.cells 0 rfl rfl)) ?_)
 intro a69 G69
 refine zD 3 [(3, .int .i64 (k : Int)), (2, .slice (some ⟨g, 0, none⟩) m1 cap), (36, .int .i64 (k : Int))] G69 kr kr (fun a70 G70 => ?_)
 refine zH ?_
 refine zA (H68 _ _ ?_)
 refine i_ret ?_
 refine m_rets (bs := bs) (N := [(b2, .cells #[.slice (some ⟨g, 0, none⟩) m1 cap] 26 (0, 0)), (g, .cells cur1 56 (0, 0))]) (v := .tuple #[.slice (some ⟨g, 0, none⟩) m1 cap, .int .i64 (k : Int)]) (rs := [.tmp 2, .tmp 3]) (vs := [.slice (some ⟨g, 0, none⟩) m1 cap, .int .i64 (k : Int)]) G70 C8 kr kr (fun w71 C71 j71 => ?_)
 refine ⟨(Res.tmp kr (Res.tmp kr Res.nil)), ?_⟩
 exact ⟨C71.upd, _, rfl, k, cur1, l1, by rw [hlen1], C71.get 1 rfl, by rw [hlen1]; exact hrow1, hcan1, hval1, hodd⟩
end Go.Proofs.YtppalofalmieaaaGreat
namespace Go.Proofs.YtppalofalmieaaaGreat
open Go Go.Gv Go.RowKit
set_option maxRecDepth 100000
set_option maxHeartbeats 1000000
theorem cmpI_m1 {x y : Nat} (h : cmpI (x : Int) (y : Int) = -1) : x < y := by unfold cmpI at h; (repeat' split at h) <;> omega
theorem cmpI_n {x y : Nat} (h : cmpI (x : Int) (y : Int) ≠ 0) (h2 : cmpI (x : Int) (y : Int) ≠ -1) : y < x := by unfold cmpI at h h2; (repeat' split at h) <;> (repeat' split at h2) <;> omega
theorem GCD_c (w : World) (X : Hid) (hX : ∀ k o, X k o → k < w.heap.size) (ad : Option Addr) (len cap : Nat) (l : List Nat) (h : Limbs (rd w X) ad len cap l) (ad2 : Option Addr) (len2 cap2 : Nat) (l2 : List Nat) (h2 : Limbs (rd w X) ad2 len2 cap2 l2) : Calls Tryz.prog 147 #[.slice ad len cap, .slice ad2 len2 cap2] w (Ret E0 w fun w' v => NumV 56 w w' (chk2 l l2) (Nat.gcd (val l) (val l2)) v) := by
 obtain rfl := h.hlen
 obtain rfl := h2.hlen
 have hcap := h.hcap
 have hbig := h.hbig
 have hcap2 := h2.hcap
 have hbig2 := h2.hbig
 refine zen Tryz.func147 ?_
 have C0 : St E0 w X w X [] := St.start hX
 refine zz 12 ?_
 refine zc C0 (bcheck2 _ X0 (X0_lt _) _ _ _ l (h.mono Le.x0) _ _ _ l2 (h2.mono Le.x0)) ?_
 rintro v3 w3 C3 j3 hu3 rfl
 refine zz 9 ?_
 refine zb 13 (b := ((chk2 l l2) != 0)) (fun hc4 => ?_) (fun hc4 => ?_)
 ·
  have ht5 : (chk2 l l2) ≠ 0 := by simpa using hc4
  refine zz 11 ?_
  refine zr' (v := .tuple #[.slice none 0 0, .int .i64 (chk2 l l2)]) ?_
  exact ⟨C3.upd, _, rfl, .inl ⟨ht5, rfl⟩⟩
 have ht6 : (chk2 l l2) = 0 := by simpa using hc4
 obtain ⟨⟨hl1, c1⟩, hl2, c2⟩ := chk2_ok ht6
 refine zz 6 ?_
 refine zc C3 (clone_c _ X0 (X0_lt _) _ _ _ l ((h.mono j3).mono Le.x0) (by omega)) ?_
 rintro v8 w8 C8 j8 hu8 ⟨ad8, len8, cap8, how8⟩
 rcases how8 with ⟨rfl, hlen8, hlt8, ⟨rfl, rfl, rfl⟩ | ⟨g8, cur8, rfl, hge8, hget8, hrow8⟩⟩
 ·
  have hnil8 : l = [] := List.eq_nil_of_length_eq_zero hlen8.symm
  have hzA : val l = 0 := by rw [hnil8]; rfl
  refine zz 1 ?_
  refine zc C8 (clone_c _ X0 (X0_lt _) _ _ _ l2 ((h2.mono (Le2 j3 j8)).mono Le.x0) (by omega)) ?_
  rintro v11 w11 C11 j11 hu11 ⟨ad11, len11, cap11, how11⟩
  rcases how11 with ⟨rfl, hlen11, hlt11, ⟨rfl, rfl, rfl⟩ | ⟨g11, cur11, rfl, hge11, hget11, hrow11⟩⟩
  ·
   have hnil11 : l2 = [] := List.eq_nil_of_length_eq_zero hlen11.symm
   have hzB : val l2 = 0 := by rw [hnil11]; rfl
   refine zz 23 ?_
   refine zr' (v := .tuple #[.slice none 0 0, .int .i64 0]) ?_
   exact ⟨C11.upd, _, rfl, .inr ⟨ht6, _, [], _, _, _, rfl, ⟨⟨rfl, rfl, fun x hx => by simp at hx, .inl ⟨rfl, rfl, rfl⟩⟩, .inl rfl, by rw [hzA, hzB]; rfl⟩, by simp⟩⟩
  ·
   subst hlen11
   have C12 := St.adopt C11 (fun o h => Nat.not_lt.2 hge11 (C8.lt _ _ h)) (Nat.le_trans C8.upd.size hge11) hget11
   have j12 := Le.adopt j11 hge11
   refine zz 23 ?_
   refine zr' (v := .tuple #[.slice (some ⟨g11, 0, none⟩) l2.length cap11, .int .i64 0]) ?_
   exact ⟨C12.upd, _, rfl, .inr ⟨ht6, _, l2, _, _, _, rfl, ⟨⟨rfl, rfl, hrow11.lt, .inr ⟨_, _, rfl, C12.own_ge 0 rfl, C12.get 0 rfl, hrow11⟩⟩, c2, by rw [hzA, Nat.gcd_zero_left]⟩, hl2⟩⟩
 ·
  subst hlen8
  have C9 := St.adopt C8 (fun o h => Nat.not_lt.2 hge8 (C3.lt _ _ h)) (Nat.le_trans C3.upd.size hge8) hget8
  have j9 := Le.adopt j8 hge8
  refine zz 1 ?_
  refine zc C9 (clone_c _ X0 (X0_lt _) _ _ _ l2 ((h2.mono (Le2 j3 j9)).mono Le.x0) (by omega)) ?_
  rintro v14 w14 C14 j14 hu14 ⟨ad14, len14, cap14, how14⟩
  rcases how14 with ⟨rfl, hlen14, hlt14, ⟨rfl, rfl, rfl⟩ | ⟨g14, cur14, rfl, hge14, hget14, hrow14⟩⟩
  ·
   have hnil14 : l2 = [] := List.eq_nil_of_length_eq_zero hlen14.symm
   have hzB : val l2 = 0 := by rw [hnil14]; rfl
   refine zz 12 ?_
   refine zb 21 (b := ((l.length : Int) == 0)) (fun hc16 => ?_) (fun hc16 => ?_)
   ·
    have ht17 : (l.length : Int) = 0 := by simpa using hc16
    have hzA : val l = 0 := by rw [List.eq_nil_of_length_eq_zero (by omega : l.length = 0)]; rfl
    refine zz 11 ?_
    refine zr' (v := .tuple #[.slice none 0 0, .int .i64 0]) ?_
    exact ⟨C14.upd, _, rfl, .inr ⟨ht6, _, [], _, _, _, rfl, ⟨⟨rfl, rfl, fun x hx => by simp at hx, .inl ⟨rfl, rfl, rfl⟩⟩, .inl rfl, by rw [hzA, hzB]; rfl⟩, by simp⟩⟩
   have ht18 : (l.length : Int) ≠ 0 := by simpa using hc16
   have hposA : 0 < val l := canon_pos c1 (by rintro rfl; simp at ht18)
   refine zz 22 ?_
   refine zr' (v := .tuple #[.slice (some ⟨g8, 0, none⟩) l.length cap8, .int .i64 0]) ?_
   exact ⟨C14.upd, _, rfl, .inr ⟨ht6, _, l, _, _, _, rfl, ⟨⟨rfl, rfl, hrow8.lt, .inr ⟨_, _, rfl, C14.own_ge 0 rfl, C14.get 0 rfl, hrow8⟩⟩, c1, by rw [hzB, Nat.gcd_zero_right]⟩, hl1⟩⟩
  ·
   subst hlen14
   have C15 := St.adopt C14 (fun o h => Nat.not_lt.2 hge14 (C9.lt _ _ h)) (Nat.le_trans C9.upd.size hge14) hget14
   have j15 := Le.adopt j14 hge14
   refine zz 12 ?_
   refine zb 21 (b := ((l.length : Int) == 0)) (fun hc19 => ?_) (fun hc19 => ?_)
   ·
    have ht20 : (l.length : Int) = 0 := by simpa using hc19
    have hzA : val l = 0 := by rw [List.eq_nil_of_length_eq_zero (by omega : l.length = 0)]; rfl
    refine zz 11 ?_
    refine zr' (v := .tuple #[.slice (some ⟨g14, 0, none⟩) l2.length cap14, .int .i64 0]) ?_
    exact ⟨C15.upd, _, rfl, .inr ⟨ht6, _, l2, _, _, _, rfl, ⟨⟨rfl, rfl, hrow14.lt, .inr ⟨_, _, rfl, C15.own_ge 0 rfl, C15.get 0 rfl, hrow14⟩⟩, c2, by rw [hzA, Nat.gcd_zero_left]⟩, hl2⟩⟩
   have ht21 : (l.length : Int) ≠ 0 := by simpa using hc19
   have hposA : 0 < val l := canon_pos c1 (by rintro rfl; simp at ht21)
   refine zz 11 ?_
   refine zb 25 (b := ((l2.length : Int) == 0)) (fun hc22 => ?_) (fun hc22 => ?_)
   ·
    have ht23 : (l2.length : Int) = 0 := by simpa using hc22
    have hzB : val l2 = 0 := by rw [List.eq_nil_of_length_eq_zero (by omega : l2.length = 0)]; rfl
    refine zz 11 ?_
    refine zr' (v := .tuple #[.slice (some ⟨g8, 0, none⟩) l.length cap8, .int .i64 0]) ?_
    exact ⟨C15.upd, _, rfl, .inr ⟨ht6, _, l, _, _, _, rfl, ⟨⟨rfl, rfl, hrow8.lt, .inr ⟨_, _, rfl, C15.own_ge 1 rfl, C15.get 1 rfl, hrow8⟩⟩, c1, by rw [hzB, Nat.gcd_zero_right]⟩, hl1⟩⟩
   have ht24 : (l2.length : Int) ≠ 0 := by simpa using hc22
   have hposB : 0 < val l2 := canon_pos c2 (by rintro rfl; simp at ht24)
   refine zz 6 ?_
   refine zcE 1 C15 rfl (halve_c _ g8 l.length cap8 _ l (C15.get 1 rfl) hrow8 (by omega) c1 hposA) ?_
   rintro v26 w26 ob26 ⟨k26, cur26, ls26, rfl, hg26, hrow26, hcan26, hval26, hodd26⟩ hob26 C26 j26
   obtain rfl := Option.some.inj (hob26.symm.trans hg26)
   refine zz 10 ?_
   refine zcE 0 C26 rfl (halve_c _ g14 l2.length cap14 _ l2 (C26.get 0 rfl) hrow14 (by omega) c2 hposB) ?_
   rintro v28 w28 ob28 ⟨k28, cur28, ls28, rfl, hg28, hrow28, hcan28, hval28, hodd28⟩ hob28 C28 j28
   obtain rfl := Option.some.inj (hob28.symm.trans hg28)
   refine zz 12 ?_
   refine zlp Tryz.f147 [] [1, 0, 1, 1, 1, 1, 1, 1, 1, 0, 0] (fun ((N, gx, gy, capx, capy, lx, ly) : Nat × Nat × Nat × Nat × Nat × (List Nat) × (List Nat)) => [(0, .slice (some ⟨gx, 0, none⟩) lx.length capx), (1, .slice (some ⟨gy, 0, none⟩) ly.length capy), (7, .int .i64 ((k26 : Nat) : Int)), (8, .int .i64 ((k28 : Nat) : Int))]) (fun ((N, gx, gy, capx, capy, lx, ly) : Nat × Nat × Nat × Nat × Nat × (List Nat) × (List Nat)) w1 => ∃ (Y1 : Hid) (curx : Array Value) (cury : Array Value), St E0 w X w1 Y1 [(gy, .cells cury 56 (0, 0)), (gx, .cells curx 56 (0, 0))] ∧ Le (rd w28 (hide g14 (hide g8 X))) (rd w1 Y1) ∧ (URow lx.length capx curx lx) ∧ (URow ly.length capy cury ly) ∧ (Canon lx) ∧ (Canon ly) ∧ (val lx % 2 = 1) ∧ (val ly % 2 = 1) ∧ (Nat.gcd (val lx) (val ly) = Nat.gcd (val ls26) (val ls28)) ∧ (val lx + val ly = N) ∧ (lx.length ≤ 512) ∧ (ly.length ≤ 512)) (fun ((N, gx, gy, capx, capy, lx, ly) : Nat × Nat × Nat × Nat × Nat × (List Nat) × (List Nat)) => N) ((val ls26 + val ls28), g8, g14, cap8, cap14, ls26, ls28) ?_ ?_
   ·
    refine ⟨_, cur26, cur28, C28, Le.refl _, hrow26, hrow28, hcan26, hcan28, hodd26, hodd28, rfl, rfl, Nat.le_trans (canon_len h.hlt hcan26 (by have := Nat.le_mul_of_pos_right (val ls26) (Nat.two_pow_pos k26); omega)) hl1, Nat.le_trans (canon_len h2.hlt hcan28 (by have := Nat.le_mul_of_pos_right (val ls28) (Nat.two_pow_pos k28); omega)) hl2⟩
   rintro ⟨N, gx, gy, capx, capy, lx, ly⟩ w29 K29 H29 ⟨Y29, curx, cury, C29, j29, hp29_0, hp29_1, hp29_2, hp29_3, hp29_4, hp29_5, hp29_6, hp29_7, hp29_8, hp29_9⟩
   have hrowx := hp29_0
   have hrowy := hp29_1
   have hcanx := hp29_2
   have hcany := hp29_3
   have hoddx := hp29_4
   have hoddy := hp29_5
   have hg0 := hp29_6
   have hN := hp29_7
   have hlx := hp29_8
   have hly := hp29_9
   refine zz 6 ?_
   refine zc C29 (order_c _ X0 (X0_lt _) _ _ _ lx (URow.limbs (Y := X0) hrowx (C29.get 1 rfl) (fun _ h => h.elim)) _ _ _ ly (URow.limbs (Y := X0) hrowy (C29.get 0 rfl) (fun _ h => h.elim)) hcanx hcany (by omega)) ?_ (vs := #[.slice (some ⟨gx, 0, none⟩) lx.length capx, .slice (some ⟨gy, 0, none⟩) ly.length capy])
   rintro v31 w31 C31 j31 hu31 rfl
   refine zz 9 ?_
   refine zb 40 (b := ((cmpI (val lx) (val ly)) == 0)) (fun hc32 => ?_) (fun hc32 => ?_)
   ·
    have ht33 : (cmpI (val lx) (val ly)) = 0 := by simpa using hc32
    have hxy := cmpI_nat_eq ht33
    refine zz 14 ?_
    refine zs 56 (v := .int .i64 (if ((k28 : Nat) : Int) < ((k26 : Nat) : Int) then ((k28 : Nat) : Int) else ((k26 : Nat) : Int))) (v' := .int .i64 ((min k26 k28 : Nat) : Int)) (vint (by split <;> omega)) ?_
    refine zz 4 ?_
    have hgab := gcd_pow2 hodd26 hodd28 hval26 hval28
    rw [← hg0, ← hxy, Nat.gcd_self] at hgab
    have hgle : Nat.gcd (val l) (val l2) ≤ val l := Nat.gcd_le_left _ hposA
    refine zlp Tryz.f147 [K29] [1, 0, 1, 1, 1, 1, 1, 1, 1, 1, 0, 1, 0] (fun ((i, gd, capd, ld) : Nat × Nat × Nat × (List Nat)) => [(0, .slice (some ⟨gd, 0, none⟩) ld.length capd), (56, .int .i64 ((min k26 k28 : Nat) : Int)), (57, .int .i64 (i : Int))]) (fun ((i, gd, capd, ld) : Nat × Nat × Nat × (List Nat)) w1 => ∃ (Y1 : Hid) (curd : Array Value), St E0 w X w1 Y1 [(gd, .cells curd 56 (0, 0))] ∧ Le (rd w31 Y29) (rd w1 Y1) ∧ (URow ld.length capd curd ld) ∧ (Canon ld) ∧ (val ld = val lx * 2 ^ i) ∧ (i ≤ min k26 k28)) (fun ((i, gd, capd, ld) : Nat × Nat × Nat × (List Nat)) => min k26 k28 - i) (0, gx, capx, lx) ?_ ?_
    ·
     refine ⟨_, curx, C31.tail, Le.refl _, hrowx, hcanx, by simp, Nat.zero_le _⟩
    rintro ⟨i, gd, capd, ld⟩ w34 K34 H34 ⟨Y34, curd, C34, j34, hp34_0, hp34_1, hp34_2, hp34_3⟩
    have hrowd := hp34_0
    have hcand := hp34_1
    have hvald := hp34_2
    have hik := hp34_3
    have hb1 : val lx * 2 ^ i ≤ val lx * 2 ^ (min k26 k28) := Nat.mul_le_mul_left _ (Nat.pow_le_pow_right (by omega) hik)
    have hb2 := canon_len h.hlt hcand (by omega : val ld ≤ val l)
    have hb3 : 0 < ld.length := by rcases Nat.eq_zero_or_pos ld.length with e | e; rw [List.eq_nil_of_length_eq_zero e] at hvald; have := Nat.mul_pos (by omega : 0 < val lx) (Nat.two_pow_pos i); simp only [val] at hvald; omega; exact e
    obtain ⟨_, hkb⟩ := two_pow_lt hval26 (by omega) (val_lt h.hlt)
    refine zz 6 ?_
    refine zt 58 (p := (i : Int) < ((min k26 k28 : Nat) : Int)) (fun ht35 => ?_) (fun ht35 => ?_)
    ·
     refine zz 7 ?_
     refine zop (at1 [K29, K34] Tryz.f147 [1, 0, 1, 1, 1, 1, 1, 1, 1, 1, 0, 1, 0, 0, 1, 1, 0, 0]) 1 (fun a36 _ G36 hz36 => op_callGZ 0 G36 C34 rfl (double_c _ gd ld.length capd _ ld (C34.get 0 rfl) hrowd (by omega) hcand 0 (by omega)) ?_)
     rintro v37 w37 Y37 g37 o37 ⟨cur37, cap37, ls37, rfl, rfl, hrow37, hlen37, hcan37, hval37⟩ C37 j37 a38 G38
     refine hz36 G38 ?_
     refine zz 6 ?_
     refine zw 61 (x := (i : Int) + 1) ?_
     refine zz 2 ?_
     refine znext (fun a h => H34 ((i + 1, g37, cap37, ls37)) _ a h ⟨_, cur37, C37, (Le2 j34 j37), hrow37, hcan37, by rw [hval37, hvald, Nat.pow_succ]; simp only [Nat.add_zero]; ac_rfl, by omega⟩ ?_)
     first | omega | (simp <;> omega)
    refine zz 15 ?_
    refine zr' (v := .tuple #[.slice (some ⟨gd, 0, none⟩) ld.length capd, .int .i64 0]) ?_
    exact ⟨C34.upd, _, rfl, .inr ⟨ht6, _, ld, _, _, _, rfl, ⟨⟨rfl, rfl, hrowd.lt, .inr ⟨_, _, rfl, C34.own_ge 0 rfl, C34.get 0 rfl, hrowd⟩⟩, hcand, by rw [hvald, ← hgab]; congr 2; omega⟩, by omega⟩⟩
   have ht39 : (cmpI (val lx) (val ly)) ≠ 0 := by simpa using hc32
   refine zz 7 ?_
   refine zb 42 (b := ((cmpI (val lx) (val ly)) == (-1))) (fun hc40 => ?_) (fun hc40 => ?_)
   ·
    have ht41 : (cmpI (val lx) (val ly)) = (-1) := by simpa using hc40
    have hcmp := cmpI_m1 ht41
    refine zz 13 ?_
    refine zcE 0 C31 rfl (subtract_c _ gy ly.length capy _ ly (C31.get 0 rfl) hrowy (by omega) _ _ _ lx (URow.limbs (Y := HG gy) hrowx (C31.get 1 rfl) (fun o h => C31.ne (i := 1) (j := 0) rfl rfl (by decide) h)) (canon_len hrowy.lt hcanx (by omega)) (by omega)) ?_ (vs := #[.slice (some ⟨gy, 0, none⟩) ly.length capy, .slice (some ⟨gx, 0, none⟩) lx.length capx])
    rintro v43 w43 ob43 ⟨cur43, ls43, rfl, hg43, hrow43, hcan43, hval43⟩ hob43 C43 j43
    obtain rfl := Option.some.inj (hob43.symm.trans hg43)
    refine zz 5 ?_
    have hz0 := canon_len hrowy.lt hcan43 (by omega : val ls43 ≤ val ly)
    refine zcE 0 C43 rfl (halve_c _ gy ls43.length capy _ ls43 (C43.get 0 rfl) hrow43 (by omega) hcan43 (by omega)) ?_
    rintro v45 w45 ob45 ⟨k45, cur45, ls45, rfl, hg45, hrow45, hcan45, hval45, hodd45⟩ hob45 C45 j45
    obtain rfl := Option.some.inj (hob45.symm.trans hg45)
    refine zz 6 ?_
    have hz1 : val ls45 * 2 ^ k45 = val ly - val lx := hval45.trans hval43
    have hz2 : val ls45 ≤ val ls45 * 2 ^ k45 := Nat.le_mul_of_pos_right _ (Nat.two_pow_pos _)
    have hz3 := gcd_step hoddx (by omega) hz1
    have hz4 := canon_len hrowy.lt hcan45 (by omega : val ls45 ≤ val ly)
    have hc1_ := (Le3 j29 j31 j43).trans j45
    refine znext (fun a h => H29 (((val ls45 + val lx), gy, gx, capy, capx, ls45, lx)) _ a h ⟨_, cur45, curx, C45.swap, hc1_, hrow45, hrowx, hcan45, hcanx, hodd45, hoddx, by rw [hz3]; rw [Nat.gcd_comm]; exact hg0, rfl, by omega, by omega⟩ ?_)
    first | omega | (simp <;> omega)
   have ht46 : (cmpI (val lx) (val ly)) ≠ (-1) := by simpa using hc40
   have hcmp := cmpI_n ht39 ht46
   refine zz 8 ?_
   refine zcE 1 C31 rfl (subtract_c _ gx lx.length capx _ lx (C31.get 1 rfl) hrowx (by omega) _ _ _ ly (URow.limbs (Y := HG gx) hrowy (C31.get 0 rfl) (fun o h => C31.ne (i := 0) (j := 1) rfl rfl (by decide) h)) (canon_len hrowx.lt hcany (by omega)) (by omega)) ?_ (vs := #[.slice (some ⟨gx, 0, none⟩) lx.length capx, .slice (some ⟨gy, 0, none⟩) ly.length capy])
   rintro v48 w48 ob48 ⟨cur48, ls48, rfl, hg48, hrow48, hcan48, hval48⟩ hob48 C48 j48
   obtain rfl := Option.some.inj (hob48.symm.trans hg48)
   refine zz 5 ?_
   have hz0 := canon_len hrowx.lt hcan48 (by omega : val ls48 ≤ val lx)
   refine zcE 1 C48 rfl (halve_c _ gx ls48.length capx _ ls48 (C48.get 1 rfl) hrow48 (by omega) hcan48 (by omega)) ?_
   rintro v50 w50 ob50 ⟨k50, cur50, ls50, rfl, hg50, hrow50, hcan50, hval50, hodd50⟩ hob50 C50 j50
   obtain rfl := Option.some.inj (hob50.symm.trans hg50)
   refine zz 6 ?_
   have hz1 : val ls50 * 2 ^ k50 = val lx - val ly := hval50.trans hval48
   have hz2 : val ls50 ≤ val ls50 * 2 ^ k50 := Nat.le_mul_of_pos_right _ (Nat.two_pow_pos _)
   have hz3 := gcd_step hoddy (by omega) hz1
   have hz4 := canon_len hrowx.lt hcan50 (by omega : val ls50 ≤ val lx)
   have hc2_ := (Le3 j29 j31 j48).trans j50
   refine znext (fun a h => H29 (((val ls50 + val ly), gx, gy, capx, capy, ls50, ly)) _ a h ⟨_, cur50, cury, C50, hc2_, hrow50, hrowy, hcan50, hcany, hodd50, hoddy, by rw [hz3]; exact hg0, rfl, by omega, by omega⟩ ?_)
   first | omega | (simp <;> omega)
end Go.Proofs.YtppalofalmieaaaGreat
namespace Go.Proofs.YtppalofalmieaaaGreat
open Go Go.Gv Go.RowKit
set_option maxRecDepth 100000
set_option maxHeartbeats 1000000
def len8 : ByteArray := ⟨#[0, 1, 2, 2, 3, 3, 3, 3, 4, 4, 4, 4, 4, 4, 4, 4, 5, 5, 5, 5, 5, 5, 5, 5, 5, 5, 5, 5, 5, 5, 5, 5, 6, 6, 6, 6, 6, 6, 6, 6, 6, 6, 6, 6, 6, 6, 6, 6, 6, 6, 6, 6, 6, 6, 6, 6, 6, 6, 6, 6, 6, 6, 6, 6, 7, 7, 7, 7, 7, 7, 7, 7, 7, 7, 7, 7, 7, 7, 7, 7, 7, 7, 7, 7, 7, 7, 7, 7, 7, 7, 7, 7, 7, 7, 7, 7, 7, 7, 7, 7, 7, 7, 7, 7, 7, 7, 7, 7, 7, 7, 7, 7, 7, 7, 7, 7, 7, 7, 7, 7, 7, 7, 7, 7, 7, 7, 7, 7, 8, 8, 8, 8, 8, 8, 8, 8, 8, 8, 8, 8, 8, 8, 8, 8, 8, 8, 8, 8, 8, 8, 8, 8, 8, 8, 8, 8, 8, 8, 8, 8, 8, 8, 8, 8, 8, 8, 8, 8, 8, 8, 8, 8, 8, 8, 8, 8, 8, 8, 8, 8, 8, 8, 8, 8, 8, 8, 8, 8, 8, 8, 8, 8, 8, 8, 8, 8, 8, 8, 8, 8, 8, 8, 8, 8, 8, 8, 8, 8, 8, 8, 8, 8, 8, 8, 8, 8, 8, 8, 8, 8, 8, 8, 8, 8, 8, 8, 8, 8, 8, 8, 8, 8, 8, 8, 8, 8, 8, 8, 8, 8, 8, 8, 8, 8, 8, 8, 8, 8, 8, 8, 8, 8, 8, 8, 8, 8]⟩
theorem len8_data : ∀ n, n < 256 → (len8.data[n]?.isSome = true) ∧ n < 2 ^ (len8.data[n]?.getD 0).toNat ∧ (len8.data[n]?.getD 0).toNat ≤ 8 := by decide +kernel
theorem len8_ok (n : Nat) (h : n < 256) : ∃ b : UInt8, len8[n]? = some b ∧ n < 2 ^ b.toNat ∧ b.toNat ≤ 8 := by
  obtain ⟨h1, h2, h3⟩ := len8_data n h
  obtain ⟨b, hb⟩ := Option.isSome_iff_exists.1 h1
  rw [hb] at h2 h3
  refine ⟨b, ?_, h2, h3⟩
  obtain ⟨h4, h5⟩ := Array.getElem?_eq_some_iff.1 hb
  have h6 : n < len8.size := h4
  rw [getElem?_pos len8 n h6]
  exact congrArg some h5
theorem len32_c (w : World) (X : Hid) (hX : ∀ k o, X k o → k < w.heap.size) (x : Nat) (hx : x < 4294967296) : Calls Tryz.prog 183 #[.int .u32 (x : Int)] w (Ret E0 w fun _ v => ∃ r : Nat, v = .int .i64 (r : Int) ∧ x < 2 ^ r ∧ r ≤ 32) := by
 refine zen Tryz.func183 ?_
 have C0 : St E0 w X w X [] := St.start hX
 refine zz 12 ?_
 refine zt 4 (p := (x : Int) ≥ 65536) (fun ht2 => ?_) (fun ht2 => ?_)
 ·
  refine zz 5 ?_
  refine zs 6 (v := .int .u32 (Int.fdiv ((x : Int)) (2 ^ 16))) (v' := .int .u32 ((x / 65536 : Nat) : Int)) (vint (by rw [fdiv_pow _ 16 (c := 65536) (by decide) (by decide)]; omega)) ?_
  refine zz 14 ?_
  refine zt 8 (p := ((x / 65536 : Nat) : Int) ≥ 256) (fun ht3 => ?_) (fun ht3 => ?_)
  ·
   refine zz 5 ?_
   refine zs 10 (v := .int .u32 (Int.fdiv (((x / 65536 : Nat) : Int)) (2 ^ 8))) (v' := .int .u32 ((x / 65536 / 256 : Nat) : Int)) (vint (by rw [fdiv_pow _ 8 (c := 256) (by decide) (by decide)]; omega)) ?_
   refine zz 14 ?_
   refine zs 15 (v := .int .u8 (IntKind.u8.wrap (((x / 65536 / 256 : Nat) : Int)))) (v' := .int .u8 ((x / 65536 / 256 : Nat) : Int)) (vint (wu8 (by omega) (by omega))) ?_
   obtain ⟨b8, hb8, hb2, hb3⟩ := len8_ok (x / 65536 / 256) (by omega)
   refine zop (at1 [] Tryz.f183 [1, 1, 1, 0]) 3 (fun a4 _ G4 hz4 => zF (d := 16) (v := .int .u8 ((b8.toNat : Nat) : Int)) G4 kr (run_strAt (s := len8) (i := (x / 65536 / 256)) rfl kr rfl rfl hb8) ?_)
   intro a5 G5
   refine hz4 G5 ?_
   refine zz 1 ?_
   refine zw 17 (x := ((b8.toNat : Nat) : Int)) ?_
   refine zz 1 ?_
   refine zw 18 (x := (24 : Int) + ((b8.toNat : Nat) : Int)) ?_
   refine zz 4 ?_
   refine zr' (v := .int .i64 ((24 : Int) + ((b8.toNat : Nat) : Int))) ?_
   refine ⟨C0.upd, _, rfl, 24 + b8.toNat, vint (by omega), ?_, by omega⟩
   rw [Nat.pow_add]; generalize 2 ^ b8.toNat = t at *; omega
  refine zz 8 ?_
  refine zs 15 (v := .int .u8 (IntKind.u8.wrap (((x / 65536 : Nat) : Int)))) (v' := .int .u8 ((x / 65536 : Nat) : Int)) (vint (wu8 (by omega) (by omega))) ?_
  obtain ⟨b8, hb8, hb2, hb3⟩ := len8_ok (x / 65536) (by omega)
  refine zop (at1 [] Tryz.f183 [1, 1, 1, 0]) 3 (fun a6 _ G6 hz6 => zF (d := 16) (v := .int .u8 ((b8.toNat : Nat) : Int)) G6 kr (run_strAt (s := len8) (i := (x / 65536)) rfl kr rfl rfl hb8) ?_)
  intro a7 G7
  refine hz6 G7 ?_
  refine zz 1 ?_
  refine zw 17 (x := ((b8.toNat : Nat) : Int)) ?_
  refine zz 1 ?_
  refine zw 18 (x := (16 : Int) + ((b8.toNat : Nat) : Int)) ?_
  refine zz 4 ?_
  refine zr' (v := .int .i64 ((16 : Int) + ((b8.toNat : Nat) : Int))) ?_
  refine ⟨C0.upd, _, rfl, 16 + b8.toNat, vint (by omega), ?_, by omega⟩
  rw [Nat.pow_add]; generalize 2 ^ b8.toNat = t at *; omega
 refine zz 10 ?_
 refine zt 8 (p := (x : Int) ≥ 256) (fun ht8 => ?_) (fun ht8 => ?_)
 ·
  refine zz 5 ?_
  refine zs 10 (v := .int .u32 (Int.fdiv ((x : Int)) (2 ^ 8))) (v' := .int .u32 ((x / 256 : Nat) : Int)) (vint (by rw [fdiv_pow _ 8 (c := 256) (by decide) (by decide)]; omega)) ?_
  refine zz 14 ?_
  refine zs 15 (v := .int .u8 (IntKind.u8.wrap (((x / 256 : Nat) : Int)))) (v' := .int .u8 ((x / 256 : Nat) : Int)) (vint (wu8 (by omega) (by omega))) ?_
  obtain ⟨b8, hb8, hb2, hb3⟩ := len8_ok (x / 256) (by omega)
  refine zop (at1 [] Tryz.f183 [1, 1, 1, 0]) 3 (fun a9 _ G9 hz9 => zF (d := 16) (v := .int .u8 ((b8.toNat : Nat) : Int)) G9 kr (run_strAt (s := len8) (i := (x / 256)) rfl kr rfl rfl hb8) ?_)
  intro a10 G10
  refine hz9 G10 ?_
  refine zz 1 ?_
  refine zw 17 (x := ((b8.toNat : Nat) : Int)) ?_
  refine zz 1 ?_
  refine zw 18 (x := (8 : Int) + ((b8.toNat : Nat) : Int)) ?_
  refine zz 4 ?_
  refine zr' (v := .int .i64 ((8 : Int) + ((b8.toNat : Nat) : Int))) ?_
  refine ⟨C0.upd, _, rfl, 8 + b8.toNat, vint (by omega), ?_, by omega⟩
  rw [Nat.pow_add]; generalize 2 ^ b8.toNat = t at *; omega
 refine zz 8 ?_
 refine zs 15 (v := .int .u8 (IntKind.u8.wrap ((x : Int)))) (v' := .int .u8 ((x : Nat) : Int)) (vint (wu8 (by omega) (by omega))) ?_
 obtain ⟨b8, hb8, hb2, hb3⟩ := len8_ok (x) (by omega)
 refine zop (at1 [] Tryz.f183 [1, 1, 1, 0]) 3 (fun a11 _ G11 hz11 => zF (d := 16) (v := .int .u8 ((b8.toNat : Nat) : Int)) G11 kr (run_strAt (s := len8) (i := x) rfl kr rfl rfl hb8) ?_)
 intro a12 G12
 refine hz11 G12 ?_
 refine zz 1 ?_
 refine zw 17 (x := ((b8.toNat : Nat) : Int)) ?_
 refine zz 1 ?_
 refine zw 18 (x := (0 : Int) + ((b8.toNat : Nat) : Int)) ?_
 refine zz 4 ?_
 refine zr' (v := .int .i64 ((0 : Int) + ((b8.toNat : Nat) : Int))) ?_
 refine ⟨C0.upd, _, rfl, 0 + b8.toNat, vint (by omega), ?_, by omega⟩
 rw [Nat.pow_add]; generalize 2 ^ b8.toNat = t at *; omega
theorem length_c (w : World) (X : Hid) (hX : ∀ k o, X k o → k < w.heap.size) (ad : Option Addr) (len cap : Nat) (l : List Nat) (h : Limbs (rd w X) ad len cap l) (hm : len ≤ 1099511627776) : Calls Tryz.prog 201 #[.slice ad len cap] w (Ret E0 w fun _ v => ∃ m : Nat, v = .int .i64 (m : Int) ∧ val l < 2 ^ m ∧ m ≤ 32 * l.length) := by
 obtain rfl := h.hlen
 have hcap := h.hcap
 have hbig := h.hbig
 refine zen Tryz.func201 ?_
 have C0 : St E0 w X w X [] := St.start hX
 refine zz 13 ?_
 refine zb 5 (b := ((l.length : Int) == 0)) (fun hc2 => ?_) (fun hc2 => ?_)
 ·
  have ht3 : (l.length : Int) = 0 := by simpa using hc2
  have hnil : l = [] := List.eq_nil_of_length_eq_zero (by omega)
  refine zz 8 ?_
  refine zr' (v := .int .i64 0) ?_
  exact ⟨C0.upd, _, rfl, 0, rfl, by rw [hnil]; simp [val], by omega⟩
 have ht4 : (l.length : Int) ≠ 0 := by simpa using hc2
 obtain ⟨bk5, of6, rfl, _⟩ := h.addr (by omega)
 have htop := h.getD_lt (l.length - 1)
 refine zz 8 ?_
 refine zw 8 (x := (l.length : Int) - 1) ?_
 refine zz 1 ?_
 refine zw 9 (x := (32 : Int) * ((l.length : Int) - 1)) ?_
 refine zz 4 ?_
 refine zw 13 (x := (l.length : Int) - 1) ?_
 refine zi (b := bk5) (off := of6) (len := l.length) (cap := cap) (kd := .i64) (i := (l.length : Int) - 1) 1 (of6 + (l.length - 1)) ?_ (hoff := (by first | omega | (simp; done) | (simp; omega)))
 refine zl ((h.cell (i := (l.length - 1)) (by omega)).mono (Le.refl _)).cells ?_
 refine zc C0 (len32_c _ _ C0.lt (l.getD (l.length - 1) 0) (by omega)) ?_
 rintro v8 w8 C8 j8 hu8 ⟨r8, rfl, hr8, hs8⟩
 refine zz 1 ?_
 refine zw 17 (x := ((32 : Int) * ((l.length : Int) - 1)) + (r8 : Int)) ?_
 refine zz 4 ?_
 refine zr' (v := .int .i64 (((32 : Int) * ((l.length : Int) - 1)) + (r8 : Int))) ?_
 exact ⟨C8.upd, _, rfl, 32 * (l.length - 1) + r8, vint (by omega), len_top l h.hlt _ (by omega) hr8, by omega⟩
theorem digits_c (w : World) (X : Hid) (hX : ∀ k o, X k o → k < w.heap.size) (ad : Option Addr) (len cap : Nat) : Calls Tryz.prog 189 #[.slice ad len cap] w (Ret E0 w fun w' v => ∃ bx, v = .func (.func 200) #[] #[.pointer (some ⟨bx, 0, none⟩)] ∧ w.heap.size ≤ bx ∧ w'.heap[bx]? = some (.cells #[.slice ad len cap] 26 (0, 0))) := by
 refine zen Tryz.func189 ?_
 have C0 : St E0 w X w X [] := St.start hX
 refine zz 2 ?_
 refine zn pn (.cells #[.slice ad len cap] 26 (0, 0)) C0 ?_
 intro b3 w3 Y3 C3 j3 hu3
 refine zz 10 ?_
 refine zr' (v := .func (.func 200) #[] #[.pointer (some ⟨b3, 0, none⟩)]) ?_
 exact ⟨C3.upd, _, rfl, _, rfl, C3.own_ge 0 rfl, C3.get 0 rfl⟩
theorem digits1_c (l bx : Nat) (ad : Option Addr) (len cap : Nat) (xs : List Nat) (hbig : len ≤ 1099511627776) (J : Nat → World → Prop) (R : World → Prop) (w : World) (hlimbs : Limbs (rd w X0) ad len cap xs)
    (hread : ∀ k w, J k w → At (rd w X0) ⟨bx, 0, none⟩ [.slice ad len cap])
    (hel : ∀ k w, J (k + 1) w → k / 32 < len → ∃ b off, ad = some ⟨b, off, none⟩ ∧ At (rd w X0) ⟨b, off + k / 32, none⟩ [.int .u32 ((xs.getD (k / 32) 0 : Nat) : Int)])
    (hY : ∀ k w, k < 32 * len → J (k + 1) w → YieldAt (FF none) 0 Tryz.prog l #[.int .i64 (k : Int), .int .u32 ((val xs / 2 ^ k % 2 : Nat) : Int)] w (Rounds (J k) R))
    (h0 : ∀ w, J 0 w → R w) (hbx : At (rd w X0) ⟨bx, 0, none⟩ [.slice ad len cap]) (hJ : ∀ m w', Upd E0 w w' → val xs < 2 ^ m → m ≤ 32 * xs.length → J m w') : Calls Tryz.prog 200 #[.func (.yield l) #[] #[], .pointer (some ⟨bx, 0, none⟩)] w (fun e w' => (∃ v, e = .returned v) ∧ R w') := by
 obtain rfl := hlimbs.hlen
 refine i_enter (n := 24) (vs := [.func (.yield l) #[] #[], .pointer (some ⟨bx, 0, none⟩)]) Tryz.func200 rfl rfl rfl kr (fun a0 G0 => ?_)
 have G0 : Fr 24 a0 [(0, .func (.yield l) #[] #[]), (1, .pointer (some ⟨bx, 0, none⟩))] := G0
 have C0 : St E0 w X0 w X0 [] := St.start (X0_lt _)
 refine zG (fun K1 H1 => ?_)
 refine zC ?_
 refine wplI G0 kr (zF (d := 4) (v := .slice ad xs.length cap) G0 kr (zB (t := 26) (g := false) (vs := [.slice ad xs.length cap]) (ad := ⟨bx, 0, none⟩) rfl kr kr ir (hbx).cells) ?_)
 intro a2 G2
 refine wplI G2 kr (op_call (d := 5) (f := 201) (cap := #[]) (vs := #[.slice ad xs.length cap]) G2 kr C0 rfl kr kr (fun w => Tryz.call201 _ w) (length_c _ X0 (X0_lt _) _ _ _ xs hlimbs (by omega)) ?_)
 rintro v3 w3 C3 j3 hu3 ⟨m, rfl, hm1, hm2⟩ a4 G4
 refine zD 1 [(6, .int .i64 (IntKind.i64.wrap ((m : Int) - 1)))] G4 kr kr (fun a5 G5 => ?_)
 have G6 := G5.set 6 (v' := .int .i64 ((m : Int) - 1)) kr rfl (vint (wi64 (by omega) (by omega)))
 refine zD 1 [(3, .int .i64 ((m : Int) - 1))] G6 kr kr (fun a7 G7 => ?_)
 refine zH ?_
 refine zA (H1 _ _ ?_)
 refine i_block ?_
 refine i_loop (fun (k : Nat) a w1 => Fr 24 a [(0, .func (.yield l) #[] #[]), (1, .pointer (some ⟨bx, 0, none⟩)), (3, .int .i64 ((k : Int) - 1))] ∧ J k w1 ∧ k ≤ 32 * xs.length) (fun k => k) m ?_ ?_
 ·
  exact ⟨G7.as [0, 1, 3] kr kr, hJ m _ hu3 hm1 hm2, hm2⟩
 rintro k a8 w8 ⟨G8, hJ8, hk⟩
 have C8 : St E0 w8 X0 w8 X0 [] := St.start (X0_lt _)
 refine zG (fun K9 H9 => ?_)
 refine zG (fun K10 H10 => ?_)
 refine zC ?_
 refine zD 2 [(8, .bool (decide (((k : Int) - 1) ≥ 0))), (7, .int .i64 ((k : Int) - 1))] G8 kr kr (fun a11 G11 => ?_)
 refine zH ?_
 refine zA (H10 _ _ ?_)
 refine i_cond (decide (((k : Int) - 1) ≥ 0)) G11 kr kr (fun hc12 => ?_) (fun hc12 => ?_)
 ·
  have G13 := G11.set 8 (v' := .bool true) kr rfl (zJ hc12)
  have ht14 : ((k : Int) - 1) ≥ 0 := of_decide_eq_true hc12
  obtain ⟨j, rfl⟩ : ∃ j, k = j + 1 := ⟨k - 1, by omega⟩
  have G15 := G13.set 3 (v := .int .i64 (((j + 1 : Nat) : Int) - 1)) (v' := .int .i64 (j : Int)) kr kr (vint (by omega))
  obtain ⟨b, off, rfl, hel1⟩ := hel j _ hJ8 (by omega)
  have hltj : xs.getD (j / 32) 0 < 4294967296 := hlimbs.getD_lt _
  refine i_skip ?_
  refine zA (H9 _ _ ?_)
  refine zG (fun K16 H16 => ?_)
  refine i_block ?_
  refine zG (fun K17 H17 => ?_)
  refine zC ?_
  refine zD 2 [(12, .int .i64 (j : Int)), (11, .func (.yield l) #[] #[])] G15 kr kr (fun a18 G18 => ?_)
  refine wplI G18 kr (zF (d := 13) (v := .slice (some ⟨b, off, none⟩) xs.length cap) G18 kr (zB (t := 26) (g := false) (vs := [.slice (some ⟨b, off, none⟩) xs.length cap]) (ad := ⟨bx, 0, none⟩) rfl kr kr ir ((hread _ _ hJ8)).cells) ?_)
  intro a19 G19
  refine zD 2 [(15, .int .i64 (IntKind.i64.wrap (Int.tdiv ((j : Int)) (32)))), (14, .int .i64 (j : Int))] G19 kr kr (fun a20 G20 => ?_)
  have G21 := G20.set 15 (v' := .int .i64 ((j / 32 : Nat) : Int)) kr rfl (vint (tdiv32 _ (by omega)))
  refine wplI G21 kr (zF (d := 16) (v := .pointer (some ⟨b, off + j / 32, none⟩)) G21 kr (run_indexOp (t := 26) (e := 56) (b := b) (off := off) (len := xs.length) (cap := cap) (kd := .i64) (i := ((j / 32 : Nat) : Int)) (g := false) (m := 1) (off' := off + j / 32) rfl kr kr kr kr (by omega) (by omega) (by first | rfl | omega | (simp; done) | (simp; omega)) _) ?_)
  intro a22 G22
  refine wplI G22 kr (zF (d := 17) (v := .int .u32 ((xs.getD (j / 32) 0 : Nat) : Int)) G22 kr (zB (t := 56) (g := false) (vs := [.int .u32 ((xs.getD (j / 32) 0 : Nat) : Int)]) (ad := ⟨b, off + j / 32, none⟩) rfl kr kr ir (hel1).cells) ?_)
  intro a23 G23
  refine zD 2 [(19, .int .i64 (Int.tmod ((j : Int)) (32))), (18, .int .i64 (j : Int))] G23 kr kr (fun a24 G24 => ?_)
  have G25 := G24.set 19 (v' := .int .i64 ((j % 32 : Nat) : Int)) kr rfl (vint (tmod32 _))
  refine wplI G25 kr (zF (d := 20) (v := .int .u32 ((xs.getD (j / 32) 0 / 2 ^ (j % 32) : Nat) : Int)) G25 kr (run_shrU rfl rfl rfl (by omega)) ?_)
  intro a26 G26
  refine zD 1 [(21, .int .u32 (band32 ((xs.getD (j / 32) 0 / 2 ^ (j % 32) : Nat) : Int) 1))] G26 kr kr (fun a27 G27 => ?_)
  have G28 := G27.set 21 (v' := .int .u32 ((val xs / 2 ^ j % 2 : Nat) : Int)) kr rfl (vint ((band_one _ (Nat.lt_of_le_of_lt (Nat.div_le_self _ _) hltj)).trans (by rw [digit_limb xs hlimbs.hlt j (by omega)])))
  refine wpl_yield (d := 22) (l := l) (vs := #[.int .i64 (j : Int), .int .u32 ((val xs / 2 ^ j % 2 : Nat) : Int)]) G28 kr rfl kr kr (hY j _ (by omega) hJ8) (fun _ _ h => h.ret) ?_
  rintro v29 w29 ⟨bb29, hv29, hJ29, hR29⟩ a30 G30
  cases hv29
  have C29 : St E0 w29 X0 w29 X0 [] := St.start (X0_lt _)
  refine zD 1 [(23, .bool (!bb29))] G30 kr kr (fun a31 G31 => ?_)
  refine zH ?_
  refine zA (H17 _ _ ?_)
  refine i_cond (!bb29) G31 kr kr (fun hc32 => ?_) (fun hc32 => ?_)
  ·
   have G33 := G31.set 23 (v' := .bool true) kr rfl (zJ hc32)
   have ht34 : bb29 = false := by simpa using hc32
   have hbb := ht34
   refine i_ret ?_
   refine blk_ret ?_
   refine then_ret ?_
   refine then_ret ?_
   refine blk_ret ?_
   refine c_ret (v := .tuple #[]) (rs := []) G33 kr Res.nil kr ?_
   exact ⟨⟨_, rfl⟩, (hR29 hbb)⟩
  have G35 := G31.set 23 (v' := .bool false) kr rfl (zJ hc32)
  have ht36 : bb29 = true := by simpa using hc32
  have hbb := ht36
  refine i_skip ?_
  refine blk_norm ?_
  refine zA (H16 _ _ ?_)
  refine zC ?_
  refine zD 2 [(10, .int .i64 (IntKind.i64.wrap ((j : Int) - 1))), (9, .int .i64 (j : Int))] G35 kr kr (fun a37 G37 => ?_)
  have G38 := G37.set 10 (v' := .int .i64 ((j : Int) - 1)) kr rfl (vint (wi64 (by omega) (by omega)))
  refine zD 1 [(3, .int .i64 ((j : Int) - 1))] G38 kr kr (fun a39 G39 => ?_)
  refine zH ?_
  refine zA ?_
  exact ⟨j, ⟨G39.as [0, 1, 3] kr kr, hJ29 hbb, by omega⟩, by show j < j + 1; omega⟩
 have G40 := G11.set 8 (v' := .bool false) kr rfl (zJ hc12)
 have ht41 : ¬ (((k : Int) - 1) ≥ 0) := of_decide_eq_false hc12
 have hk0 : k = 0 := by omega
 refine i_exit ?_
 refine then_exit ?_
 refine then_exit ?_
 refine blk_here ?_
 refine c_end (v := .tuple #[]) (rs := []) G40 kr Res.nil kr ?_
 exact ⟨⟨_, rfl⟩, (h0 _ (hk0 ▸ hJ8))⟩
end Go.Proofs.YtppalofalmieaaaGreat
namespace Go.Proofs.YtppalofalmieaaaGreat
open Go Go.Gv Go.RowKit
set_option maxRecDepth 100000
set_option maxHeartbeats 1000000
theorem cmpI_ge {x y : Nat} (h : cmpI (x : Int) (y : Int) ≥ 0) : y ≤ x := cmpI_ge0 (by omega)
theorem cmpI_nge {x y : Nat} (h : ¬ cmpI (x : Int) (y : Int) ≥ 0) : x < y := cmpI_lt0 (by omega)
theorem divide_c (w : World) (X : Hid) (hX : ∀ k o, X k o → k < w.heap.size) (ad : Option Addr) (len cap : Nat) (l : List Nat) (h : Limbs (rd w X) ad len cap l) (ad2 : Option Addr) (len2 cap2 : Nat) (l2 : List Nat) (h2 : Limbs (rd w X) ad2 len2 cap2 l2) (hc1 : Canon l) (hc2 : Canon l2) (hl1 : len ≤ 512) (hl2 : len2 ≤ 512) (hd : 0 < val l2) : Calls Tryz.prog 171 #[.slice ad len cap, .slice ad2 len2 cap2] w (Ret E0 w fun w' v => ∃ u u2 lq lr ad len cap ad2 len2 cap2, v = .tuple #[u, u2] ∧ OwnN 56 w w' u lq ad len cap (val l / val l2) ∧ OwnN 56 w w' u2 lr ad2 len2 cap2 (val l % val l2)) := by
 obtain rfl := h.hlen
 obtain rfl := h2.hlen
 have hcap := h.hcap
 have hbig := h.hbig
 have hcap2 := h2.hcap
 have hbig2 := h2.hbig
 refine m_enter (n := 38) (vs := [.slice ad l.length cap, .slice ad2 l2.length cap2]) Tryz.func171 rfl rfl rfl kr (fun a0 G0 => ?_)
 have G0 : Fr 38 a0 [(0, .slice ad l.length cap), (1, .slice ad2 l2.length cap2)] := G0
 have C0 : St E0 w X w X [] := St.start hX
 refine zG (fun K1 H1 => ?_)
 refine zC ?_
 refine wplI G0 kr (op_new (d := 3) (fun b => .pointer (some ⟨b, 0, none⟩)) (.cells #[.slice ad2 l2.length cap2] 26 (0, 0)) G0 kr C0 kw ?_)
 intro b2 w2 Y2 C2 j2 hu2 a3 G3
 refine wplI G3 kr (op_new (d := 4) (fun b => .pointer (some ⟨b, 0, none⟩)) (.cells #[.slice none 0 0] 26 (0, 0)) G3 kr C2 kw ?_)
 intro b4 w4 Y4 C4 j4 hu4 a5 G5
 refine wplI G5 kr (op_new (d := 5) (fun b => .pointer (some ⟨b, 0, none⟩)) (.cells #[.slice none 0 0] 26 (0, 0)) G5 kr C4 kw ?_)
 intro b6 w6 Y6 C6 j6 hu6 a7 G7
 refine zH ?_
 refine zA (H1 _ _ ?_)
 refine zG (fun K8 H8 => ?_)
 refine zC ?_
 refine zD 2 [(9, .int .i64 (l.length : Int)), (8, .slice ad l.length cap)] G7 kr kr (fun a9 G9 => ?_)
 refine wplI G9 kr (op_make (d := 10) (t := 26) (e := 56) (m := l.length) (l := (l.length : Int)) (z := .int .u32 0) (i0 := Tryz.t56) G9 kr C6 rfl kr (by first | rfl | omega) kr kr kr kr kr (by show 4 * _ ≤ _; omega) (by omega) ?_)
 intro b10 w10 Y10 C10 j10 hu10 a11 G11
 have hrow10 := URow.zeros l.length (by simp only [maxLen]; omega)
 refine wplI G11 kr (zE (t := 26) (b := b4) (off := 0) (c' := #[.slice (some ⟨b10, 0, none⟩) l.length l.length]) (g := false) (m := 1) 2 _ G11 kr C10 rfl kr rfl kr kr kr rfl (by first | decide | (simp; done)) kr rfl ?_)
 intro w12 C12 j12
 refine zH ?_
 refine zA (H8 _ _ ?_)
 refine zG (fun K13 H13 => ?_)
 refine zG (fun K14 H14 => ?_)
 refine zC ?_
 refine zD 1 [(11, .slice ad l.length cap)] G11 kr kr (fun a15 G15 => ?_)
 refine wplI G15 kr (op_call (d := 12) (f := 189) (cap := #[]) (vs := #[.slice ad l.length cap]) G15 kr C12 rfl kr kr (fun w => Tryz.call189 _ w) (digits_c _ _ C12.lt ad l.length cap) ?_)
 rintro v16 w16 C16 j16 hu16 ⟨bx16, rfl, hge16, hget16⟩ a17 G17
 have C18 := St.adopt C16 (fun o h => Nat.not_lt.2 hge16 (C12.lt _ _ h)) (Nat.le_trans C12.upd.size hge16) hget16
 have j18 := Le.adopt j16 hge16
 refine zH ?_
 refine zA (H14 _ _ ?_)
 refine i_block ?_
 refine i_range2 (f := 200) (caps := #[.pointer (some ⟨bx16, 0, none⟩)]) G17 C18 kr kr (fun args w => Tryz.call200 args w) ?_
 intro rec19 l19 b19 w19 Y19 hr19 C19 j19 hu19
 have G20 := fr_marked b19 G17
 refine digits1_c l19 bx16 ad l.length cap l (by omega) (fun k w' => ∃ (Y' : Hid) (curq : Array Value) (lq : List Nat) (rb : List (Nat × Obj)) (adr : Option Addr) (capr : Nat) (lr : List Nat) (q : Nat), St E0 w X w' Y' ((l19, .loop rec19) :: (b19, .deferred (some [])) :: (bx16, .cells #[.slice ad l.length cap] 26 (0, 0)) :: (b10, .cells curq 56 (0, 0)) :: (b6, .cells #[.slice adr lr.length capr] 26 (0, 0)) :: (b4, .cells #[.slice (some ⟨b10, 0, none⟩) l.length l.length] 26 (0, 0)) :: (b2, .cells #[.slice ad2 l2.length cap2] 26 (0, 0)) :: rb) ∧ Le (rd w19 Y19) (rd w' Y') ∧ (URow l.length l.length curq lq) ∧ (RSt 56 rb adr capr lr) ∧ (Canon lr) ∧ (val lq = 2 ^ k * q) ∧ (val l / 2 ^ k = q * val l2 + val lr) ∧ (val lr < val l2)) _ _ ((h.mono (Le7 j2 j4 j6 j10 j12 j18 j19)).mono Le.x0) ?_ ?_ ?_ ?_ (C19.at0 2 rfl rfl) ?_
 ·
  rintro k w21 ⟨Y21, curq, lq, rb, adr, capr, lr, q, C21, j21, hp21_0, hp21_1, hp21_2, hp21_3, hp21_4, hp21_5⟩
  exact C21.at0 2 rfl rfl
 ·
  rintro k w22 ⟨Y22, curq, lq, rb, adr, capr, lr, q, C22, j22, hp22_0, hp22_1, hp22_2, hp22_3, hp22_4, hp22_5⟩
  intro hk
  obtain ⟨b, off, rfl, _⟩ := h.addr (by omega)
  exact ⟨b, off, rfl, ((h.cell (i := k / 32) (by omega)).mono (Le8 j2 j4 j6 j10 j12 j18 j19 j22)).mono Le.x0⟩
 ·
  intro k w23 hk
  rintro ⟨Y23, curq, lq, rb, adr, capr, lr, q, C23, j23, hp23_0, hp23_1, hp23_2, hp23_3, hp23_4, hp23_5⟩
  refine y_round2 (p := 13) (q := 14) hr19 G17 C23 kr kr (fun a24 G24 => ?_)
  have hkl : k / 32 < l.length := by omega
  have hrowq := hp23_0
  have hrst := hp23_1
  have hcanlr := hp23_2
  have hvq := hp23_3
  have hdiv := hp23_4
  have hlt := hp23_5
  rcases hrst with ⟨rfl, rfl, rfl, rfl⟩ | ⟨gr, curr, rfl, rfl, hrowr⟩
  ·
   refine zG (fun K25 H25 => ?_)
   refine zC ?_
   refine zD 1 [(6, .int .i64 (k : Int))] G24 kr kr (fun a26 G26 => ?_)
   refine zH ?_
   refine zA (H25 _ _ ?_)
   refine zC ?_
   refine zD 1 [(7, .int .u32 ((val l / 2 ^ k % 2 : Nat) : Int))] G26 kr kr (fun a27 G27 => ?_)
   refine zH ?_
   refine zA ?_
   refine y_begin2 hr19 C23 (fun w28 C28 j28 => ?_)
   refine i_block ?_
   refine zG (fun K29 H29 => ?_)
   refine zC ?_
   refine wplI G27 kr (zF (d := 15) (v := .slice none 0 0) G27 kr (zB (t := 26) (g := false) (vs := [.slice none 0 0]) (ad := ⟨b6, 0, none⟩) rfl kr kr ir (C28.cells 4 rfl rfl)) ?_)
   intro a30 G30
   refine zD 1 [(16, .int .u32 ((val l / 2 ^ k % 2 : Nat) : Int))] G30 kr kr (fun a31 G31 => ?_)
   refine wplI G31 kr (op_call (d := 17) (f := 169) (cap := #[]) (vs := #[.slice none 0 0, .int .u32 ((val l / 2 ^ k % 2 : Nat) : Int)]) G31 kr C28 rfl kr kr (fun w => Tryz.call169 _ w) (double_nil _ X0 (X0_lt _) (val l / 2 ^ k % 2) (by omega)) ?_)
   rintro v32 w32 C32 j32 hu32 ⟨ls32, ad32, len32, cap32, ⟨⟨rfl, hl32, hlt32, ho32⟩, hcan32, hval32⟩, hlen32⟩ a33 G33
   have hx32 : val ls32 = 2 * val ([] : List Nat) + val l / 2 ^ k % 2 := by simp only [val]; omega
   rcases ho32 with ⟨rfl, rfl, rfl⟩ | ⟨g32, cur32, rfl, hge32, hget32, hrow32⟩
   ·
    have hn32 : ls32 = [] := List.eq_nil_of_length_eq_zero hl32.symm
    subst hn32
    refine wplI G33 kr (zE (t := 26) (b := b6) (off := 0) (c' := #[.slice none 0 0]) (g := false) (m := 1) 4 _ G33 kr C32 rfl kr rfl kr kr kr rfl (by first | decide | (simp; done)) kr rfl ?_)
    intro w36 C36 j36
    refine zH ?_
    refine zA (H29 _ _ ?_)
    refine zG (fun K37 H37 => ?_)
    refine zC ?_
    refine wplI G33 kr (zF (d := 18) (v := .slice none 0 0) G33 kr (zB (t := 26) (g := false) (vs := [.slice none 0 0]) (ad := ⟨b6, 0, none⟩) rfl kr kr ir (C36.cells 4 rfl rfl)) ?_)
    intro a38 G38
    refine wplI G38 kr (zF (d := 19) (v := .slice ad2 l2.length cap2) G38 kr (zB (t := 26) (g := false) (vs := [.slice ad2 l2.length cap2]) (ad := ⟨b2, 0, none⟩) rfl kr kr ir (C36.cells 6 rfl rfl)) ?_)
    intro a39 G39
    refine wplI G39 kr (op_call (d := 20) (f := 167) (cap := #[]) (vs := #[.slice none 0 0, .slice ad2 l2.length cap2]) G39 kr C36 rfl kr kr (fun w => Tryz.call167 _ w) (order_c _ X0 (X0_lt _) _ _ _ ([]) (Limbs.nil none (by omega)) _ _ _ l2 ((h2.mono (Le11 j2 j4 j6 j10 j12 j18 j19 j23 j28 j32 j36)).mono Le.x0) (.inl rfl) hc2 (by omega)) ?_)
    rintro v40 w40 C40 j40 hu40 rfl a41 G41
    refine zD 1 [(21, .bool (decide ((cmpI (val ([])) (val l2)) ≥ 0)))] G41 kr kr (fun a42 G42 => ?_)
    refine zH ?_
    refine zA (H37 _ _ ?_)
    refine i_cond (decide ((cmpI (val ([])) (val l2)) ≥ 0)) G42 kr kr (fun hc43 => ?_) (fun hc43 => ?_)
    ·
     have G44 := G42.set 21 (v' := .bool true) kr rfl (zJ hc43)
     have ht45 : (cmpI (val ([])) (val l2)) ≥ 0 := of_decide_eq_true hc43
     have hcmp := cmpI_ge ht45
     simp only [val] at hcmp; omega
    have G46 := G42.set 21 (v' := .bool false) kr rfl (zJ hc43)
    have ht47 : ¬ ((cmpI (val ([])) (val l2)) ≥ 0) := of_decide_eq_false hc43
    have hcmp := cmpI_nge ht47
    refine i_skip ?_
    refine blk_norm ?_
    refine y_next2 hr19 C40 (fun w48 C48 j48 => Rounds.next ?_)
    exact ⟨_, curq, lq, [], none, 0, [], (2 * q), C48, (Le6 j23 j28 j32 j36 j40 j48), hrowq, .inl ⟨rfl, rfl, rfl, rfl⟩, (.inl rfl), by rw [hvq, Nat.pow_succ]; ac_rfl, divB hdiv hx32, hcmp⟩
   ·
    subst hl32
    have C34 := St.adopt C32 (fun o h => Nat.not_lt.2 hge32 (C28.lt _ _ h)) (Nat.le_trans C28.upd.size hge32) hget32
    have j34 := Le.adopt j32 hge32
    have C35 := St.mid (B := []) [(l19, .loop (busyL rec19)), (b19, .deferred (some [])), (bx16, .cells #[.slice ad l.length cap] 26 (0, 0)), (b10, .cells curq 56 (0, 0)), (b6, .cells #[.slice none 0 0] 26 (0, 0)), (b4, .cells #[.slice (some ⟨b10, 0, none⟩) l.length l.length] 26 (0, 0)), (b2, .cells #[.slice ad2 l2.length cap2] 26 (0, 0))] C34
    have j35 : Le (rd w32 (hide g32 Y23)) (rd w32 (hide g32 Y23)) := Le.refl _
    refine wplI G33 kr (zE (t := 26) (b := b6) (off := 0) (c' := #[.slice (some ⟨g32, 0, none⟩) ls32.length cap32]) (g := false) (m := 1) 4 _ G33 kr C35 rfl kr rfl kr kr kr rfl (by first | decide | (simp; done)) kr rfl ?_)
    intro w49 C49 j49
    refine zH ?_
    refine zA (H29 _ _ ?_)
    refine zG (fun K50 H50 => ?_)
    refine zC ?_
    refine wplI G33 kr (zF (d := 18) (v := .slice (some ⟨g32, 0, none⟩) ls32.length cap32) G33 kr (zB (t := 26) (g := false) (vs := [.slice (some ⟨g32, 0, none⟩) ls32.length cap32]) (ad := ⟨b6, 0, none⟩) rfl kr kr ir (C49.cells 4 rfl rfl)) ?_)
    intro a51 G51
    refine wplI G51 kr (zF (d := 19) (v := .slice ad2 l2.length cap2) G51 kr (zB (t := 26) (g := false) (vs := [.slice ad2 l2.length cap2]) (ad := ⟨b2, 0, none⟩) rfl kr kr ir (C49.cells 6 rfl rfl)) ?_)
    intro a52 G52
    refine wplI G52 kr (op_call (d := 20) (f := 167) (cap := #[]) (vs := #[.slice (some ⟨g32, 0, none⟩) ls32.length cap32, .slice ad2 l2.length cap2]) G52 kr C49 rfl kr kr (fun w => Tryz.call167 _ w) (order_c _ X0 (X0_lt _) _ _ _ ls32 (URow.limbs (Y := X0) hrow32 (C49.get 7 rfl) (fun _ h => h.elim)) _ _ _ l2 ((h2.mono (Le12 j2 j4 j6 j10 j12 j18 j19 j23 j28 j34 j35 j49)).mono Le.x0) hcan32 hc2 (by omega)) ?_)
    rintro v53 w53 C53 j53 hu53 rfl a54 G54
    refine zD 1 [(21, .bool (decide ((cmpI (val ls32) (val l2)) ≥ 0)))] G54 kr kr (fun a55 G55 => ?_)
    refine zH ?_
    refine zA (H50 _ _ ?_)
    refine i_cond (decide ((cmpI (val ls32) (val l2)) ≥ 0)) G55 kr kr (fun hc56 => ?_) (fun hc56 => ?_)
    ·
     have G57 := G55.set 21 (v' := .bool true) kr rfl (zJ hc56)
     have ht58 : (cmpI (val ls32) (val l2)) ≥ 0 := of_decide_eq_true hc56
     have hcmp := cmpI_ge ht58
     obtain ⟨hset1, hset2, hset3⟩ := setbit lq hrowq.lt k q (by rw [hrowq.len]; exact hkl) hvq
     refine zG (fun K59 H59 => ?_)
     refine zC ?_
     refine wplI G57 kr (zF (d := 22) (v := .slice (some ⟨g32, 0, none⟩) ls32.length cap32) G57 kr (zB (t := 26) (g := false) (vs := [.slice (some ⟨g32, 0, none⟩) ls32.length cap32]) (ad := ⟨b6, 0, none⟩) rfl kr kr ir (C53.cells 4 rfl rfl)) ?_)
     intro a60 G60
     refine wplI G60 kr (zF (d := 23) (v := .slice ad2 l2.length cap2) G60 kr (zB (t := 26) (g := false) (vs := [.slice ad2 l2.length cap2]) (ad := ⟨b2, 0, none⟩) rfl kr kr ir (C53.cells 6 rfl rfl)) ?_)
     intro a61 G61
     refine wplI G61 kr (op_callE (d := 24) (f := 168) (cap := #[]) (vs := #[.slice (some ⟨g32, 0, none⟩) ls32.length cap32, .slice ad2 l2.length cap2]) 7 G61 kr C53 rfl kr kr (fun w => Tryz.call168 _ w) rfl (subtract_c _ g32 ls32.length cap32 _ ls32 (C53.get 7 rfl) hrow32 (by omega) _ _ _ l2 ((h2.mono (Le13 j2 j4 j6 j10 j12 j18 j19 j23 j28 j34 j35 j49 j53)).mono (C53.leHG 7 rfl)) (canon_len hrow32.lt hc2 (by omega)) (by omega)) ?_)
     rintro v62 w62 ob62 ⟨cur62, ls62, rfl, hg62, hrow62, hcan62, hval62⟩ hob62 C62 j62 a63 G63
     obtain rfl := Option.some.inj (hob62.symm.trans hg62)
     refine wplI G63 kr (zE (t := 26) (b := b6) (off := 0) (c' := #[.slice (some ⟨g32, 0, none⟩) ls62.length cap32]) (g := false) (m := 1) 4 _ G63 kr C62 rfl kr rfl kr kr kr rfl (by first | decide | (simp; done)) kr rfl ?_)
     intro w64 C64 j64
     refine zH ?_
     refine zA (H59 _ _ ?_)
     refine i_drawN (N := 11) (Held [(⟨b4, 0, none⟩, [.slice (some ⟨b10, 0, none⟩) l.length l.length]), (⟨b10, k / 32, none⟩, [.int .u32 ((lq.getD (k / 32) 0 : Nat) : Int)])]) [10] kr kr kr C64 ?_
     intro w65 C65 j65 hu65
     refine with_held (Held.cons (C65.cells 5 rfl rfl) (Held.cons (C65.rowCells 3 rfl hrowq (by have := hrowq.len; (try simp only [List.length_set] at *); omega)) (Held.nil _))) (fun hH65 => ?_)
     refine t_load (d := 25) (v := .slice (some ⟨b10, 0, none⟩) l.length l.length) 0 G63 rfl kr kr kr (fun w hw => zB (t := 26) (g := false) (vs := [.slice (some ⟨b10, 0, none⟩) l.length l.length]) (ad := ⟨b4, 0, none⟩) rfl kr kr ir (hw.get 0 kr)) hH65 ?_
     intro a66 G66
     refine zK (d := 26) (v := .int .i64 (k : Int)) 1 G66 rfl kr kr kw (fun _ => hH65) ?_
     intro a67 G67
     refine zK (d := 27) (v := .int .i64 (IntKind.i64.wrap (Int.tdiv ((k : Int)) (32)))) 2 G67 rfl kr kr kw (fun _ => hH65) ?_
     intro a68 G68
     have G69 := G68.set 27 (v' := .int .i64 ((k / 32 : Nat) : Int)) kr rfl (vint (tdiv32 _ (by omega)))
     refine zK (d := 28) (v := .pointer (some ⟨b10, k / 32, none⟩)) 3 G69 rfl kr kr (fun w => run_indexOp (t := 26) (e := 56) (b := b10) (off := 0) (len := l.length) (cap := l.length) (kd := .i64) (i := ((k / 32 : Nat) : Int)) (g := false) (m := 1) (off' := k / 32) rfl kr kr kr kr (by omega) (by omega) (by first | rfl | omega | (simp; done) | (simp; omega)) w) (fun _ => hH65) ?_
     intro a70 G70
     refine t_load (d := 29) (v := .int .u32 ((lq.getD (k / 32) 0 : Nat) : Int)) 4 G70 rfl kr kr kr (fun w hw => zB (t := 56) (g := false) (vs := [.int .u32 ((lq.getD (k / 32) 0 : Nat) : Int)]) (ad := ⟨b10, k / 32, none⟩) rfl kr kr ir (hw.get 1 kr)) hH65 ?_
     intro a71 G71
     refine zK (d := 30) (v := .int .i64 (k : Int)) 5 G71 rfl kr kr kw (fun _ => hH65) ?_
     intro a72 G72
     refine zK (d := 31) (v := .int .i64 (Int.tmod ((k : Int)) (32))) 6 G72 rfl kr kr kw (fun _ => hH65) ?_
     intro a73 G73
     have G74 := G73.set 31 (v' := .int .i64 ((k % 32 : Nat) : Int)) kr rfl (vint (tmod32 _))
     refine zK (d := 32) (v := .int .u32 ((2 ^ (k % 32) : Nat) : Int)) 7 G74 rfl kr kr (fun w => run_shl1 rfl rfl rfl (by omega)) (fun _ => hH65) ?_
     intro a75 G75
     refine zK (d := 33) (v := .int .u32 (bor32 ((lq.getD (k / 32) 0 : Nat) : Int) ((2 ^ (k % 32) : Nat) : Int))) 8 G75 rfl kr kr kw (fun _ => hH65) ?_
     intro a76 G76
     have G77 := G76.set 33 (v' := .int .u32 ((lq.getD (k / 32) 0 + 2 ^ (k % 32) : Nat) : Int)) kr rfl (vint hset1)
     refine zK (d := 34) (v := .pointer (some ⟨b10, k / 32, none⟩)) 9 G77 rfl kr kr (fun w => run_indexOp (t := 26) (e := 56) (b := b10) (off := 0) (len := l.length) (cap := l.length) (kd := .i64) (i := ((k / 32 : Nat) : Int)) (g := false) (m := 1) (off' := k / 32) rfl kr kr kr kr (by omega) (by omega) (by first | rfl | omega | (simp; done) | (simp; omega)) w) (fun _ => hH65) ?_
     intro a78 G78
     refine t_fork [10] kr rfl ?_
     refine ForkT.cons (i := 10) G78 rfl kr (op_storeU (t := 56) (y := (lq.getD (k / 32) 0 + 2 ^ (k % 32))) (k := k / 32) (e := ((lq.getD (k / 32) 0 + 2 ^ (k % 32) : Nat) : Int)) 3 G78 kr C65 rfl rfl rfl (rfl) kr rfl hrowq (by have := hrowq.len; (try simp only [List.length_set] at *); omega) (hset2) ?_) ForkT.nil
     intro cur79 w79 hrow79 C79 j79
     refine ⟨begun_tt kr, ?_⟩
     refine t_done kr (nrm ?_)
     refine blk_norm ?_
     refine y_next2 hr19 C79 (fun w80 C80 j80 => Rounds.next ?_)
     exact ⟨_, cur79, (lq.set (k / 32) (lq.getD (k / 32) 0 + 2 ^ (k % 32))), [(g32, .cells cur62 56 (0, 0))], (some ⟨g32, 0, none⟩), cap32, ls62, (2 * q + 1), C80, (Le11 j23 j28 j34 j35 j49 j53 j62 j64 j65 j79 j80), hrow79, .inr ⟨_, _, rfl, rfl, hrow62⟩, hcan62, by rw [hset3, hvq, Nat.pow_succ, Nat.mul_add, Nat.mul_one]; congr 1; ac_rfl, divA hdiv (hval62.trans (by rw [hx32])) (by omega), by have := hval62; omega⟩
    have G81 := G55.set 21 (v' := .bool false) kr rfl (zJ hc56)
    have ht82 : ¬ ((cmpI (val ls32) (val l2)) ≥ 0) := of_decide_eq_false hc56
    have hcmp := cmpI_nge ht82
    refine i_skip ?_
    refine blk_norm ?_
    refine y_next2 hr19 C53 (fun w83 C83 j83 => Rounds.next ?_)
    exact ⟨_, curq, lq, [(g32, .cells cur32 56 (0, 0))], (some ⟨g32, 0, none⟩), cap32, ls32, (2 * q), C83, (Le7 j23 j28 j34 j35 j49 j53 j83), hrowq, .inr ⟨_, _, rfl, rfl, hrow32⟩, hcan32, by rw [hvq, Nat.pow_succ]; ac_rfl, divB hdiv hx32, hcmp⟩
  ·
   refine zG (fun K84 H84 => ?_)
   refine zC ?_
   refine zD 1 [(6, .int .i64 (k : Int))] G24 kr kr (fun a85 G85 => ?_)
   refine zH ?_
   refine zA (H84 _ _ ?_)
   refine zC ?_
   refine zD 1 [(7, .int .u32 ((val l / 2 ^ k % 2 : Nat) : Int))] G85 kr kr (fun a86 G86 => ?_)
   refine zH ?_
   refine zA ?_
   refine y_begin2 hr19 C23 (fun w87 C87 j87 => ?_)
   refine i_block ?_
   refine zG (fun K88 H88 => ?_)
   refine zC ?_
   refine wplI G86 kr (zF (d := 15) (v := .slice (some ⟨gr, 0, none⟩) lr.length capr) G86 kr (zB (t := 26) (g := false) (vs := [.slice (some ⟨gr, 0, none⟩) lr.length capr]) (ad := ⟨b6, 0, none⟩) rfl kr kr ir (C87.cells 4 rfl rfl)) ?_)
   intro a89 G89
   refine zD 1 [(16, .int .u32 ((val l / 2 ^ k % 2 : Nat) : Int))] G89 kr kr (fun a90 G90 => ?_)
   have hlnr := canon_len h2.hlt hcanlr (Nat.le_of_lt hlt)
   refine wplI G90 kr (op_callG (d := 17) (f := 169) (cap := #[]) (vs := #[.slice (some ⟨gr, 0, none⟩) lr.length capr, .int .u32 ((val l / 2 ^ k % 2 : Nat) : Int)]) 7 G90 kr C87 rfl kr kr (fun w => Tryz.call169 _ w) rfl (double_c _ gr lr.length capr _ lr (C87.get 7 rfl) hrowr (by omega) hcanlr (val l / 2 ^ k % 2) (by omega)) ?_)
   rintro v91 w91 Y91 g91 o91 ⟨cur91, cap91, ls91, rfl, rfl, hrow91, hlen91, hcan91, hval91⟩ C91 j91 a92 G92
   refine wplI G92 kr (zE (t := 26) (b := b6) (off := 0) (c' := #[.slice (some ⟨g91, 0, none⟩) ls91.length cap91]) (g := false) (m := 1) 4 _ G92 kr C91 rfl kr rfl kr kr kr rfl (by first | decide | (simp; done)) kr rfl ?_)
   intro w93 C93 j93
   refine zH ?_
   refine zA (H88 _ _ ?_)
   refine zG (fun K94 H94 => ?_)
   refine zC ?_
   refine wplI G92 kr (zF (d := 18) (v := .slice (some ⟨g91, 0, none⟩) ls91.length cap91) G92 kr (zB (t := 26) (g := false) (vs := [.slice (some ⟨g91, 0, none⟩) ls91.length cap91]) (ad := ⟨b6, 0, none⟩) rfl kr kr ir (C93.cells 4 rfl rfl)) ?_)
   intro a95 G95
   refine wplI G95 kr (zF (d := 19) (v := .slice ad2 l2.length cap2) G95 kr (zB (t := 26) (g := false) (vs := [.slice ad2 l2.length cap2]) (ad := ⟨b2, 0, none⟩) rfl kr kr ir (C93.cells 6 rfl rfl)) ?_)
   intro a96 G96
   refine wplI G96 kr (op_call (d := 20) (f := 167) (cap := #[]) (vs := #[.slice (some ⟨g91, 0, none⟩) ls91.length cap91, .slice ad2 l2.length cap2]) G96 kr C93 rfl kr kr (fun w => Tryz.call167 _ w) (order_c _ X0 (X0_lt _) _ _ _ ls91 (URow.limbs (Y := X0) hrow91 (C93.get 7 rfl) (fun _ h => h.elim)) _ _ _ l2 ((h2.mono (Le11 j2 j4 j6 j10 j12 j18 j19 j23 j87 j91 j93)).mono Le.x0) hcan91 hc2 (by omega)) ?_)
   rintro v97 w97 C97 j97 hu97 rfl a98 G98
   refine zD 1 [(21, .bool (decide ((cmpI (val ls91) (val l2)) ≥ 0)))] G98 kr kr (fun a99 G99 => ?_)
   refine zH ?_
   refine zA (H94 _ _ ?_)
   refine i_cond (decide ((cmpI (val ls91) (val l2)) ≥ 0)) G99 kr kr (fun hc100 => ?_) (fun hc100 => ?_)
   ·
    have G101 := G99.set 21 (v' := .bool true) kr rfl (zJ hc100)
    have ht102 : (cmpI (val ls91) (val l2)) ≥ 0 := of_decide_eq_true hc100
    have hcmp := cmpI_ge ht102
    obtain ⟨hset1, hset2, hset3⟩ := setbit lq hrowq.lt k q (by rw [hrowq.len]; exact hkl) hvq
    refine zG (fun K103 H103 => ?_)
    refine zC ?_
    refine wplI G101 kr (zF (d := 22) (v := .slice (some ⟨g91, 0, none⟩) ls91.length cap91) G101 kr (zB (t := 26) (g := false) (vs := [.slice (some ⟨g91, 0, none⟩) ls91.length cap91]) (ad := ⟨b6, 0, none⟩) rfl kr kr ir (C97.cells 4 rfl rfl)) ?_)
    intro a104 G104
    refine wplI G104 kr (zF (d := 23) (v := .slice ad2 l2.length cap2) G104 kr (zB (t := 26) (g := false) (vs := [.slice ad2 l2.length cap2]) (ad := ⟨b2, 0, none⟩) rfl kr kr ir (C97.cells 6 rfl rfl)) ?_)
    intro a105 G105
    refine wplI G105 kr (op_callE (d := 24) (f := 168) (cap := #[]) (vs := #[.slice (some ⟨g91, 0, none⟩) ls91.length cap91, .slice ad2 l2.length cap2]) 7 G105 kr C97 rfl kr kr (fun w => Tryz.call168 _ w) rfl (subtract_c _ g91 ls91.length cap91 _ ls91 (C97.get 7 rfl) hrow91 (by omega) _ _ _ l2 ((h2.mono (Le12 j2 j4 j6 j10 j12 j18 j19 j23 j87 j91 j93 j97)).mono (C97.leHG 7 rfl)) (canon_len hrow91.lt hc2 (by omega)) (by omega)) ?_)
    rintro v106 w106 ob106 ⟨cur106, ls106, rfl, hg106, hrow106, hcan106, hval106⟩ hob106 C106 j106 a107 G107
    obtain rfl := Option.some.inj (hob106.symm.trans hg106)
    refine wplI G107 kr (zE (t := 26) (b := b6) (off := 0) (c' := #[.slice (some ⟨g91, 0, none⟩) ls106.length cap91]) (g := false) (m := 1) 4 _ G107 kr C106 rfl kr rfl kr kr kr rfl (by first | decide | (simp; done)) kr rfl ?_)
    intro w108 C108 j108
    refine zH ?_
    refine zA (H103 _ _ ?_)
    refine i_drawN (N := 11) (Held [(⟨b4, 0, none⟩, [.slice (some ⟨b10, 0, none⟩) l.length l.length]), (⟨b10, k / 32, none⟩, [.int .u32 ((lq.getD (k / 32) 0 : Nat) : Int)])]) [10] kr kr kr C108 ?_
    intro w109 C109 j109 hu109
    refine with_held (Held.cons (C109.cells 5 rfl rfl) (Held.cons (C109.rowCells 3 rfl hrowq (by have := hrowq.len; (try simp only [List.length_set] at *); omega)) (Held.nil _))) (fun hH109 => ?_)
    refine t_load (d := 25) (v := .slice (some ⟨b10, 0, none⟩) l.length l.length) 0 G107 rfl kr kr kr (fun w hw => zB (t := 26) (g := false) (vs := [.slice (some ⟨b10, 0, none⟩) l.length l.length]) (ad := ⟨b4, 0, none⟩) rfl kr kr ir (hw.get 0 kr)) hH109 ?_
    intro a110 G110
    refine zK (d := 26) (v := .int .i64 (k : Int)) 1 G110 rfl kr kr kw (fun _ => hH109) ?_
    intro a111 G111
    refine zK (d := 27) (v := .int .i64 (IntKind.i64.wrap (Int.tdiv ((k : Int)) (32)))) 2 G111 rfl kr kr kw (fun _ => hH109) ?_
    intro a112 G112
    have G113 := G112.set 27 (v' := .int .i64 ((k / 32 : Nat) : Int)) kr rfl (vint (tdiv32 _ (by omega)))
    refine zK (d := 28) (v := .pointer (some ⟨b10, k / 32, none⟩)) 3 G113 rfl kr kr (fun w => run_indexOp (t := 26) (e := 56) (b := b10) (off := 0) (len := l.length) (cap := l.length) (kd := .i64) (i := ((k / 32 : Nat) : Int)) (g := false) (m := 1) (off' := k / 32) rfl kr kr kr kr (by omega) (by omega) (by first | rfl | omega | (simp; done) | (simp; omega)) w) (fun _ => hH109) ?_
    intro a114 G114
    refine t_load (d := 29) (v := .int .u32 ((lq.getD (k / 32) 0 : Nat) : Int)) 4 G114 rfl kr kr kr (fun w hw => zB (t := 56) (g := false) (vs := [.int .u32 ((lq.getD (k / 32) 0 : Nat) : Int)]) (ad := ⟨b10, k / 32, none⟩) rfl kr kr ir (hw.get 1 kr)) hH109 ?_
    intro a115 G115
    refine zK (d := 30) (v := .int .i64 (k : Int)) 5 G115 rfl kr kr kw (fun _ => hH109) ?_
    intro a116 G116
    refine zK (d := 31) (v := .int .i64 (Int.tmod ((k : Int)) (32))) 6 G116 rfl kr kr kw (fun _ => hH109) ?_
    intro a117 G117
    have G118 := G117.set 31 (v' := .int .i64 ((k % 32 : Nat) : Int)) kr rfl (vint (tmod32 _))
    refine zK (d := 32) (v := .int .u32 ((2 ^ (k % 32) : Nat) : Int)) 7 G118 rfl kr kr (fun w => run_shl1 rfl rfl rfl (by omega)) (fun _ => hH109) ?_
    intro a119 G119
    refine zK (d := 33) (v := .int .u32 (bor32 ((lq.getD (k / 32) 0 : Nat) : Int) ((2 ^ (k % 32) : Nat) : Int))) 8 G119 rfl kr kr kw (fun _ => hH109) ?_
    intro a120 G120
    have G121 := G120.set 33 (v' := .int .u32 ((lq.getD (k / 32) 0 + 2 ^ (k % 32) : Nat) : Int)) kr rfl (vint hset1)
    refine zK (d := 34) (v := .pointer (some ⟨b10, k / 32, none⟩)) 9 G121 rfl kr kr (fun w => run_indexOp (t := 26) (e := 56) (b := b10) (off := 0) (len := l.length) (cap := l.length) (kd := .i64) (i := ((k / 32 : Nat) : Int)) (g := false) (m := 1) (off' := k / 32) rfl kr kr kr kr (by omega) (by omega) (by first | rfl | omega | (simp; done) | (simp; omega)) w) (fun _ => hH109) ?_
    intro a122 G122
    refine t_fork [10] kr rfl ?_
    refine ForkT.cons (i := 10) G122 rfl kr (op_storeU (t := 56) (y := (lq.getD (k / 32) 0 + 2 ^ (k % 32))) (k := k / 32) (e := ((lq.getD (k / 32) 0 + 2 ^ (k % 32) : Nat) : Int)) 3 G122 kr C109 rfl rfl rfl (rfl) kr rfl hrowq (by have := hrowq.len; (try simp only [List.length_set] at *); omega) (hset2) ?_) ForkT.nil
    intro cur123 w123 hrow123 C123 j123
    refine ⟨begun_tt kr, ?_⟩
    refine t_done kr (nrm ?_)
    refine blk_norm ?_
    refine y_next2 hr19 C123 (fun w124 C124 j124 => Rounds.next ?_)
    exact ⟨_, cur123, (lq.set (k / 32) (lq.getD (k / 32) 0 + 2 ^ (k % 32))), [(g91, .cells cur106 56 (0, 0))], (some ⟨g91, 0, none⟩), cap91, ls106, (2 * q + 1), C124, (Le10 j23 j87 j91 j93 j97 j106 j108 j109 j123 j124), hrow123, .inr ⟨_, _, rfl, rfl, hrow106⟩, hcan106, by rw [hset3, hvq, Nat.pow_succ, Nat.mul_add, Nat.mul_one]; congr 1; ac_rfl, divA hdiv (hval106.trans (by rw [hval91])) (by omega), by have := hval106; omega⟩
   have G125 := G99.set 21 (v' := .bool false) kr rfl (zJ hc100)
   have ht126 : ¬ ((cmpI (val ls91) (val l2)) ≥ 0) := of_decide_eq_false hc100
   have hcmp := cmpI_nge ht126
   refine i_skip ?_
   refine blk_norm ?_
   refine y_next2 hr19 C97 (fun w127 C127 j127 => Rounds.next ?_)
   exact ⟨_, curq, lq, [(g91, .cells cur91 56 (0, 0))], (some ⟨g91, 0, none⟩), cap91, ls91, (2 * q), C127, (Le6 j23 j87 j91 j93 j97 j127), hrowq, .inr ⟨_, _, rfl, rfl, hrow91⟩, hcan91, by rw [hvq, Nat.pow_succ]; ac_rfl, divB hdiv hval91, hcmp⟩
 ·
  rintro w128 ⟨Y128, curq, lq, rb, adr, capr, lr, q, C128, j128, hp128_0, hp128_1, hp128_2, hp128_3, hp128_4, hp128_5⟩
  refine RangeEnd.norm hr19 C128 (fun w129 C129 j129 => ?_)
  have hrowq := hp128_0
  have hrst := hp128_1
  have hcanlr := hp128_2
  have hvq := hp128_3
  have hdiv := hp128_4
  have hlt := hp128_5
  rcases hrst with ⟨rfl, rfl, rfl, rfl⟩ | ⟨gr, curr, rfl, rfl, hrowr⟩
  ·
   refine blk_norm ?_
   refine zA (H13 _ _ ?_)
   refine zG (fun K130 H130 => ?_)
   refine i_drawN (N := 5) (Held [(⟨b6, 0, none⟩, [.slice none 0 0])]) [4] kr kr kr C129 ?_
   intro w131 C131 j131 hu131
   refine with_held (Held.cons (C131.cells 4 rfl rfl) (Held.nil _)) (fun hH131 => ?_)
   refine t_load (d := 37) (v := .slice none 0 0) 2 G20 rfl kr kr kr (fun w hw => zB (t := 26) (g := false) (vs := [.slice none 0 0]) (ad := ⟨b6, 0, none⟩) rfl kr kr ir (hw.get 0 kr)) hH131 ?_
   intro a132 G132
   refine t_fork [0] kr rfl ?_
   refine ForkT.cons (i := 0) G132 rfl kr (zF (d := 35) (v := .slice (some ⟨b10, 0, none⟩) l.length l.length) G132 kr (zB (t := 26) (g := false) (vs := [.slice (some ⟨b10, 0, none⟩) l.length l.length]) (ad := ⟨b4, 0, none⟩) rfl kr kr ir (C131.cells 5 rfl rfl)) ?_) ForkT.nil
   intro a133 G133
   refine held_next (Held.cons (C131.cells 4 rfl rfl) (Held.nil _)) (fun hH131 => ?_)
   refine t_fork [1] kr rfl ?_
   refine ForkT.cons (i := 1) G133 rfl kr (op_call (d := 36) (f := 157) (cap := #[]) (vs := #[.slice (some ⟨b10, 0, none⟩) l.length l.length]) G133 kr C131 rfl kr kr (fun w => Tryz.call157 _ w) (trim_c _ X0 (X0_lt _) _ _ _ lq (URow.limbs (Y := X0) hrowq (C131.get 3 rfl) (fun _ h => h.elim))) ?_) ForkT.nil
   rintro v134 w134 C134 j134 hu134 rfl a135 G135
   refine held_next (Held.cons (C134.cells 4 rfl rfl) (Held.nil _)) (fun hH134 => ?_)
   refine t_fork [3] kr rfl ?_
   refine ForkT.cons (i := 3) G135 rfl kr (zE (t := 26) (b := b4) (off := 0) (c' := #[.slice (some ⟨b10, 0, none⟩) (trimN lq) l.length]) (g := false) (m := 1) 5 _ G135 kr C134 rfl kr rfl kr kr kr rfl (by first | decide | (simp; done)) kr rfl ?_) ForkT.nil
   intro w136 C136 j136
   refine held_next (Held.cons (C136.cells 4 rfl rfl) (Held.nil _)) (fun hH136 => ?_)
   refine t_fork [4] kr rfl ?_
   refine ForkT.cons (i := 4) G135 rfl kr (zE (t := 26) (b := b6) (off := 0) (c' := #[.slice none 0 0]) (g := false) (m := 1) 4 _ G135 kr C136 rfl kr rfl kr kr kr rfl (by first | decide | (simp; done)) kr rfl ?_) ForkT.nil
   intro w137 C137 j137
   refine ⟨begun_tt kr, ?_⟩
   refine t_done kr (nrm ?_)
   refine zA (H130 _ _ ?_)
   refine i_ret ?_
   refine m_ret1 (v := .tuple #[.slice (some ⟨b10, 0, none⟩) (trimN lq) l.length, .slice none 0 0]) (rs := [.cell 4 26, .cell 5 26]) (vs := [.slice (some ⟨b10, 0, none⟩) (trimN lq) l.length, .slice none 0 0]) 1 G135 C137 rfl kr kr (fun w138 C138 j138 => ?_)
   refine ⟨(Res.cell (ad := ⟨b4, 0, none⟩) (cs := [.slice (some ⟨b10, 0, none⟩) (trimN lq) l.length]) (g := false) kr kr kr ir (C138.cells 5 rfl rfl) (Res.cell (ad := ⟨b6, 0, none⟩) (cs := [.slice none 0 0]) (g := false) kr kr kr ir (C138.cells 4 rfl rfl) Res.nil)), ?_⟩
   obtain ⟨he1, he2⟩ := divEnd hdiv hlt hvq
   exact ⟨C138.upd, _, rfl, _, _, Go.Gv.trimmed lq, [], _, _, _, _, _, _, rfl, ⟨⟨rfl, (trimmed_length _).symm, trimmed_lt hrowq.lt, .inr ⟨_, _, rfl, C138.own_ge 3 rfl, C138.get 3 rfl, hrowq.trimmed⟩⟩, canon_trimmed _, by rw [val_trimmed]; exact he1⟩, ⟨⟨rfl, rfl, fun x hx => by simp at hx, .inl ⟨rfl, rfl, rfl⟩⟩, .inl rfl, he2⟩⟩
  ·
   refine blk_norm ?_
   refine zA (H13 _ _ ?_)
   refine zG (fun K139 H139 => ?_)
   refine i_drawN (N := 5) (Held [(⟨b6, 0, none⟩, [.slice (some ⟨gr, 0, none⟩) lr.length capr])]) [4] kr kr kr C129 ?_
   intro w140 C140 j140 hu140
   refine with_held (Held.cons (C140.cells 4 rfl rfl) (Held.nil _)) (fun hH140 => ?_)
   refine t_load (d := 37) (v := .slice (some ⟨gr, 0, none⟩) lr.length capr) 2 G20 rfl kr kr kr (fun w hw => zB (t := 26) (g := false) (vs := [.slice (some ⟨gr, 0, none⟩) lr.length capr]) (ad := ⟨b6, 0, none⟩) rfl kr kr ir (hw.get 0 kr)) hH140 ?_
   intro a141 G141
   refine t_fork [0] kr rfl ?_
   refine ForkT.cons (i := 0) G141 rfl kr (zF (d := 35) (v := .slice (some ⟨b10, 0, none⟩) l.length l.length) G141 kr (zB (t := 26) (g := false) (vs := [.slice (some ⟨b10, 0, none⟩) l.length l.length]) (ad := ⟨b4, 0, none⟩) rfl kr kr ir (C140.cells 5 rfl rfl)) ?_) ForkT.nil
   intro a142 G142
   refine held_next (Held.cons (C140.cells 4 rfl rfl) (Held.nil _)) (fun hH140 => ?_)
   refine t_fork [1] kr rfl ?_
   refine ForkT.cons (i := 1) G142 rfl kr (op_call (d := 36) (f := 157) (cap := #[]) (vs := #[.slice (some ⟨b10, 0, none⟩) l.length l.length]) G142 kr C140 rfl kr kr (fun w => Tryz.call157 _ w) (trim_c _ X0 (X0_lt _) _ _ _ lq (URow.limbs (Y := X0) hrowq (C140.get 3 rfl) (fun _ h => h.elim))) ?_) ForkT.nil
   rintro v143 w143 C143 j143 hu143 rfl a144 G144
   refine held_next (Held.cons (C143.cells 4 rfl rfl) (Held.nil _)) (fun hH143 => ?_)
   refine t_fork [3] kr rfl ?_
   refine ForkT.cons (i := 3) G144 rfl kr (zE (t := 26) (b := b4) (off := 0) (c' := #[.slice (some ⟨b10, 0, none⟩) (trimN lq) l.length]) (g := false) (m := 1) 5 _ G144 kr C143 rfl kr rfl kr kr kr rfl (by first | decide | (simp; done)) kr rfl ?_) ForkT.nil
   intro w145 C145 j145
   refine held_next (Held.cons (C145.cells 4 rfl rfl) (Held.nil _)) (fun hH145 => ?_)
   refine t_fork [4] kr rfl ?_
   refine ForkT.cons (i := 4) G144 rfl kr (zE (t := 26) (b := b6) (off := 0) (c' := #[.slice (some ⟨gr, 0, none⟩) lr.length capr]) (g := false) (m := 1) 4 _ G144 kr C145 rfl kr rfl kr kr kr rfl (by first | decide | (simp; done)) kr rfl ?_) ForkT.nil
   intro w146 C146 j146
   refine ⟨begun_tt kr, ?_⟩
   refine t_done kr (nrm ?_)
   refine zA (H139 _ _ ?_)
   refine i_ret ?_
   refine m_ret1 (v := .tuple #[.slice (some ⟨b10, 0, none⟩) (trimN lq) l.length, .slice (some ⟨gr, 0, none⟩) lr.length capr]) (rs := [.cell 4 26, .cell 5 26]) (vs := [.slice (some ⟨b10, 0, none⟩) (trimN lq) l.length, .slice (some ⟨gr, 0, none⟩) lr.length capr]) 1 G144 C146 rfl kr kr (fun w147 C147 j147 => ?_)
   refine ⟨(Res.cell (ad := ⟨b4, 0, none⟩) (cs := [.slice (some ⟨b10, 0, none⟩) (trimN lq) l.length]) (g := false) kr kr kr ir (C147.cells 5 rfl rfl) (Res.cell (ad := ⟨b6, 0, none⟩) (cs := [.slice (some ⟨gr, 0, none⟩) lr.length capr]) (g := false) kr kr kr ir (C147.cells 4 rfl rfl) Res.nil)), ?_⟩
   obtain ⟨he1, he2⟩ := divEnd hdiv hlt hvq
   exact ⟨C147.upd, _, rfl, _, _, Go.Gv.trimmed lq, lr, _, _, _, _, _, _, rfl, ⟨⟨rfl, (trimmed_length _).symm, trimmed_lt hrowq.lt, .inr ⟨_, _, rfl, C147.own_ge 3 rfl, C147.get 3 rfl, hrowq.trimmed⟩⟩, canon_trimmed _, by rw [val_trimmed]; exact he1⟩, ⟨⟨rfl, rfl, hrowr.lt, .inr ⟨_, _, rfl, C147.own_ge 7 rfl, C147.get 7 rfl, hrowr⟩⟩, hcanlr, he2⟩⟩
 ·
  intro k w9 hu9 hm1 hm2
  exact ⟨_, (List.replicate l.length (Value.int .u32 0)).toArray, (List.replicate l.length 0), [], none, 0, [], 0, C19.call hu9, hu9.le _, hrow10, .inl ⟨rfl, rfl, rfl, rfl⟩, .inl rfl, by rw [val_replicate]; rfl, by rw [Nat.div_eq_of_lt hm1]; simp [val], hd⟩
end Go.Proofs.YtppalofalmieaaaGreat
namespace Go.Proofs.YtppalofalmieaaaGreat
open Go Go.Gv Go.RowKit
set_option maxRecDepth 100000
set_option maxHeartbeats 1000000
def zeroE (y : Nat) : Int := if y = 0 then 14 else 0
theorem DivMod_c (w : World) (X : Hid) (hX : ∀ k o, X k o → k < w.heap.size) (ad : Option Addr) (len cap : Nat) (l : List Nat) (h : Limbs (rd w X) ad len cap l) (ad2 : Option Addr) (len2 cap2 : Nat) (l2 : List Nat) (h2 : Limbs (rd w X) ad2 len2 cap2 l2) : Calls Tryz.prog 152 #[.slice ad len cap, .slice ad2 len2 cap2] w (Ret E0 w fun w' v => DivV 56 w w' (or2 (chk2 l l2) (zeroE (val l2))) (val l / val l2) (val l % val l2) v) := by
 obtain rfl := h.hlen
 obtain rfl := h2.hlen
 have hcap := h.hcap
 have hbig := h.hbig
 have hcap2 := h2.hcap
 have hbig2 := h2.hbig
 refine zen Tryz.func152 ?_
 have C0 : St E0 w X w X [] := St.start hX
 refine zz 12 ?_
 refine zc C0 (bcheck2 _ X0 (X0_lt _) _ _ _ l (h.mono Le.x0) _ _ _ l2 (h2.mono Le.x0)) ?_
 rintro v3 w3 C3 j3 hu3 rfl
 refine zz 11 ?_
 refine zb 11 (b := ((chk2 l l2) != 0)) (fun hc4 => ?_) (fun hc4 => ?_)
 ·
  have ht5 : (chk2 l l2) ≠ 0 := by simpa using hc4
  refine zz 12 ?_
  refine zr' (v := .tuple #[.slice none 0 0, .slice none 0 0, .int .i64 (chk2 l l2)]) ?_
  exact ⟨C3.upd, _, rfl, by rw [or2_err ht5]; exact .inl ⟨ht5, rfl⟩⟩
 have ht6 : (chk2 l l2) = 0 := by simpa using hc4
 obtain ⟨⟨hl1, c1⟩, hl2, c2⟩ := chk2_ok ht6
 refine zz 9 ?_
 refine zb 15 (b := ((l2.length : Int) == 0)) (fun hc7 => ?_) (fun hc7 => ?_)
 ·
  have ht8 : (l2.length : Int) = 0 := by simpa using hc7
  have hz : val l2 = 0 := by rw [List.eq_nil_of_length_eq_zero (by omega : l2.length = 0)]; rfl
  refine zz 11 ?_
  refine zr' (v := .tuple #[.slice none 0 0, .slice none 0 0, .int .i64 14]) ?_
  exact ⟨C3.upd, _, rfl, by rw [or2_ok ht6, zeroE, if_pos hz]; exact .inl ⟨by decide, rfl⟩⟩
 have ht9 : (l2.length : Int) ≠ 0 := by simpa using hc7
 have hp : 0 < val l2 := canon_pos c2 (by rintro rfl; simp at ht9)
 refine zz 8 ?_
 refine zc C3 (divide_c _ X0 (X0_lt _) _ _ _ l ((h.mono j3).mono Le.x0) _ _ _ l2 ((h2.mono j3).mono Le.x0) c1 c2 (by omega) (by omega) hp) ?_
 rintro v11 w11 C11 j11 hu11 ⟨u11, v211, lq11, lr11, adq11, lenq11, capq11, adr11, lenr11, capr11, rfl, hq11, hr11⟩
 obtain rfl := hq11.own.hv; obtain rfl := hr11.own.hv
 refine zz 17 ?_
 refine zr' (v := .tuple #[.slice adq11 lenq11 capq11, .slice adr11 lenr11 capr11, .int .i64 0]) ?_
 have hsz := (C3).upd.size
 exact ⟨C11.upd, _, rfl, by rw [or2_ok ht6, zeroE, if_neg (by omega)]; exact .inr ⟨rfl, _, _, _, _, _, _, _, _, _, _, rfl, hq11.back hsz, Nat.le_trans (canon_len h.hlt hq11.canon (by rw [hq11.val]; exact Nat.div_le_self _ _)) hl1, hr11.back hsz, Nat.le_trans (canon_len h.hlt hr11.canon (by rw [hr11.val]; exact Nat.mod_le _ _)) hl1⟩⟩
end Go.Proofs.YtppalofalmieaaaGreat
namespace Go.Proofs.YtppalofalmieaaaGreat
open Go Go.Gv Go.RowKit
set_option maxRecDepth 100000
set_option maxHeartbeats 1000000
theorem chk2_of {l l2 : List Nat} (h : l.length ≤ 512) (hc : Canon l) (h2 : l2.length ≤ 512) (hc2 : Canon l2) : chk2 l l2 = 0 := by
  unfold chk2; rw [chkN_of h hc, chkN_of h2 hc2]; rfl
theorem Mul_n (w : World) (ad : Option Addr) (len cap x : Nat) (h : NatR (rd w X0) ad len cap x) (ad2 : Option Addr) (len2 cap2 y : Nat) (h2 : NatR (rd w X0) ad2 len2 cap2 y) (hx : x < 4294967296 ^ 512) (hy : y < 4294967296 ^ 512) (hf : x * y < 4294967296 ^ 512) : Calls Tryz.prog 154 #[.slice ad len cap, .slice ad2 len2 cap2] w (Ret E0 w fun w' v => ∃ u, v = .tuple #[u, .int .i64 0] ∧ NatV w w' u (x * y)) := by
  obtain ⟨l, hl, hc, rfl, hn⟩ := h.limbs hx
  obtain ⟨l2, hl2, hc2, rfl, hn2⟩ := h2.limbs hy
  refine (Mul_c w X0 (X0_lt _) ad len cap l hl ad2 len2 cap2 l2 hl2).mono ?_
  rintro e w' ⟨hu, v, rfl, hv⟩
  obtain ⟨u, lr, adr, lenr, capr, rfl, hown, _⟩ := hv.ok (by rw [or2_ok (chk2_of hn hc hn2 hc2)]; unfold fitE; rw [if_pos hf])
  exact ⟨hu, _, rfl, u, rfl, hown.natV⟩
theorem Add_n (w : World) (ad : Option Addr) (len cap x : Nat) (h : NatR (rd w X0) ad len cap x) (ad2 : Option Addr) (len2 cap2 y : Nat) (h2 : NatR (rd w X0) ad2 len2 cap2 y) (hx : x < 4294967296 ^ 512) (hy : y < 4294967296 ^ 512) (hf : x + y < 4294967296 ^ 512) : Calls Tryz.prog 155 #[.slice ad len cap, .slice ad2 len2 cap2] w (Ret E0 w fun w' v => ∃ u, v = .tuple #[u, .int .i64 0] ∧ NatV w w' u (x + y)) := by
  obtain ⟨l, hl, hc, rfl, hn⟩ := h.limbs hx
  obtain ⟨l2, hl2, hc2, rfl, hn2⟩ := h2.limbs hy
  refine (Add_c w X0 (X0_lt _) ad len cap l hl ad2 len2 cap2 l2 hl2).mono ?_
  rintro e w' ⟨hu, v, rfl, hv⟩
  obtain ⟨u, lr, adr, lenr, capr, rfl, hown, _⟩ := hv.ok (by rw [or2_ok (chk2_of hn hc hn2 hc2)]; unfold fitE; rw [if_pos hf])
  exact ⟨hu, _, rfl, u, rfl, hown.natV⟩
theorem Sub_n (w : World) (ad : Option Addr) (len cap x : Nat) (h : NatR (rd w X0) ad len cap x) (ad2 : Option Addr) (len2 cap2 y : Nat) (h2 : NatR (rd w X0) ad2 len2 cap2 y) (hx : x < 4294967296 ^ 512) (hy : y < 4294967296 ^ 512) (hf : y ≤ x) : Calls Tryz.prog 156 #[.slice ad len cap, .slice ad2 len2 cap2] w (Ret E0 w fun w' v => ∃ u, v = .tuple #[u, .int .i64 0] ∧ NatV w w' u (x - y)) := by
  obtain ⟨l, hl, hc, rfl, hn⟩ := h.limbs hx
  obtain ⟨l2, hl2, hc2, rfl, hn2⟩ := h2.limbs hy
  refine (Sub_c w X0 (X0_lt _) ad len cap l hl ad2 len2 cap2 l2 hl2).mono ?_
  rintro e w' ⟨hu, v, rfl, hv⟩
  obtain ⟨u, lr, adr, lenr, capr, rfl, hown, _⟩ := hv.ok (by rw [or2_ok (chk2_of hn hc hn2 hc2)]; unfold subE; rw [if_neg (by omega)])
  exact ⟨hu, _, rfl, u, rfl, hown.natV⟩
theorem Sub_less (w : World) (ad : Option Addr) (len cap x : Nat) (h : NatR (rd w X0) ad len cap x) (ad2 : Option Addr) (len2 cap2 y : Nat) (h2 : NatR (rd w X0) ad2 len2 cap2 y) (hx : x < 4294967296 ^ 512) (hy : y < 4294967296 ^ 512) (hf : x < y) : Calls Tryz.prog 156 #[.slice ad len cap, .slice ad2 len2 cap2] w (Ret E0 w fun _ v => v = .tuple #[.slice none 0 0, .int .i64 7]) := by
  obtain ⟨l, hl, hc, rfl, hn⟩ := h.limbs hx
  obtain ⟨l2, hl2, hc2, rfl, hn2⟩ := h2.limbs hy
  refine (Sub_c w X0 (X0_lt _) ad len cap l hl ad2 len2 cap2 l2 hl2).mono ?_
  rintro e w' ⟨hu, v, rfl, hv⟩
  have he : or2 (chk2 l l2) (subE (val l) (val l2)) = 7 := by rw [or2_ok (chk2_of hn hc hn2 hc2)]; unfold subE; rw [if_pos hf]
  rw [he] at hv
  exact ⟨hu, _, rfl, hv.err (by decide)⟩
theorem GCD_n (w : World) (ad : Option Addr) (len cap x : Nat) (h : NatR (rd w X0) ad len cap x) (ad2 : Option Addr) (len2 cap2 y : Nat) (h2 : NatR (rd w X0) ad2 len2 cap2 y) (hx : x < 4294967296 ^ 512) (hy : y < 4294967296 ^ 512) : Calls Tryz.prog 147 #[.slice ad len cap, .slice ad2 len2 cap2] w (Ret E0 w fun w' v => ∃ u, v = .tuple #[u, .int .i64 0] ∧ NatV w w' u (Nat.gcd x y)) := by
  obtain ⟨l, hl, hc, rfl, hn⟩ := h.limbs hx
  obtain ⟨l2, hl2, hc2, rfl, hn2⟩ := h2.limbs hy
  refine (GCD_c w X0 (X0_lt _) ad len cap l hl ad2 len2 cap2 l2 hl2).mono ?_
  rintro e w' ⟨hu, v, rfl, hv⟩
  obtain ⟨u, lr, adr, lenr, capr, rfl, hown, _⟩ := hv.ok (chk2_of hn hc hn2 hc2)
  exact ⟨hu, _, rfl, u, rfl, hown.natV⟩
theorem DivMod_n (w : World) (ad : Option Addr) (len cap x : Nat) (h : NatR (rd w X0) ad len cap x) (ad2 : Option Addr) (len2 cap2 y : Nat) (h2 : NatR (rd w X0) ad2 len2 cap2 y) (hx : x < 4294967296 ^ 512) (hy : y < 4294967296 ^ 512) (hd : 0 < y) : Calls Tryz.prog 152 #[.slice ad len cap, .slice ad2 len2 cap2] w (Ret E0 w fun w' v => ∃ u u2, v = .tuple #[u, u2, .int .i64 0] ∧ NatV w w' u (x / y) ∧ NatV w w' u2 (x % y)) := by
  obtain ⟨l, hl, hc, rfl, hn⟩ := h.limbs hx
  obtain ⟨l2, hl2, hc2, rfl, hn2⟩ := h2.limbs hy
  refine (DivMod_c w X0 (X0_lt _) ad len cap l hl ad2 len2 cap2 l2 hl2).mono ?_
  rintro e w' ⟨hu, v, rfl, hv⟩
  have he : or2 (chk2 l l2) (zeroE (val l2)) = 0 := by rw [or2_ok (chk2_of hn hc hn2 hc2)]; unfold zeroE; rw [if_neg (by omega)]
  rcases hv with ⟨h0, _⟩ | ⟨_, u, u2, a1, a2, a3, a4, a5, a6, a7, a8, rfl, hq, _, hr, _⟩
  · exact absurd he h0
  · exact ⟨hu, _, rfl, u, u2, rfl, hq.natV, hr.natV⟩
theorem clone_n (w : World) (ad : Option Addr) (len cap x : Nat) (h : NatR (rd w X0) ad len cap x) (hx : x < 4294967296 ^ 512) : Calls Tryz.prog 153 #[.slice ad len cap] w (Ret E0 w fun w' v => NatV w w' v x) := by
  obtain ⟨l, hl, hc, rfl, hn⟩ := h.limbs hx
  refine (clone_c w X0 (X0_lt _) ad len cap l hl (by rw [hl.hlen]; omega)).mono ?_
  rintro e w' ⟨hu, v, rfl, ad', len', cap', hown⟩
  exact ⟨hu, _, rfl, OwnN.natV ⟨hown, hc, rfl⟩⟩
theorem from_n (w : World) (x : Nat) (hx : x < 18446744073709551616) : Calls Tryz.prog 125 #[.int .u64 (x : Int)] w (Ret E0 w fun w' v => NatV w w' v x) := by
  refine (from_c w X0 (X0_lt _) x hx).mono ?_
  rintro e w' ⟨hu, v, rfl, l, ad, len, cap, h1, h2, h3⟩
  exact ⟨hu, _, rfl, OwnN.natV ⟨h1, h2, h3⟩⟩
end Go.Proofs.YtppalofalmieaaaGreat
namespace Go.Proofs.YtppalofalmieaaaGreat
open Go Go.Gv Go.RowKit
set_option maxRecDepth 100000
set_option maxHeartbeats 1000000
theorem times_c (w : World) (X : Hid) (hX : ∀ k o, X k o → k < w.heap.size) (ad : Option Addr) (len cap x : Nat) (h : NatR (rd w X) ad len cap x) (ad2 : Option Addr) (len2 cap2 y : Nat) (h2 : NatR (rd w X) ad2 len2 cap2 y) (hx : x < 4294967296 ^ 512) (hy : y < 4294967296 ^ 512) (hf : x * y < 4294967296 ^ 512) : Calls Tryz.prog 122 #[.slice ad len cap, .slice ad2 len2 cap2] w (Ret E0 w fun w' v => NatX X w' v (x * y)) := by
 refine zen Tryz.func122 ?_
 have C0 : St E0 w X w X [] := St.start hX
 refine zz 9 ?_
 refine zc C0 (Mul_n _ _ _ _ x (h.mono Le.x0) _ _ _ y (h2.mono Le.x0) (by first | assumption | omega) (by first | assumption | omega) (by first | assumption | omega)) ?_
 rintro v3 w3 C3 j3 hu3 ⟨u3, rfl, ⟨ad3, len3, cap3, rfl, hn3⟩⟩
 have hN3 := hn3 _ C0.lt
 refine zz 14 ?_
 refine zr' (v := .slice ad3 len3 cap3) ?_
 exact ⟨C3.upd, _, rfl, C3.lastN hN3⟩
theorem plus_c (w : World) (X : Hid) (hX : ∀ k o, X k o → k < w.heap.size) (ad : Option Addr) (len cap x : Nat) (h : NatR (rd w X) ad len cap x) (ad2 : Option Addr) (len2 cap2 y : Nat) (h2 : NatR (rd w X) ad2 len2 cap2 y) (hx : x < 4294967296 ^ 512) (hy : y < 4294967296 ^ 512) (hf : x + y < 4294967296 ^ 512) : Calls Tryz.prog 123 #[.slice ad len cap, .slice ad2 len2 cap2] w (Ret E0 w fun w' v => NatX X w' v (x + y)) := by
 refine zen Tryz.func123 ?_
 have C0 : St E0 w X w X [] := St.start hX
 refine zz 9 ?_
 refine zc C0 (Add_n _ _ _ _ x (h.mono Le.x0) _ _ _ y (h2.mono Le.x0) (by first | assumption | omega) (by first | assumption | omega) (by first | assumption | omega)) ?_
 rintro v3 w3 C3 j3 hu3 ⟨u3, rfl, ⟨ad3, len3, cap3, rfl, hn3⟩⟩
 have hN3 := hn3 _ C0.lt
 refine zz 14 ?_
 refine zr' (v := .slice ad3 len3 cap3) ?_
 exact ⟨C3.upd, _, rfl, C3.lastN hN3⟩
theorem minus_ge (w : World) (X : Hid) (hX : ∀ k o, X k o → k < w.heap.size) (ad : Option Addr) (len cap x : Nat) (h : NatR (rd w X) ad len cap x) (ad2 : Option Addr) (len2 cap2 y : Nat) (h2 : NatR (rd w X) ad2 len2 cap2 y) (hx : x < 4294967296 ^ 512) (hy : y < 4294967296 ^ 512) (hf : y ≤ x) : Calls Tryz.prog 124 #[.slice ad len cap, .slice ad2 len2 cap2] w (Ret E0 w fun w' v => ∃ u, v = .tuple #[u, .bool false] ∧ NatX X w' u (x - y)) := by
 refine zen Tryz.func124 ?_
 have C0 : St E0 w X w X [] := St.start hX
 refine zz 11 ?_
 refine zc C0 (Sub_n _ _ _ _ x (h.mono Le.x0) _ _ _ y (h2.mono Le.x0) (by first | assumption | omega) (by first | assumption | omega) (by first | assumption | omega)) ?_
 rintro v3 w3 C3 j3 hu3 ⟨u3, rfl, ⟨ad3, len3, cap3, rfl, hn3⟩⟩
 have hN3 := hn3 _ C0.lt
 refine zz 23 ?_
 refine zr' (v := .tuple #[.slice ad3 len3 cap3, .bool false]) ?_
 exact ⟨C3.upd, _, rfl, _, rfl, C3.lastN hN3⟩
theorem minus_lt (w : World) (X : Hid) (hX : ∀ k o, X k o → k < w.heap.size) (ad : Option Addr) (len cap x : Nat) (h : NatR (rd w X) ad len cap x) (ad2 : Option Addr) (len2 cap2 y : Nat) (h2 : NatR (rd w X) ad2 len2 cap2 y) (hx : x < 4294967296 ^ 512) (hy : y < 4294967296 ^ 512) (hf : x < y) : Calls Tryz.prog 124 #[.slice ad len cap, .slice ad2 len2 cap2] w (Ret E0 w fun w' v => ∃ u, v = .tuple #[u, .bool true] ∧ NatX X w' u (y - x)) := by
 refine zen Tryz.func124 ?_
 have C0 : St E0 w X w X [] := St.start hX
 refine zz 11 ?_
 refine zc C0 (Sub_less _ _ _ _ x (h.mono Le.x0) _ _ _ y (h2.mono Le.x0) (by first | assumption | omega) (by first | assumption | omega) (by first | assumption | omega)) ?_
 rintro v3 w3 C3 j3 hu3 rfl
 refine zz 20 ?_
 refine zc C3 (Sub_n _ _ _ _ y ((h2.mono j3).mono Le.x0) _ _ _ x ((h.mono j3).mono Le.x0) (by first | assumption | omega) (by first | assumption | omega) (by first | assumption | omega)) ?_
 rintro v5 w5 C5 j5 hu5 ⟨u5, rfl, ⟨ad5, len5, cap5, rfl, hn5⟩⟩
 have hN5 := hn5 _ C3.lt
 refine zz 15 ?_
 refine zr' (v := .tuple #[.slice ad5 len5 cap5, .bool true]) ?_
 exact ⟨C5.upd, _, rfl, _, rfl, C5.lastN hN5⟩
theorem minus_c (w : World) (X : Hid) (hX : ∀ k o, X k o → k < w.heap.size) (ad : Option Addr) (len cap x : Nat) (h : NatR (rd w X) ad len cap x) (ad2 : Option Addr) (len2 cap2 y : Nat) (h2 : NatR (rd w X) ad2 len2 cap2 y) (hx : x < 4294967296 ^ 512) (hy : y < 4294967296 ^ 512) : Calls Tryz.prog 124 #[.slice ad len cap, .slice ad2 len2 cap2] w (Ret E0 w fun w' v => ∃ u, v = .tuple #[u, .bool (decide (x < y))] ∧ NatX X w' u (if x < y then y - x else x - y)) := by
  by_cases hf : x < y
  · rw [if_pos hf, decide_eq_true hf]; exact minus_lt w X hX ad len cap x h ad2 len2 cap2 y h2 hx hy hf
  · rw [if_neg hf, decide_eq_false hf]; exact minus_ge w X hX ad len cap x h ad2 len2 cap2 y h2 hx hy (by omega)
theorem unit_c (w : World) (X : Hid) (hX : ∀ k o, X k o → k < w.heap.size) (ad : Option Addr) (len cap x : Nat) (h : NatR (rd w X) ad len cap x) : Calls Tryz.prog 146 #[.slice ad len cap] w (Ret E0 w fun _ v => v = .bool (decide (x = 1))) := by
 refine zen Tryz.func146 ?_
 have C0 : St E0 w X w X [] := St.start hX
 refine zz 11 ?_
 refine zb 6 (b := ((len : Int) == 1)) (fun hc2 => ?_) (fun hc2 => ?_)
 ·
  have ht3 : (len : Int) = 1 := by simpa using hc2
  obtain ⟨bk, of, rfl, hx1, hat⟩ := h.one (by omega)
  refine zz 1 ?_
  refine zi (b := bk) (off := of) (len := len) (cap := cap) (kd := .i64) (i := 0) 1 of ?_ (hoff := kr)
  refine zl (hat).cells ?_
  refine zz 6 ?_
  refine zr' (v := .bool ((x : Int) == 1)) ?_
  exact ⟨C0.upd, _, rfl, zJ (by rw [Bool.eq_iff_iff]; simp; omega)⟩
 have ht4 : (len : Int) ≠ 1 := by simpa using hc2
 have hx1 : x ≠ 1 := fun e => by subst e; exact absurd h.of_one (by omega)
 refine zz 9 ?_
 refine zr' (v := .bool false) ?_
 exact ⟨C0.upd, _, rfl, zJ (by simp [hx1])⟩
end Go.Proofs.YtppalofalmieaaaGreat
namespace Go.Proofs.YtppalofalmieaaaGreat
open Go Go.Gv Go.RowKit
set_option maxRecDepth 100000
set_option maxHeartbeats 1000000
theorem natural_c (w : World) (X : Hid) (hX : ∀ k o, X k o → k < w.heap.size) (n : Int) (h1 : -9223372036854775808 ≤ n) (h2 : n ≤ 9223372036854775807) : Calls Tryz.prog 91 #[.int .i64 n] w (Ret E0 w fun w' v => NatX X w' v n.natAbs) := by
 refine zen Tryz.func91 ?_
 have C0 : St E0 w X w X [] := St.start hX
 refine zz 12 ?_
 refine zt 4 (p := (n) < 0) (fun ht2 => ?_) (fun ht2 => ?_)
 ·
  refine zz 5 ?_
  refine zs 6 (v := .int .u64 (IntKind.u64.wrap (n))) (v' := .int .u64 (n + 18446744073709551616)) (vint (by rw [wrap_u64]; omega)) ?_
  refine zz 1 ?_
  refine zs 7 (v := .int .u64 (IntKind.u64.wrap ((0 : Int) - (n + 18446744073709551616)))) (v' := .int .u64 ((n.natAbs : Nat) : Int)) (vint (by rw [wrap_u64]; omega)) ?_
  refine zc C0 (from_n _ n.natAbs (by omega)) ?_
  rintro v4 w4 C4 j4 hu4 ⟨ad4, len4, cap4, rfl, hn4⟩
  have hN4 := hn4 _ C0.lt
  refine zz 5 ?_
  refine zr' (v := .slice ad4 len4 cap4) ?_
  exact ⟨C4.upd, _, rfl, C4.lastN hN4⟩
 refine zz 7 ?_
 refine zs 10 (v := .int .u64 (IntKind.u64.wrap (n))) (v' := .int .u64 ((n.natAbs : Nat) : Int)) (vint (by rw [wrap_u64]; omega)) ?_
 refine zc C0 (from_n _ n.natAbs (by omega)) ?_
 rintro v6 w6 C6 j6 hu6 ⟨ad6, len6, cap6, rfl, hn6⟩
 have hN6 := hn6 _ C0.lt
 refine zz 4 ?_
 refine zr' (v := .slice ad6 len6 cap6) ?_
 exact ⟨C6.upd, _, rfl, C6.lastN hN6⟩
theorem lowest_c (w : World) (X : Hid) (hX : ∀ k o, X k o → k < w.heap.size) (ad : Option Addr) (len cap x : Nat) (h : NatR (rd w X) ad len cap x) (ad2 : Option Addr) (len2 cap2 y : Nat) (h2 : NatR (rd w X) ad2 len2 cap2 y) (sg : Bool) (hx : x < 4294967296 ^ 512) (hy : y < 4294967296 ^ 512) (hd : 0 < y) : Calls Tryz.prog 121 #[.agg #[.slice ad len cap, .slice ad2 len2 cap2, .bool sg]] w (Ret E0 w fun w' v => RatX (old w) w' v (mkRat (sgn sg x) y)) := by
 refine zen Tryz.func121 ?_
 have C0 : St E0 w X w X [] := St.start hX
 refine zz 2 ?_
 refine zn pn (.cells #[.slice ad len cap, .slice ad2 len2 cap2, .bool sg] 160 (0, 0)) C0 ?_
 intro b3 w3 Y3 C3 j3 hu3
 refine zn pn (.cells #[.bool false, .slice none 0 0, .slice none 0 0] 28 (0, 0)) C3 ?_
 intro b5 w5 Y5 C5 j5 hu5
 refine zz 7 ?_
 refine zo 1 C5 ?_
 refine zz 4 ?_
 refine zb 10 (b := ((len : Int) == 0)) (fun hc6 => ?_) (fun hc6 => ?_)
 ·
  have ht7 : (len : Int) = 0 := by simpa using hc6
  have hx0 : x = 0 := h.len0.1 (by omega)
  refine zz 4 ?_
  refine zx 0 #[.bool false, .slice none 0 0, .slice none 0 0] C5 ?_
  intro w8 C8 j8
  refine zz 4 ?_
  refine zrS [.cell 2 28] (v := .agg #[.bool false, .slice none 0 0, .slice none 0 0]) (Res.cM C8 0 Res.nil) ?_
  exact ⟨C8.upd, _, rfl, by rw [hx0]; exact zero_rat y⟩
 have ht9 : (len : Int) ≠ 0 := by simpa using hc6
 have hx0 : x ≠ 0 := fun e => absurd (h.len0.2 e) (by omega)
 have hgp : 0 < Nat.gcd x y := Nat.gcd_pos_of_pos_right _ hd
 have hgb : Nat.gcd x y < 4294967296 ^ 512 := Nat.lt_of_le_of_lt (Nat.gcd_le_right _ hd) hy
 have hb1 : x / Nat.gcd x y < 4294967296 ^ 512 := Nat.lt_of_le_of_lt (Nat.div_le_self _ _) hx
 have hb2 : y / Nat.gcd x y < 4294967296 ^ 512 := Nat.lt_of_le_of_lt (Nat.div_le_self _ _) hy
 refine zz 8 ?_
 refine zo 1 C5 ?_
 refine zz 2 ?_
 refine zo 1 C5 ?_
 refine zc C5 (GCD_n _ _ _ _ x ((h.mono (Le2 j3 j5)).mono Le.x0) _ _ _ y ((h2.mono (Le2 j3 j5)).mono Le.x0) (by first | assumption | omega) (by first | assumption | omega)) ?_
 rintro v11 w11 C11 j11 hu11 ⟨u11, rfl, ⟨ad11, len11, cap11, rfl, hn11⟩⟩
 have hN11 := hn11 _ C5.lt
 refine zz 10 ?_
 refine zc C11 (unit_c _ _ C11.lt _ _ _ (Nat.gcd x y) hN11) ?_
 rintro v13 w13 C13 j13 hu13 rfl
 refine zz 3 ?_
 refine zb 24 (b := !(decide (Nat.gcd x y = 1))) (fun hc14 => ?_) (fun hc14 => ?_)
 ·
  have ht15 : ¬ (Nat.gcd x y = 1) := by simpa using hc14
  refine zz 5 ?_
  refine zo 1 C13 ?_
  refine zz 1 ?_
  have hc1_ := (Le3 j3 j5 j11).trans j13
  refine zc C13 (DivMod_n _ _ _ _ x ((h.mono hc1_).mono Le.x0) _ _ _ (Nat.gcd x y) ((hN11.mono j13).mono Le.x0) (by first | assumption | omega) (by first | assumption | omega) (by assumption)) ?_
  rintro v17 w17 C17 j17 hu17 ⟨u17, v217, rfl, ⟨ad17, len17, cap17, rfl, hn17⟩, ⟨ae17, le17, ce17, rfl, hm17⟩⟩
  have hN17 := hn17 _ C13.lt
  refine zz 6 ?_
  refine zx 1 #[.slice ad17 len17 cap17, .slice ad2 len2 cap2, .bool sg] C17 ?_
  intro w18 C18 j18
  refine zz 5 ?_
  refine zo 1 C18 ?_
  refine zz 1 ?_
  have hc2_ := (hc1_.trans j17).trans j18
  refine zc C18 (DivMod_n _ _ _ _ y ((h2.mono hc2_).mono Le.x0) _ _ _ (Nat.gcd x y) ((hN11.mono (Le3 j13 j17 j18)).mono Le.x0) (by first | assumption | omega) (by first | assumption | omega) (by assumption)) ?_
  rintro v20 w20 C20 j20 hu20 ⟨u20, v220, rfl, ⟨ad20, len20, cap20, rfl, hn20⟩, ⟨ae20, le20, ce20, rfl, hm20⟩⟩
  have hN20 := hn20 _ C18.lt
  refine zz 6 ?_
  refine zx 1 #[.slice ad17 len17 cap17, .slice ad20 len20 cap20, .bool sg] C20 ?_
  intro w21 C21 j21
  refine zz 3 ?_
  refine zdr C21 ?_
  refine gz [0] ?_
  refine gw 1 1 ?_
  refine gz [2, 3] ?_
  refine gw 4 1 ?_
  refine gp (al 7 5 pn (.cells #[.bool false, .slice none 0 0, .slice none 0 0] 28 (0, 0))) ?_
  have hc3_ := (Le2 j18 j20).trans j21
  refine gC 5 (fun w22 Y22 _ C22 j22 => (clone_n _ _ _ _ (x / (Nat.gcd x y)) ((hN17.mono (hc3_.trans j22)).mono Le.x0) (by first | assumption | omega))) ?_ (hPd := PdOk.nil.k)
  rintro v23 w22 Y23 w23 C22 j23 ⟨ad23, len23, cap23, rfl, hn23⟩
  have hN23 := hn23 _ C22.lt
  refine gz [6] ?_
  refine gs1 (fun b24 => ?_) PdOk.nil.k
  refine gX 8 0 #[.bool sg, .slice ad23 len23 cap23, .slice none 0 0] ?_
  intro w25 Y25 j25
  refine gend (fun w26 Y26 C26 j26 => ?_)
  refine zz 6 ?_
  refine zo 2 C26 ?_
  have hc4_ := (Le3 j21 j23 j25).trans j26
  refine zc C26 (unit_c _ _ C26.lt _ _ _ (y / (Nat.gcd x y)) (hN20.mono hc4_)) ?_
  rintro v28 w28 C28 j28 hu28 rfl
  refine zz 3 ?_
  refine zb 58 (b := !(decide (y / (Nat.gcd x y) = 1))) (fun hc29 => ?_) (fun hc29 => ?_)
  ·
   have ht30 : ¬ (y / (Nat.gcd x y) = 1) := by simpa using hc29
   refine zz 4 ?_
   refine zo 2 C28 ?_
   have hc5_ := hc4_.trans j28
   refine zc C28 (clone_n _ _ _ _ (y / (Nat.gcd x y)) ((hN20.mono hc5_).mono Le.x0) (by first | assumption | omega)) ?_
   rintro v32 w32 C32 j32 hu32 ⟨ad32, len32, cap32, rfl, hn32⟩
   have hN32 := hn32 _ C28.lt
   refine zz 1 ?_
   refine zx 0 #[.bool sg, .slice ad23 len23 cap23, .slice ad32 len32 cap32] C32 ?_
   intro w33 C33 j33
   refine zz 4 ?_
   refine zo 0 C33 ?_
   refine zx 1 #[.bool sg, .slice ad23 len23 cap23, .slice ad32 len32 cap32] C33 ?_
   intro w34 C34 j34
   refine zz 3 ?_
   refine zrS [.cell 2 28] (v := .agg #[.bool sg, .slice ad23 len23 cap23, .slice ad32 len32 cap32]) (Res.cM C34 1 Res.nil) ?_
   have hc6_ := (Le5 j25 j26 j28 j32 j33).trans j34
   refine ⟨C34.upd, _, rfl, low_rat hx0 hd (by exact (((hn23 (old _) (fun _ _ h => h)).mono (Le.own C22.lt C22.upd.size hc6_)).mono Le.orr)) ?_⟩
   rw [den1, if_neg ht30]; exact (((hn32 (old _) (fun _ _ h => h)).mono (Le.own C28.lt C28.upd.size (Le2 j33 j34))).mono Le.orr)
  have ht35 : y / (Nat.gcd x y) = 1 := by simpa using hc29
  refine zz 5 ?_
  refine zo 0 C28 ?_
  refine zx 1 #[.bool sg, .slice ad23 len23 cap23, .slice none 0 0] C28 ?_
  intro w36 C36 j36
  refine zz 3 ?_
  refine zrS [.cell 2 28] (v := .agg #[.bool sg, .slice ad23 len23 cap23, .slice none 0 0]) (Res.cM C36 1 Res.nil) ?_
  have hc7_ := (Le3 j25 j26 j28).trans j36
  refine ⟨C36.upd, _, rfl, low_rat hx0 hd (by exact (((hn23 (old _) (fun _ _ h => h)).mono (Le.own C22.lt C22.upd.size hc7_)).mono Le.orr)) ?_⟩
  rw [den1, if_pos ht35]; exact (NatR.nil none (by omega))
 have ht37 : Nat.gcd x y = 1 := by simpa using hc14
 refine zz 4 ?_
 refine zdr C13 ?_
 refine gz [0] ?_
 refine gw 1 1 ?_
 refine gz [2, 3] ?_
 refine gw 4 1 ?_
 refine gp (al 7 5 pn (.cells #[.bool false, .slice none 0 0, .slice none 0 0] 28 (0, 0))) ?_
 have hc8_ := (Le3 j3 j5 j11).trans j13
 refine gC 5 (fun w38 Y38 _ C38 j38 => (clone_n _ _ _ _ x ((h.mono (hc8_.trans j38)).mono Le.x0) (by first | assumption | omega))) ?_ (hPd := PdOk.nil.k)
 rintro v39 w38 Y39 w39 C38 j39 ⟨ad39, len39, cap39, rfl, hn39⟩
 have hN39 := hn39 _ C38.lt
 refine gz [6] ?_
 refine gs1 (fun b40 => ?_) PdOk.nil.k
 refine gX 8 0 #[.bool sg, .slice ad39 len39 cap39, .slice none 0 0] ?_
 intro w41 Y41 j41
 refine gend (fun w42 Y42 C42 j42 => ?_)
 refine zz 6 ?_
 refine zo 2 C42 ?_
 have hc9_ := ((hc8_.trans j39).trans j41).trans j42
 refine zc C42 (unit_c _ _ C42.lt _ _ _ y (h2.mono hc9_)) ?_
 rintro v44 w44 C44 j44 hu44 rfl
 refine zz 3 ?_
 refine zb 58 (b := !(decide (y = 1))) (fun hc45 => ?_) (fun hc45 => ?_)
 ·
  have ht46 : ¬ (y = 1) := by simpa using hc45
  refine zz 4 ?_
  refine zo 2 C44 ?_
  have hc10_ := hc9_.trans j44
  refine zc C44 (clone_n _ _ _ _ y ((h2.mono hc10_).mono Le.x0) (by first | assumption | omega)) ?_
  rintro v48 w48 C48 j48 hu48 ⟨ad48, len48, cap48, rfl, hn48⟩
  have hN48 := hn48 _ C44.lt
  refine zz 1 ?_
  refine zx 0 #[.bool sg, .slice ad39 len39 cap39, .slice ad48 len48 cap48] C48 ?_
  intro w49 C49 j49
  refine zz 4 ?_
  refine zo 0 C49 ?_
  refine zx 1 #[.bool sg, .slice ad39 len39 cap39, .slice ad48 len48 cap48] C49 ?_
  intro w50 C50 j50
  refine zz 3 ?_
  refine zrS [.cell 2 28] (v := .agg #[.bool sg, .slice ad39 len39 cap39, .slice ad48 len48 cap48]) (Res.cM C50 1 Res.nil) ?_
  have hc11_ := (Le5 j41 j42 j44 j48 j49).trans j50
  refine ⟨C50.upd, _, rfl, low_rat hx0 hd (by rw [ht37, Nat.div_one]; exact (((hn39 (old _) (fun _ _ h => h)).mono (Le.own C38.lt C38.upd.size hc11_)).mono Le.orr)) ?_⟩
  rw [ht37, Nat.div_one]
  rw [den1, if_neg ht46]; exact (((hn48 (old _) (fun _ _ h => h)).mono (Le.own C44.lt C44.upd.size (Le2 j49 j50))).mono Le.orr)
 have ht51 : y = 1 := by simpa using hc45
 refine zz 5 ?_
 refine zo 0 C44 ?_
 refine zx 1 #[.bool sg, .slice ad39 len39 cap39, .slice none 0 0] C44 ?_
 intro w52 C52 j52
 refine zz 3 ?_
 refine zrS [.cell 2 28] (v := .agg #[.bool sg, .slice ad39 len39 cap39, .slice none 0 0]) (Res.cM C52 1 Res.nil) ?_
 have hc12_ := (Le3 j41 j42 j44).trans j52
 refine ⟨C52.upd, _, rfl, low_rat hx0 hd (by rw [ht37, Nat.div_one]; exact (((hn39 (old _) (fun _ _ h => h)).mono (Le.own C38.lt C38.upd.size hc12_)).mono Le.orr)) ?_⟩
 rw [ht37, Nat.div_one]
 rw [den1, if_pos ht51]; exact (NatR.nil none (by omega))
end Go.Proofs.YtppalofalmieaaaGreat
namespace Go.Proofs.YtppalofalmieaaaGreat
open Go Go.Gv Go.RowKit
set_option maxRecDepth 100000
set_option maxHeartbeats 1000000
theorem of_c (w : World) (X : Hid) (hX : ∀ k o, X k o → k < w.heap.size) (sg : Bool) (ad : Option Addr) (len cap x : Nat) (h : NatR (rd w X) ad len cap x) (ad2 : Option Addr) (len2 cap2 y : Nat) (h2 : NatR (rd w X) ad2 len2 cap2 y) : Calls Tryz.prog 120 #[.agg #[.bool sg, .slice ad len cap, .slice ad2 len2 cap2]] w (Ret E0 w fun w' v => ValX X w' v sg x (if y = 0 then 1 else y)) := by
 refine zen Tryz.func120 ?_
 have C0 : St E0 w X w X [] := St.start hX
 refine zz 2 ?_
 refine zn pn (.cells #[.bool sg, .slice ad len cap, .slice ad2 len2 cap2] 28 (0, 0)) C0 ?_
 intro b3 w3 Y3 C3 j3 hu3
 refine zn pn (.cells #[.slice none 0 0, .slice none 0 0, .bool false] 160 (0, 0)) C3 ?_
 intro b5 w5 Y5 C5 j5 hu5
 refine zz 5 ?_
 refine zo 1 C5 ?_
 refine zz 1 ?_
 refine zo 1 C5 ?_
 refine zz 2 ?_
 refine zo 1 C5 ?_
 refine zz 1 ?_
 refine zn pn (.cells #[.slice none 0 0, .slice none 0 0, .bool false] 160 (0, 0)) C5 ?_
 intro b7 w7 Y7 C7 j7 hu7
 refine zx 0 #[.slice ad len cap, .slice ad2 len2 cap2, .bool sg] C7 ?_
 intro w8 C8 j8
 refine zz 7 ?_
 refine zo 0 C8 ?_
 refine zz 4 ?_
 refine zb 16 (b := ((len2 : Int) == 0)) (fun hc9 => ?_) (fun hc9 => ?_)
 ·
  have ht10 : (len2 : Int) = 0 := by simpa using hc9
  have hy0 : y = 0 := h2.len0.1 (by omega)
  refine zz 2 ?_
  refine zn (fun b => .slice (some ⟨b, 0, none⟩) 1 1) (.cells #[.int .u32 1] 56 (0, 0)) C8 ?_
  intro b12 w12 Y12 C12 j12 hu12
  refine zz 2 ?_
  refine zx 1 #[.slice ad len cap, .slice (some ⟨b12, 0, none⟩) 1 1, .bool sg] C12 ?_
  intro w13 C13 j13
  refine zz 4 ?_
  refine zo 1 C13 ?_
  refine zx 2 #[.slice ad len cap, .slice (some ⟨b12, 0, none⟩) 1 1, .bool sg] C13 ?_
  intro w14 C14 j14
  refine zz 3 ?_
  refine zrS [.cell 2 160] (v := .agg #[.slice ad len cap, .slice (some ⟨b12, 0, none⟩) 1 1, .bool sg]) (Res.cM C14 2 Res.nil) ?_
  have hc1_ := (Le6 j3 j5 j7 j8 j12 j13).trans j14
  exact ⟨C14.upd, _, rfl, _, _, _, _, _, _, rfl, (h.mono hc1_).mono C14.le, by rw [if_pos hy0]; exact one_nat (C14.rowX 0 rfl (C14.own_ge 0 rfl) (one_row rfl))⟩
 have ht15 : (len2 : Int) ≠ 0 := by simpa using hc9
 have hy0 : y ≠ 0 := fun e => absurd (h2.len0.2 e) (by omega)
 refine zz 5 ?_
 refine zo 0 C8 ?_
 refine zx 1 #[.slice ad len cap, .slice ad2 len2 cap2, .bool sg] C8 ?_
 intro w16 C16 j16
 refine zz 3 ?_
 refine zrS [.cell 2 160] (v := .agg #[.slice ad len cap, .slice ad2 len2 cap2, .bool sg]) (Res.cM C16 1 Res.nil) ?_
 have hc2_ := (Le4 j3 j5 j7 j8).trans j16
 exact ⟨C16.upd, _, rfl, _, _, _, _, _, _, rfl, (h.mono hc2_).mono C16.le, by rw [if_neg hy0]; exact (h2.mono hc2_).mono C16.le⟩
theorem sum_c (w : World) (X : Hid) (hX : ∀ k o, X k o → k < w.heap.size) (ad₁ : Option Addr) (len₁ cap₁ n₁ : Nat) (h₁ : NatR (rd w X) ad₁ len₁ cap₁ n₁) (ae₁ : Option Addr) (le₁ ce₁ d₁ : Nat) (k₁ : NatR (rd w X) ae₁ le₁ ce₁ d₁) (s₁ : Bool) (hn₁ : n₁ < K128) (hd₁ : d₁ < K128) (ad₂ : Option Addr) (len₂ cap₂ n₂ : Nat) (h₂ : NatR (rd w X) ad₂ len₂ cap₂ n₂) (ae₂ : Option Addr) (le₂ ce₂ d₂ : Nat) (k₂ : NatR (rd w X) ae₂ le₂ ce₂ d₂) (s₂ : Bool) (hn₂ : n₂ < K128) (hd₂ : d₂ < K128) : Calls Tryz.prog 89 #[.agg #[.slice ad₁ len₁ cap₁, .slice ae₁ le₁ ce₁, .bool s₁], .agg #[.slice ad₂ len₂ cap₂, .slice ae₂ le₂ ce₂, .bool s₂]] w (Ret E0 w fun w' v => ∃ s m, ValX X w' v s m (d₁ * d₂) ∧ m < 4294967296 ^ 512 ∧ sgn s m = sgn s₁ n₁ * d₂ + sgn s₂ n₂ * d₁) := by
 refine zen Tryz.func89 ?_
 have C0 : St E0 w X w X [] := St.start hX
 have hb : ∀ {x : Nat}, x < K128 → x < 4294967296 ^ 512 := fun h => Nat.lt_of_lt_of_le h k512
 have hbn1 := hb hn₁
 have hbn2 := hb hn₂
 have hbd1 := hb hd₁
 have hbd2 := hb hd₂
 obtain ⟨hp1, hp12⟩ := prod512 hn₁ hd₂ hn₂ hd₁
 have hp2 := (prod512 hn₂ hd₁ hn₁ hd₂).1
 have hpd := (prod512 hd₁ hd₂ hd₁ hd₂).1
 have hpn := (prod512 hn₁ hn₂ hd₁ hd₂).1
 refine zz 2 ?_
 refine zn pn (.cells #[.slice ad₁ len₁ cap₁, .slice ae₁ le₁ ce₁, .bool s₁] 160 (0, 0)) C0 ?_
 intro b3 w3 Y3 C3 j3 hu3
 refine zn pn (.cells #[.slice ad₂ len₂ cap₂, .slice ae₂ le₂ ce₂, .bool s₂] 160 (0, 0)) C3 ?_
 intro b5 w5 Y5 C5 j5 hu5
 refine zn pn (.cells #[.slice none 0 0, .slice none 0 0, .bool false] 160 (0, 0)) C5 ?_
 intro b7 w7 Y7 C7 j7 hu7
 refine zz 3 ?_
 refine zdr C7 ?_
 refine gz [0, 1] ?_
 refine gw 2 2 ?_
 refine gz [3, 4] ?_
 refine gw 5 1 ?_
 refine gz [7, 8] ?_
 refine gw 9 1 ?_
 refine gz [10, 11] ?_
 refine gw 12 2 ?_
 have hc1_ := (Le2 j3 j5).trans j7
 refine gC 6 (fun w8 Y8 _ C8 j8 => (times_c _ _ C8.lt _ _ _ n₁ (h₁.mono (hc1_.trans j8)) _ _ _ d₂ (k₂.mono (hc1_.trans j8)) (by first | assumption | omega) (by first | assumption | omega) (by first | assumption | omega))) ?_
 rintro v9 w8 Y9 w9 C8 j9 ⟨ad9, len9, cap9, rfl, hN9⟩
 have hc2_ := hc1_.trans j9
 refine gC 13 (fun w10 Y10 _ C10 j10 => (times_c _ _ C10.lt _ _ _ n₂ (h₂.mono (hc2_.trans j10)) _ _ _ d₁ (k₁.mono (hc2_.trans j10)) (by first | assumption | omega) (by first | assumption | omega) (by first | assumption | omega))) ?_
 rintro v11 w10 Y11 w11 C10 j11 ⟨ad11, len11, cap11, rfl, hN11⟩
 refine gz [14, 15] ?_
 refine gend (fun w12 Y12 C12 j12 => ?_)
 refine zz 2 ?_
 refine zdr C12 ?_
 refine gz [0, 1] ?_
 refine gw 2 2 ?_
 refine gz [3, 4] ?_
 refine gw 5 1 ?_
 refine gz [8] ?_
 refine gw 9 2 ?_
 refine gp (al 11 7 pn (.cells #[.slice none 0 0, .slice none 0 0, .bool false] 160 (0, 0))) ?_
 have hc3_ := (hc2_.trans j11).trans j12
 refine gC 6 (fun w13 Y13 _ C13 j13 => (times_c _ _ C13.lt _ _ _ d₁ (k₁.mono (hc3_.trans j13)) _ _ _ d₂ (k₂.mono (hc3_.trans j13)) (by first | assumption | omega) (by first | assumption | omega) (by first | assumption | omega))) ?_ (hPd := PdOk.nil.k)
 rintro v14 w13 Y14 w14 C13 j14 ⟨ad14, len14, cap14, rfl, hN14⟩
 refine gz [7, 10] ?_
 refine gs1 (fun b15 => ?_) PdOk.nil.k
 refine gX 12 0 #[.slice none 0 0, .slice ad14 len14 cap14, .bool s₁] ?_
 intro w16 Y16 j16
 refine gend (fun w17 Y17 C17 j17 => ?_)
 refine zz 5 ?_
 refine zo 3 C17 ?_
 refine zz 1 ?_
 refine zo 2 C17 ?_
 refine zz 3 ?_
 refine zb 38 (b := (s₁ == s₂)) (fun hc18 => ?_) (fun hc18 => ?_)
 ·
  have ht19 : s₁ = s₂ := by simpa using hc18
  refine zz 5 ?_
  have hc4_ := (Le4 j11 j12 j14 j16).trans j17
  have hc5_ := (Le3 j12 j14 j16).trans j17
  refine zc C17 (plus_c _ _ C17.lt _ _ _ (n₁ * d₂) (hN9.mono hc4_) _ _ _ (n₂ * d₁) (hN11.mono hc5_) (by first | assumption | omega) (by first | assumption | omega) (by first | assumption | omega)) ?_
  rintro v21 w21 C21 j21 hu21 ⟨ad21, len21, cap21, rfl, hN21⟩
  refine zz 2 ?_
  refine zx 0 #[.slice ad21 len21 cap21, .slice ad14 len14 cap14, .bool s₁] C21 ?_
  intro w22 C22 j22
  refine zz 4 ?_
  refine zo 0 C22 ?_
  refine zx 1 #[.slice ad21 len21 cap21, .slice ad14 len14 cap14, .bool s₁] C22 ?_
  intro w23 C23 j23
  refine zz 4 ?_
  refine zrS [.cell 4 160] (v := .agg #[.slice ad21 len21 cap21, .slice ad14 len14 cap14, .bool s₁]) (Res.cM C23 1 Res.nil) ?_
  have hc6_ := (Le4 j16 j17 j21 j22).trans j23
  have hx9 := (hN21.mono (Le2 j22 j23))
  exact ⟨C23.upd, _, rfl, _, _, ⟨_, _, _, _, _, _, rfl, hx9.mono C23.le, (hN14.mono hc6_).mono C23.le⟩, hp12, sum_same ht19 _ _ _ _⟩
 have ht24 : s₁ ≠ s₂ := by simpa using hc18
 refine zz 13 ?_
 have hc7_ := (Le4 j11 j12 j14 j16).trans j17
 have hc8_ := (Le3 j12 j14 j16).trans j17
 refine zc C17 (minus_c _ _ C17.lt _ _ _ (n₁ * d₂) (hN9.mono hc7_) _ _ _ (n₂ * d₁) (hN11.mono hc8_) (by first | assumption | omega) (by first | assumption | omega)) ?_
 rintro v26 w26 C26 j26 hu26 ⟨u26, rfl, ⟨ad26, len26, cap26, rfl, hN26⟩⟩
 refine zz 5 ?_
 refine zx 0 #[.slice ad26 len26 cap26, .slice ad14 len14 cap14, .bool s₁] C26 ?_
 intro w27 C27 j27
 refine zz 8 ?_
 refine zt 53 (p := (n₁ * d₂) < (n₂ * d₁)) (fun ht28 => ?_) (fun ht28 => ?_)
 ·
  refine zz 3 ?_
  refine zo 2 C27 ?_
  refine zz 1 ?_
  refine zx 0 #[.slice ad26 len26 cap26, .slice ad14 len14 cap14, .bool s₂] C27 ?_
  intro w29 C29 j29
  refine zz 4 ?_
  refine zo 0 C29 ?_
  refine zx 1 #[.slice ad26 len26 cap26, .slice ad14 len14 cap14, .bool s₂] C29 ?_
  intro w30 C30 j30
  refine zz 3 ?_
  refine zrS [.cell 4 160] (v := .agg #[.slice ad26 len26 cap26, .slice ad14 len14 cap14, .bool s₂]) (Res.cM C30 1 Res.nil) ?_
  have hc9_ := (Le5 j16 j17 j26 j27 j29).trans j30
  have hx9 := (hN26.mono (Le3 j27 j29 j30))
  rw [if_pos ht28] at hx9
  exact ⟨C30.upd, _, rfl, _, _, ⟨_, _, _, _, _, _, rfl, hx9.mono C30.le, (hN14.mono hc9_).mono C30.le⟩, Nat.lt_of_le_of_lt (Nat.sub_le _ _) hp2, sum_lt ht24 ht28⟩
 refine zz 5 ?_
 refine zo 0 C27 ?_
 refine zx 1 #[.slice ad26 len26 cap26, .slice ad14 len14 cap14, .bool s₁] C27 ?_
 intro w31 C31 j31
 refine zz 3 ?_
 refine zrS [.cell 4 160] (v := .agg #[.slice ad26 len26 cap26, .slice ad14 len14 cap14, .bool s₁]) (Res.cM C31 1 Res.nil) ?_
 have hc10_ := (Le4 j16 j17 j26 j27).trans j31
 have hx9 := (hN26.mono (Le2 j27 j31))
 rw [if_neg ht28] at hx9
 exact ⟨C31.upd, _, rfl, _, _, ⟨_, _, _, _, _, _, rfl, hx9.mono C31.le, (hN14.mono hc10_).mono C31.le⟩, Nat.lt_of_le_of_lt (Nat.sub_le _ _) hp1, sum_ge ht24 (by omega)⟩
theorem product_c (w : World) (X : Hid) (hX : ∀ k o, X k o → k < w.heap.size) (ad₁ : Option Addr) (len₁ cap₁ n₁ : Nat) (h₁ : NatR (rd w X) ad₁ len₁ cap₁ n₁) (ae₁ : Option Addr) (le₁ ce₁ d₁ : Nat) (k₁ : NatR (rd w X) ae₁ le₁ ce₁ d₁) (s₁ : Bool) (hn₁ : n₁ < K128) (hd₁ : d₁ < K128) (ad₂ : Option Addr) (len₂ cap₂ n₂ : Nat) (h₂ : NatR (rd w X) ad₂ len₂ cap₂ n₂) (ae₂ : Option Addr) (le₂ ce₂ d₂ : Nat) (k₂ : NatR (rd w X) ae₂ le₂ ce₂ d₂) (s₂ : Bool) (hn₂ : n₂ < K128) (hd₂ : d₂ < K128) : Calls Tryz.prog 90 #[.agg #[.slice ad₁ len₁ cap₁, .slice ae₁ le₁ ce₁, .bool s₁], .agg #[.slice ad₂ len₂ cap₂, .slice ae₂ le₂ ce₂, .bool s₂]] w (Ret E0 w fun w' v => ∃ s m, ValX X w' v s m (d₁ * d₂) ∧ m < 4294967296 ^ 512 ∧ sgn s m = sgn s₁ n₁ * sgn s₂ n₂) := by
 refine zen Tryz.func90 ?_
 have C0 : St E0 w X w X [] := St.start hX
 have hb : ∀ {x : Nat}, x < K128 → x < 4294967296 ^ 512 := fun h => Nat.lt_of_lt_of_le h k512
 have hbn1 := hb hn₁
 have hbn2 := hb hn₂
 have hbd1 := hb hd₁
 have hbd2 := hb hd₂
 obtain ⟨hp1, hp12⟩ := prod512 hn₁ hd₂ hn₂ hd₁
 have hp2 := (prod512 hn₂ hd₁ hn₁ hd₂).1
 have hpd := (prod512 hd₁ hd₂ hd₁ hd₂).1
 have hpn := (prod512 hn₁ hn₂ hd₁ hd₂).1
 refine zz 2 ?_
 refine zn pn (.cells #[.slice ad₁ len₁ cap₁, .slice ae₁ le₁ ce₁, .bool s₁] 160 (0, 0)) C0 ?_
 intro b3 w3 Y3 C3 j3 hu3
 refine zn pn (.cells #[.slice ad₂ len₂ cap₂, .slice ae₂ le₂ ce₂, .bool s₂] 160 (0, 0)) C3 ?_
 intro b5 w5 Y5 C5 j5 hu5
 refine zn pn (.cells #[.slice none 0 0, .slice none 0 0, .bool false] 160 (0, 0)) C5 ?_
 intro b7 w7 Y7 C7 j7 hu7
 refine zz 3 ?_
 refine zdr C7 ?_
 refine gz [0, 1] ?_
 refine gw 2 2 ?_
 refine gz [3, 4] ?_
 refine gw 5 1 ?_
 refine gz [7, 8] ?_
 refine gw 9 2 ?_
 refine gz [10, 11] ?_
 refine gw 12 1 ?_
 refine gz [15] ?_
 refine gw 16 2 ?_
 refine gz [17] ?_
 refine gw 18 1 ?_
 refine gz [19] ?_
 have hc1_ := (Le2 j3 j5).trans j7
 refine gC 6 (fun w8 Y8 _ C8 j8 => (times_c _ _ C8.lt _ _ _ n₁ (h₁.mono (hc1_.trans j8)) _ _ _ n₂ (h₂.mono (hc1_.trans j8)) (by first | assumption | omega) (by first | assumption | omega) (by first | assumption | omega))) ?_
 rintro v9 w8 Y9 w9 C8 j9 ⟨ad9, len9, cap9, rfl, hN9⟩
 have hc2_ := hc1_.trans j9
 refine gC 13 (fun w10 Y10 _ C10 j10 => (times_c _ _ C10.lt _ _ _ d₁ (k₁.mono (hc2_.trans j10)) _ _ _ d₂ (k₂.mono (hc2_.trans j10)) (by first | assumption | omega) (by first | assumption | omega) (by first | assumption | omega))) ?_
 rintro v11 w10 Y11 w11 C10 j11 ⟨ad11, len11, cap11, rfl, hN11⟩
 refine gz [14, 20] ?_
 refine gX 21 0 #[.slice ad9 len9 cap9, .slice ad11 len11 cap11, .bool (!(s₁ == s₂))] ?_
 intro w12 Y12 j12
 refine gend (fun w13 Y13 C13 j13 => ?_)
 refine zz 2 ?_
 refine zrS [.cell 4 160] (v := .agg #[.slice ad9 len9 cap9, .slice ad11 len11 cap11, .bool (!(s₁ == s₂))]) (Res.cM C13 0 Res.nil) ?_
 exact ⟨C13.upd, _, rfl, _, _, ⟨_, _, _, _, _, _, rfl, (hN9.mono (Le3 j11 j12 j13)).mono C13.le, (hN11.mono (Le2 j12 j13)).mono C13.le⟩, hpn, sgn_mul _ _ _ _⟩
end Go.Proofs.YtppalofalmieaaaGreat
namespace Go.Proofs.YtppalofalmieaaaGreat
open Go Go.Gv Go.RowKit
set_option maxRecDepth 100000
set_option maxHeartbeats 1000000
theorem chk_4 {a : Raw} (h : 128 < a.ln.length ∨ 128 < a.ld.length) : a.chk = 4 := if_pos h
theorem chk_2 {a : Raw} (h : ¬ (128 < a.ln.length ∨ 128 < a.ld.length)) (h2 : chkN a.ln ≠ 0 ∨ chkN a.ld ≠ 0 ∨ val a.ld = 1 ∨ (val a.ln = 0 ∧ (a.neg = true ∨ 0 < val a.ld))) : a.chk = 2 := (if_neg h).trans (if_pos h2)
theorem chk_g {a : Raw} (h : ¬ (128 < a.ln.length ∨ 128 < a.ld.length)) (h2 : ¬ (chkN a.ln ≠ 0 ∨ chkN a.ld ≠ 0 ∨ val a.ld = 1 ∨ (val a.ln = 0 ∧ (a.neg = true ∨ 0 < val a.ld)))) (h3 : 0 < val a.ld ∧ Nat.gcd (val a.ln) (val a.ld) ≠ 1) : a.chk = 2 := (if_neg h).trans ((if_neg h2).trans (if_pos h3))
theorem chk_0 {a : Raw} (h : ¬ (128 < a.ln.length ∨ 128 < a.ld.length)) (h2 : ¬ (chkN a.ln ≠ 0 ∨ chkN a.ld ≠ 0 ∨ val a.ld = 1 ∨ (val a.ln = 0 ∧ (a.neg = true ∨ 0 < val a.ld)))) (h3 : ¬ (0 < val a.ld ∧ Nat.gcd (val a.ln) (val a.ld) ≠ 1)) : a.chk = 0 := (if_neg h).trans ((if_neg h2).trans (if_neg h3))
theorem canon_len0 {l : List Nat} (hc : Canon l) : l.length = 0 ↔ val l = 0 := by
  constructor
  · intro h; rw [List.eq_nil_of_length_eq_zero h]; rfl
  · intro h; rw [canon_zero hc h]; rfl
theorem rcheck_c (w : World) (X : Hid) (hX : ∀ k o, X k o → k < w.heap.size) (a : Raw) (ad : Option Addr) (len cap : Nat) (h : Limbs (rd w X) ad len cap a.ln) (ad2 : Option Addr) (len2 cap2 : Nat) (h2 : Limbs (rd w X) ad2 len2 cap2 a.ld) : Calls Tryz.prog 111 #[.agg #[.bool a.neg, .slice ad len cap, .slice ad2 len2 cap2]] w (Ret E0 w fun _ v => v = .int .i64 a.chk) := by
 obtain rfl := h.hlen
 obtain rfl := h2.hlen
 have hcap := h.hcap
 have hbig := h.hbig
 have hcap2 := h2.hcap
 have hbig2 := h2.hbig
 refine zen Tryz.func111 ?_
 have C0 : St E0 w X w X [] := St.start hX
 refine zz 2 ?_
 refine zn pn (.cells #[.bool a.neg, .slice ad a.ln.length cap, .slice ad2 a.ld.length cap2] 28 (0, 0)) C0 ?_
 intro b3 w3 Y3 C3 j3 hu3
 refine zz 8 ?_
 refine zo 0 C3 ?_
 refine zz 3 ?_
 refine zt 10 (p := (a.ln.length : Int) > 128) (fun ht4 => ?_) (fun ht4 => ?_)
 ·
  refine zz 17 ?_
  refine zr' (v := .int .i64 4) ?_
  exact ⟨C3.upd, _, rfl, vint (chk_4 (by omega)).symm⟩
 refine zz 1 ?_
 refine zo 0 C3 ?_
 refine zz 6 ?_
 refine zt 5 (p := (a.ld.length : Int) > 128) (fun ht5 => ?_) (fun ht5 => ?_)
 ·
  refine zz 9 ?_
  refine zr' (v := .int .i64 4) ?_
  exact ⟨C3.upd, _, rfl, vint (chk_4 (by omega)).symm⟩
 have hlong : ¬ (128 < a.ln.length ∨ 128 < a.ld.length) := by omega
 refine zz 5 ?_
 refine zo 0 C3 ?_
 refine zc C3 (bcheck _ X0 (X0_lt _) _ _ _ a.ln ((h.mono j3).mono Le.x0)) ?_
 rintro v7 w7 C7 j7 hu7 rfl
 refine zz 2 ?_
 refine zb 21 (b := ((chkN a.ln) != 0)) (fun hc8 => ?_) (fun hc8 => ?_)
 ·
  have ht9 : (chkN a.ln) ≠ 0 := by simpa using hc8
  refine zz 20 ?_
  refine zr' (v := .int .i64 2) ?_
  exact ⟨C7.upd, _, rfl, vint (chk_2 hlong (.inl ht9)).symm⟩
 have ht10 : (chkN a.ln) = 0 := by simpa using hc8
 refine zz 1 ?_
 refine zo 0 C7 ?_
 refine zc C7 (bcheck _ X0 (X0_lt _) _ _ _ a.ld ((h2.mono (Le2 j3 j7)).mono Le.x0)) ?_
 rintro v12 w12 C12 j12 hu12 rfl
 refine zz 5 ?_
 refine zb 16 (b := ((chkN a.ld) != 0)) (fun hc13 => ?_) (fun hc13 => ?_)
 ·
  have ht14 : (chkN a.ld) ≠ 0 := by simpa using hc13
  refine zz 12 ?_
  refine zr' (v := .int .i64 2) ?_
  exact ⟨C12.upd, _, rfl, vint (chk_2 hlong (.inr (.inl ht14))).symm⟩
 have ht15 : (chkN a.ld) = 0 := by simpa using hc13
 have hcn := (chkN_ok (by simpa using ht10 : chkN a.ln = 0)).2
 have hcd := (chkN_ok (by simpa using ht15 : chkN a.ld = 0)).2
 have hzn := canon_len0 hcn
 have hzd := canon_len0 hcd
 have hB : (4294967296 : Nat) ^ 128 ≤ 4294967296 ^ 512 := k512
 have hbn : val a.ln < 4294967296 ^ 512 := Nat.lt_of_lt_of_le ((canon_le_iff h.hlt hcn 128).1 (by omega)) hB
 have hbd : val a.ld < 4294967296 ^ 512 := Nat.lt_of_lt_of_le ((canon_le_iff h2.hlt hcd 128).1 (by omega)) hB
 have hNn := h.natR hcn
 have hNd := h2.natR hcd
 refine zz 4 ?_
 refine zo 0 C12 ?_
 refine zc C12 (unit_c _ _ C12.lt _ _ _ (val a.ld) (hNd.mono (Le3 j3 j7 j12))) ?_
 rintro v17 w17 C17 j17 hu17 rfl
 refine zz 3 ?_
 refine zt 16 (p := (val a.ld) = 1) (fun ht18 => ?_) (fun ht18 => ?_)
 ·
  refine zz 12 ?_
  refine zr' (v := .int .i64 2) ?_
  exact ⟨C17.upd, _, rfl, vint (chk_2 hlong (.inr (.inr (.inl (by simpa using ht18))))).symm⟩
 refine zz 3 ?_
 refine zo 0 C17 ?_
 refine zz 3 ?_
 refine zb 34 (b := ((a.ln.length : Int) == 0)) (fun hc19 => ?_) (fun hc19 => ?_)
 ·
  have ht20 : (a.ln.length : Int) = 0 := by simpa using hc19
  refine zz 1 ?_
  refine zo 0 C17 ?_
  refine zz 1 ?_
  refine zb 37 (b := a.neg) (fun hc21 => ?_) (fun hc21 => ?_)
  ·
   have ht22 : a.neg = true := by simpa using hc21
   refine zz 18 ?_
   refine zr' (v := .int .i64 2) ?_
   exact ⟨C17.upd, _, rfl, vint (chk_2 hlong (.inr (.inr (.inr ⟨by omega, .inl ht22⟩)))).symm⟩
  have ht23 : a.neg = false := by simpa using hc21
  refine zz 1 ?_
  refine zo 0 C17 ?_
  refine zz 7 ?_
  refine zt 16 (p := (a.ld.length : Int) > 0) (fun ht24 => ?_) (fun ht24 => ?_)
  ·
   refine zz 9 ?_
   refine zr' (v := .int .i64 2) ?_
   exact ⟨C17.upd, _, rfl, vint (chk_2 hlong (.inr (.inr (.inr ⟨by omega, .inr (by omega)⟩)))).symm⟩
  have hok : ¬ (chkN a.ln ≠ 0 ∨ chkN a.ld ≠ 0 ∨ val a.ld = 1 ∨ (val a.ln = 0 ∧ (a.neg = true ∨ 0 < val a.ld))) := by intro hh; rcases hh with e | e | e | ⟨e, e2⟩; exact (fun x => absurd (by simpa using ht10 : chkN a.ln = 0) x) e; exact (fun x => absurd (by simpa using ht15 : chkN a.ld = 0) x) e; exact (fun x => absurd x (by simpa using ht18)) e; rcases e2 with e2 | e2; rw [ht23] at e2; cases e2; omega
  have hz : ¬ 0 < val a.ld := by omega
  refine zz 8 ?_
  refine zo 0 C17 ?_
  refine zz 4 ?_
  refine zt 47 (p := (a.ld.length : Int) > 0) (fun ht25 => ?_) (fun ht25 => ?_)
  ·
   refine zz 4 ?_
   refine zo 0 C17 ?_
   refine zz 1 ?_
   refine zo 0 C17 ?_
   have hc1_ := (Le3 j3 j7 j12).trans j17
   refine zc C17 (GCD_n _ _ _ _ (val a.ln) ((hNn.mono hc1_).mono Le.x0) _ _ _ (val a.ld) ((hNd.mono hc1_).mono Le.x0) (by first | assumption | omega) (by first | assumption | omega)) ?_
   rintro v27 w27 C27 j27 hu27 ⟨u27, rfl, ⟨ad27, len27, cap27, rfl, hn27⟩⟩
   have hN27 := hn27 _ C17.lt
   refine zz 10 ?_
   refine zc C27 (unit_c _ _ C27.lt _ _ _ (Nat.gcd (val a.ln) (val a.ld)) hN27) ?_
   rintro v29 w29 C29 j29 hu29 rfl
   refine zz 3 ?_
   refine zb 58 (b := !(decide (Nat.gcd (val a.ln) (val a.ld) = 1))) (fun hc30 => ?_) (fun hc30 => ?_)
   ·
    have ht31 : ¬ (Nat.gcd (val a.ln) (val a.ld) = 1) := by simpa using hc30
    refine zz 8 ?_
    refine zr' (v := .int .i64 2) ?_
    exact ⟨C29.upd, _, rfl, vint (chk_g hlong hok ⟨by omega, by simpa using ht31⟩).symm⟩
   have ht32 : Nat.gcd (val a.ln) (val a.ld) = 1 := by simpa using hc30
   refine zz 9 ?_
   refine zr' (v := .int .i64 0) ?_
   exact ⟨C29.upd, _, rfl, vint (chk_0 hlong hok (fun hh => hh.2 (by simpa using ht32))).symm⟩
  refine zz 9 ?_
  refine zr' (v := .int .i64 0) ?_
  exact ⟨C17.upd, _, rfl, vint (chk_0 hlong hok (fun hh => by omega)).symm⟩
 have ht33 : (a.ln.length : Int) ≠ 0 := by simpa using hc19
 refine zz 20 ?_
 refine zo 0 C17 ?_
 refine zz 4 ?_
 refine zt 47 (p := (a.ld.length : Int) > 0) (fun ht34 => ?_) (fun ht34 => ?_)
 ·
  have hok : ¬ (chkN a.ln ≠ 0 ∨ chkN a.ld ≠ 0 ∨ val a.ld = 1 ∨ (val a.ln = 0 ∧ (a.neg = true ∨ 0 < val a.ld))) := by intro hh; rcases hh with e | e | e | ⟨e, e2⟩; exact (fun x => absurd (by simpa using ht10 : chkN a.ln = 0) x) e; exact (fun x => absurd (by simpa using ht15 : chkN a.ld = 0) x) e; exact (fun x => absurd x (by simpa using ht18)) e; omega
  refine zz 4 ?_
  refine zo 0 C17 ?_
  refine zz 1 ?_
  refine zo 0 C17 ?_
  have hc2_ := (Le3 j3 j7 j12).trans j17
  refine zc C17 (GCD_n _ _ _ _ (val a.ln) ((hNn.mono hc2_).mono Le.x0) _ _ _ (val a.ld) ((hNd.mono hc2_).mono Le.x0) (by first | assumption | omega) (by first | assumption | omega)) ?_
  rintro v36 w36 C36 j36 hu36 ⟨u36, rfl, ⟨ad36, len36, cap36, rfl, hn36⟩⟩
  have hN36 := hn36 _ C17.lt
  refine zz 10 ?_
  refine zc C36 (unit_c _ _ C36.lt _ _ _ (Nat.gcd (val a.ln) (val a.ld)) hN36) ?_
  rintro v38 w38 C38 j38 hu38 rfl
  refine zz 3 ?_
  refine zb 58 (b := !(decide (Nat.gcd (val a.ln) (val a.ld) = 1))) (fun hc39 => ?_) (fun hc39 => ?_)
  ·
   have ht40 : ¬ (Nat.gcd (val a.ln) (val a.ld) = 1) := by simpa using hc39
   refine zz 8 ?_
   refine zr' (v := .int .i64 2) ?_
   exact ⟨C38.upd, _, rfl, vint (chk_g hlong hok ⟨by omega, by simpa using ht40⟩).symm⟩
  have ht41 : Nat.gcd (val a.ln) (val a.ld) = 1 := by simpa using hc39
  refine zz 9 ?_
  refine zr' (v := .int .i64 0) ?_
  exact ⟨C38.upd, _, rfl, vint (chk_0 hlong hok (fun hh => hh.2 (by simpa using ht41))).symm⟩
 have hok : ¬ (chkN a.ln ≠ 0 ∨ chkN a.ld ≠ 0 ∨ val a.ld = 1 ∨ (val a.ln = 0 ∧ (a.neg = true ∨ 0 < val a.ld))) := by intro hh; rcases hh with e | e | e | ⟨e, e2⟩; exact (fun x => absurd (by simpa using ht10 : chkN a.ln = 0) x) e; exact (fun x => absurd (by simpa using ht15 : chkN a.ld = 0) x) e; exact (fun x => absurd x (by simpa using ht18)) e; omega
 refine zz 9 ?_
 refine zr' (v := .int .i64 0) ?_
 exact ⟨C17.upd, _, rfl, vint (chk_0 hlong hok (fun hh => by omega)).symm⟩
end Go.Proofs.YtppalofalmieaaaGreat
namespace Go.Proofs.YtppalofalmieaaaGreat
open Go Go.Gv Go.RowKit
set_option maxRecDepth 100000
set_option maxHeartbeats 1000000
def OpC (f : Nat) (op : Rat → Rat → Rat) : Prop := ∀ (w : World) (X : Hid) (hX : ∀ k o, X k o → k < w.heap.size) (ad₁ : Option Addr) (len₁ cap₁ n₁ : Nat) (h₁ : NatR (rd w X) ad₁ len₁ cap₁ n₁) (ae₁ : Option Addr) (le₁ ce₁ d₁ : Nat) (k₁ : NatR (rd w X) ae₁ le₁ ce₁ d₁) (s₁ : Bool) (hn₁ : n₁ < K128) (hd₁ : d₁ < K128) (ad₂ : Option Addr) (len₂ cap₂ n₂ : Nat) (h₂ : NatR (rd w X) ad₂ len₂ cap₂ n₂) (ae₂ : Option Addr) (le₂ ce₂ d₂ : Nat) (k₂ : NatR (rd w X) ae₂ le₂ ce₂ d₂) (s₂ : Bool) (hn₂ : n₂ < K128) (hd₂ : d₂ < K128) (hp₁ : 0 < d₁) (hp₂ : 0 < d₂), Calls Tryz.prog f #[.agg #[.slice ad₁ len₁ cap₁, .slice ae₁ le₁ ce₁, .bool s₁], .agg #[.slice ad₂ len₂ cap₂, .slice ae₂ le₂ ce₂, .bool s₂]] w (Ret E0 w fun w' v => ∃ s m d, ValX X w' v s m d ∧ m < 4294967296 ^ 512 ∧ d < 4294967296 ^ 512 ∧ 0 < d ∧ mkRat (sgn s m) d = op (mkRat (sgn s₁ n₁) d₁) (mkRat (sgn s₂ n₂) d₂))
theorem dd_fits {a b : Nat} (h : a < K128) (h2 : b < K128) : a * b < 4294967296 ^ 512 := dd_fit h h2
theorem sum_op : OpC 89 (· + ·) := fun w X hX ad₁ len₁ cap₁ n₁ h₁ ae₁ le₁ ce₁ d₁ k₁ s₁ hn₁ hd₁ ad₂ len₂ cap₂ n₂ h₂ ae₂ le₂ ce₂ d₂ k₂ s₂ hn₂ hd₂ hp₁ hp₂ =>
  (sum_c w X hX ad₁ len₁ cap₁ n₁ h₁ ae₁ le₁ ce₁ d₁ k₁ s₁ hn₁ hd₁ ad₂ len₂ cap₂ n₂ h₂ ae₂ le₂ ce₂ d₂ k₂ s₂ hn₂ hd₂).mono (by
    rintro e w' ⟨hu, v, rfl, s, m, hv, hm, he⟩
    refine ⟨hu, _, rfl, s, m, _, hv, hm, dd_fits hd₁ hd₂, Nat.mul_pos hp₁ hp₂, ?_⟩
    show _ = mkRat (sgn s₁ n₁) d₁ + mkRat (sgn s₂ n₂) d₂
    rw [Rat.mkRat_add_mkRat _ _ (by omega) (by omega), he])
theorem product_op : OpC 90 (· * ·) := fun w X hX ad₁ len₁ cap₁ n₁ h₁ ae₁ le₁ ce₁ d₁ k₁ s₁ hn₁ hd₁ ad₂ len₂ cap₂ n₂ h₂ ae₂ le₂ ce₂ d₂ k₂ s₂ hn₂ hd₂ hp₁ hp₂ =>
  (product_c w X hX ad₁ len₁ cap₁ n₁ h₁ ae₁ le₁ ce₁ d₁ k₁ s₁ hn₁ hd₁ ad₂ len₂ cap₂ n₂ h₂ ae₂ le₂ ce₂ d₂ k₂ s₂ hn₂ hd₂).mono (by
    rintro e w' ⟨hu, v, rfl, s, m, hv, hm, he⟩
    refine ⟨hu, _, rfl, s, m, _, hv, hm, dd_fits hd₁ hd₂, Nat.mul_pos hp₁ hp₂, ?_⟩
    show _ = mkRat (sgn s₁ n₁) d₁ * mkRat (sgn s₂ n₂) d₂
    rw [Rat.mkRat_mul_mkRat, he])
theorem lowest_r (w : World) (X : Hid) (hX : ∀ k o, X k o → k < w.heap.size) (ad : Option Addr) (len cap x : Nat) (h : NatR (rd w X) ad len cap x) (ad2 : Option Addr) (len2 cap2 y : Nat) (h2 : NatR (rd w X) ad2 len2 cap2 y) (sg : Bool) (hx : x < 4294967296 ^ 512) (hy : y < 4294967296 ^ 512) (hd : 0 < y) (z : Rat) (hz : mkRat (sgn sg x) y = z) : Calls Tryz.prog 121 #[.agg #[.slice ad len cap, .slice ad2 len2 cap2, .bool sg]] w (Ret E0 w fun w' v => RatX (old w) w' v z) := by
  subst hz; exact lowest_c w X hX ad len cap x h ad2 len2 cap2 y h2 sg hx hy hd
theorem operate_c (f : Nat) (op : Rat → Rat → Rat) (hcf : ∀ args w, (callFunc f args).run Tryz.prog w = .ok (.enter f args) w) (hop : OpC f op) (w : World) (X : Hid) (hX : ∀ k o, X k o → k < w.heap.size) (a : Raw) (ad₁ : Option Addr) (len₁ cap₁ : Nat) (h₁ : Limbs (rd w X) ad₁ len₁ cap₁ a.ln) (ae₁ : Option Addr) (le₁ ce₁ : Nat) (k₁ : Limbs (rd w X) ae₁ le₁ ce₁ a.ld) (b : Raw) (ad₂ : Option Addr) (len₂ cap₂ : Nat) (h₂ : Limbs (rd w X) ad₂ len₂ cap₂ b.ln) (ae₂ : Option Addr) (le₂ ce₂ : Nat) (k₂ : Limbs (rd w X) ae₂ le₂ ce₂ b.ld) (z : Rat) (hz : op a.rat b.rat = z) : Calls Tryz.prog 88 #[.agg #[.bool a.neg, .slice ad₁ len₁ cap₁, .slice ae₁ le₁ ce₁], .agg #[.bool b.neg, .slice ad₂ len₂ cap₂, .slice ae₂ le₂ ce₂], .func (.func f) #[] #[]] w (Ret E0 w fun w' v => ∃ u, v = .tuple #[u, .int .i64 (opE a b z)] ∧ RawX (old w) w' u (opR a b z)) := by
 refine zen Tryz.func88 ?_
 have C0 : St E0 w X w X [] := St.start hX
 refine zz 2 ?_
 refine zn pn (.cells #[.bool a.neg, .slice ad₁ len₁ cap₁, .slice ae₁ le₁ ce₁] 28 (0, 0)) C0 ?_
 intro b3 w3 Y3 C3 j3 hu3
 refine zn pn (.cells #[.bool b.neg, .slice ad₂ len₂ cap₂, .slice ae₂ le₂ ce₂] 28 (0, 0)) C3 ?_
 intro b5 w5 Y5 C5 j5 hu5
 refine zn pn (.cells #[.bool false, .slice none 0 0, .slice none 0 0] 28 (0, 0)) C5 ?_
 intro b7 w7 Y7 C7 j7 hu7
 refine zz 5 ?_
 refine zdr C7 ?_
 refine gw 0 2 ?_
 refine gw 2 1 ?_
 have hc1_ := (Le2 j3 j5).trans j7
 refine gC 1 (fun w8 Y8 _ C8 j8 => (rcheck_c _ _ C8.lt a _ _ _ (h₁.mono (hc1_.trans j8)) _ _ _ (k₁.mono (hc1_.trans j8)))) ?_
 rintro v9 w8 Y9 w9 C8 j9 rfl
 have hc2_ := hc1_.trans j9
 refine gC 3 (fun w10 Y10 _ C10 j10 => (rcheck_c _ _ C10.lt b _ _ _ (h₂.mono (hc2_.trans j10)) _ _ _ (k₂.mono (hc2_.trans j10)))) ?_
 rintro v11 w10 Y11 w11 C10 j11 rfl
 refine gp1 (al 4 14 (fun b => .slice (some ⟨b, 0, none⟩) 2 2) (.cells #[.int .i64 a.chk, .int .i64 b.chk] 34 (0, 0))) (fun b12 => ?_)
 refine gC 5 (vs := #[.slice (some ⟨b12, 0, none⟩) 2 2]) (fun w13 Y13 _ C13 j13 => (or_c _ X0 (X0_lt _) _ _ _ _ [a.chk, b.chk] rfl (by simp) (C13.at0 0 rfl rfl))) ?_
 rintro v14 w13 Y14 w14 C13 j14 rfl
 refine gz [6] ?_
 refine gend (fun w15 Y15 C15 j15 => ?_)
 refine zz 7 ?_
 refine zb 17 (b := ((orL [a.chk, b.chk]) != 0)) (fun hc16 => ?_) (fun hc16 => ?_)
 ·
  have ht17 : (orL [a.chk, b.chk]) ≠ 0 := by simpa using hc16
  refine zz 5 ?_
  refine zx 1 #[.bool false, .slice none 0 0, .slice none 0 0] C15 ?_
  intro w18 C18 j18
  refine zz 5 ?_
  refine zrS [.cell 6 28, .tmp 7] (v := .tuple #[.agg #[.bool false, .slice none 0 0, .slice none 0 0], .int .i64 (orL [a.chk, b.chk])]) (Res.cM C18 1 (Res.tZ Res.nil)) ?_
  obtain ⟨he1, he2⟩ := op_err (z := z) ht17
  exact ⟨C18.upd, _, rfl, _, by rw [he1], by rw [he2]; exact raw_zero⟩
 have ht19 : (orL [a.chk, b.chk]) = 0 := by simpa using hc16
 obtain ⟨hca, hcb⟩ := or2_zero ((orL2 _ _).symm.trans (by simpa using ht19))
 obtain ⟨hla, hma, cna, cda, _, _, _⟩ := Raw.chk_ok hca
 have bna : val a.ln < K128 := (canon_le_iff h₁.hlt cna 128).1 hla
 have bda : a.d < K128 := by unfold Raw.d; split; exact Nat.one_lt_pow (by omega) (by omega); exact (canon_le_iff k₁.hlt cda 128).1 hma
 have pda := Raw.d_pos a
 have hNna := h₁.natR cna
 have hNda := k₁.natR cda
 obtain ⟨hlb, hmb, cnb, cdb, _, _, _⟩ := Raw.chk_ok hcb
 have bnb : val b.ln < K128 := (canon_le_iff h₂.hlt cnb 128).1 hlb
 have bdb : b.d < K128 := by unfold Raw.d; split; exact Nat.one_lt_pow (by omega) (by omega); exact (canon_le_iff k₂.hlt cdb 128).1 hmb
 have pdb := Raw.d_pos b
 have hNnb := h₂.natR cnb
 have hNdb := k₂.natR cdb
 refine zz 4 ?_
 refine zdraw [0, 1, 2, 3] C15 ?_
 refine gz [0] ?_
 refine gw 1 3 ?_
 refine gw 3 2 ?_
 refine gp (al 7 9 pn (.cells #[.bool false, .slice none 0 0, .slice none 0 0] 28 (0, 0))) ?_
 have hc3_ := ((hc2_.trans j11).trans j14).trans j15
 refine gC 2 (fun w20 Y20 _ C20 j20 => (of_c _ _ C20.lt a.neg _ _ _ (val a.ln) (hNna.mono (hc3_.trans j20)) _ _ _ (val a.ld) (hNda.mono (hc3_.trans j20)))) ?_ (hPd := PdOk.nil.k)
 rintro v21 w20 Y21 w21 C20 j21 ⟨ad21, len21, cap21, ae21, le21, ce21, rfl, hN21, hD21⟩
 have hc4_ := hc3_.trans j21
 refine gC 4 (fun w22 Y22 _ C22 j22 => (of_c _ _ C22.lt b.neg _ _ _ (val b.ln) (hNnb.mono (hc4_.trans j22)) _ _ _ (val b.ld) (hNdb.mono (hc4_.trans j22)))) ?_ (hPd := PdOk.nil.k)
 rintro v23 w22 Y23 w23 C22 j23 ⟨ad23, len23, cap23, ae23, le23, ce23, rfl, hN23, hD23⟩
 refine gC 5 (hcall := (fun w => hcf _ w)) (fun w24 Y24 _ C24 j24 => (hop _ _ C24.lt _ _ _ (val a.ln) (hN21.mono (Le2 j23 j24)) _ _ _ a.d (hD21.mono (Le2 j23 j24)) a.neg (by assumption) (by assumption) _ _ _ (val b.ln) (hN23.mono j24) _ _ _ b.d (hD23.mono j24) b.neg (by assumption) (by assumption) (by assumption) (by assumption))) ?_ (hPd := PdOk.nil.k)
 rintro v25 w24 Y25 w25 C24 j25 ⟨sg25, m25, d25, ⟨ad25, len25, cap25, ae25, le25, ce25, rfl, hN25, hD25⟩, hm25, hd25, hp25, he25⟩
 refine gC 6 (fun w26 Y26 _ C26 j26 => (lowest_r _ _ C26.lt _ _ _ m25 (hN25.mono j26) _ _ _ d25 (hD25.mono j26) sg25 hm25 hd25 hp25 z (he25.trans hz))) ?_ (hPd := PdOk.nil.k)
 rintro v27 w26 Y27 w27 C26 j27 ⟨ad27, len27, cap27, ae27, le27, ce27, rfl, hN27, hD27⟩
 refine gs1 (fun b28 => ?_) PdOk.nil.k
 refine gX 8 0 #[.bool (decide (z.num < 0)), .slice ad27 len27 cap27, .slice ae27 le27 ce27] ?_
 intro w29 Y29 j29
 refine gend (fun w30 Y30 C30 j30 => ?_)
 refine zz 5 ?_
 refine zo 0 C30 ?_
 refine zz 3 ?_
 refine zt 31 (p := (len27 : Int) > 128) (fun ht31 => ?_) (fun ht31 => ?_)
 ·
  refine zz 11 ?_
  refine zx 2 #[.bool false, .slice none 0 0, .slice none 0 0] C30 ?_
  intro w32 C32 j32
  refine zz 5 ?_
  refine zrS [.cell 6 28, .tmp 7] (v := .tuple #[.agg #[.bool false, .slice none 0 0, .slice none 0 0], .int .i64 4]) (Res.cM C32 2 (Res.tZ Res.nil)) ?_
  obtain ⟨he1, he2⟩ := op_long (z := z) ht19 (fun hh => absurd ((hN27.len_le 128).2 hh.1) (by omega))
  exact ⟨C32.upd, _, rfl, _, by rw [he1], by rw [he2]; exact raw_zero⟩
 refine zz 1 ?_
 refine zo 0 C30 ?_
 refine zz 5 ?_
 refine zt 36 (p := (le27 : Int) > 128) (fun ht33 => ?_) (fun ht33 => ?_)
 ·
  refine zz 4 ?_
  refine zx 2 #[.bool false, .slice none 0 0, .slice none 0 0] C30 ?_
  intro w34 C34 j34
  refine zz 5 ?_
  refine zrS [.cell 6 28, .tmp 7] (v := .tuple #[.agg #[.bool false, .slice none 0 0, .slice none 0 0], .int .i64 4]) (Res.cM C34 2 (Res.tZ Res.nil)) ?_
  obtain ⟨he1, he2⟩ := op_long (z := z) ht19 (fun hh => absurd ((hD27.len_le 128).2 hh.2) (by omega))
  exact ⟨C34.upd, _, rfl, _, by rw [he1], by rw [he2]; exact raw_zero⟩
 refine zz 5 ?_
 refine zo 0 C30 ?_
 refine zx 2 #[.bool (decide (z.num < 0)), .slice ad27 len27 cap27, .slice ae27 le27 ce27] C30 ?_
 intro w35 C35 j35
 refine zz 4 ?_
 refine zrS [.cell 6 28, .tmp 7] (v := .tuple #[.agg #[.bool (decide (z.num < 0)), .slice ad27 len27 cap27, .slice ae27 le27 ce27], .int .i64 0]) (Res.cM C35 2 (Res.tZ Res.nil)) ?_
 obtain ⟨he1, he2⟩ := op_good (z := z) ht19 ⟨(hN27.len_le 128).1 (by omega), (hD27.len_le 128).1 (by omega)⟩
 exact ⟨C35.upd, _, rfl, _, by rw [he1], by rw [he2]; exact RatX.raw ⟨_, _, _, _, _, _, rfl, ((hN27.mono (Le.own C26.lt C26.upd.size (Le3 j29 j30 j35))).mono Le.orr), ((hD27.mono (Le.own C26.lt C26.upd.size (Le3 j29 j30 j35))).mono Le.orr)⟩⟩
end Go.Proofs.YtppalofalmieaaaGreat
namespace Go.Proofs.YtppalofalmieaaaGreat
open Go Go.Gv Go.RowKit
set_option maxRecDepth 100000
set_option maxHeartbeats 1000000
theorem rAdd_c (w : World) (X : Hid) (hX : ∀ k o, X k o → k < w.heap.size) (a : Raw) (ad₁ : Option Addr) (len₁ cap₁ : Nat) (h₁ : Limbs (rd w X) ad₁ len₁ cap₁ a.ln) (ae₁ : Option Addr) (le₁ ce₁ : Nat) (k₁ : Limbs (rd w X) ae₁ le₁ ce₁ a.ld) (b : Raw) (ad₂ : Option Addr) (len₂ cap₂ : Nat) (h₂ : Limbs (rd w X) ad₂ len₂ cap₂ b.ln) (ae₂ : Option Addr) (le₂ ce₂ : Nat) (k₂ : Limbs (rd w X) ae₂ le₂ ce₂ b.ld) : Calls Tryz.prog 35 #[.agg #[.bool a.neg, .slice ad₁ len₁ cap₁, .slice ae₁ le₁ ce₁], .agg #[.bool b.neg, .slice ad₂ len₂ cap₂, .slice ae₂ le₂ ce₂]] w (Ret E0 w fun w' v => ∃ u, v = .tuple #[u, .int .i64 (opE a b (a.rat + b.rat))] ∧ RawX (old w) w' u (opR a b (a.rat + b.rat))) := by
 refine zen Tryz.func35 ?_
 have C0 : St E0 w X w X [] := St.start hX
 refine zz 2 ?_
 refine zn pn (.cells #[.bool a.neg, .slice ad₁ len₁ cap₁, .slice ae₁ le₁ ce₁] 28 (0, 0)) C0 ?_
 intro b3 w3 Y3 C3 j3 hu3
 refine zn pn (.cells #[.bool b.neg, .slice ad₂ len₂ cap₂, .slice ae₂ le₂ ce₂] 28 (0, 0)) C3 ?_
 intro b5 w5 Y5 C5 j5 hu5
 refine zn pn (.cells #[.bool false, .slice none 0 0, .slice none 0 0] 28 (0, 0)) C5 ?_
 intro b7 w7 Y7 C7 j7 hu7
 refine zz 5 ?_
 refine zo 2 C7 ?_
 refine zo 1 C7 ?_
 refine zc C7 (operate_c 89 (· + ·) (fun args w => Tryz.call89 args w) sum_op _ _ C7.lt a _ _ _ (h₁.mono (Le3 j3 j5 j7)) _ _ _ (k₁.mono (Le3 j3 j5 j7)) b _ _ _ (h₂.mono (Le3 j3 j5 j7)) _ _ _ (k₂.mono (Le3 j3 j5 j7)) (a.rat + b.rat) rfl) ?_
 rintro v9 w9 C9 j9 hu9 ⟨u9, rfl, ⟨ad9, len9, cap9, ae9, le9, ce9, rfl, hN9, hD9⟩⟩
 refine zz 2 ?_
 refine zx 0 #[.bool ((opR a b (a.rat + b.rat)).neg), .slice ad9 len9 cap9, .slice ae9 le9 ce9] C9 ?_
 intro w10 C10 j10
 refine zz 4 ?_
 refine zrS [.cell 4 28, .tmp 5] (v := .tuple #[.agg #[.bool ((opR a b (a.rat + b.rat)).neg), .slice ad9 len9 cap9, .slice ae9 le9 ce9], .int .i64 (opE a b (a.rat + b.rat))]) (Res.cM C10 0 (Res.tZ Res.nil)) ?_
 exact ⟨C10.upd, _, rfl, _, rfl, ⟨_, _, _, _, _, _, rfl, ((hN9.mono (Le.own C7.lt C7.upd.size j10)).mono Le.orr), ((hD9.mono (Le.own C7.lt C7.upd.size j10)).mono Le.orr)⟩⟩
theorem rMul_c (w : World) (X : Hid) (hX : ∀ k o, X k o → k < w.heap.size) (a : Raw) (ad₁ : Option Addr) (len₁ cap₁ : Nat) (h₁ : Limbs (rd w X) ad₁ len₁ cap₁ a.ln) (ae₁ : Option Addr) (le₁ ce₁ : Nat) (k₁ : Limbs (rd w X) ae₁ le₁ ce₁ a.ld) (b : Raw) (ad₂ : Option Addr) (len₂ cap₂ : Nat) (h₂ : Limbs (rd w X) ad₂ len₂ cap₂ b.ln) (ae₂ : Option Addr) (le₂ ce₂ : Nat) (k₂ : Limbs (rd w X) ae₂ le₂ ce₂ b.ld) : Calls Tryz.prog 36 #[.agg #[.bool a.neg, .slice ad₁ len₁ cap₁, .slice ae₁ le₁ ce₁], .agg #[.bool b.neg, .slice ad₂ len₂ cap₂, .slice ae₂ le₂ ce₂]] w (Ret E0 w fun w' v => ∃ u, v = .tuple #[u, .int .i64 (opE a b (a.rat * b.rat))] ∧ RawX (old w) w' u (opR a b (a.rat * b.rat))) := by
 refine zen Tryz.func36 ?_
 have C0 : St E0 w X w X [] := St.start hX
 refine zz 2 ?_
 refine zn pn (.cells #[.bool a.neg, .slice ad₁ len₁ cap₁, .slice ae₁ le₁ ce₁] 28 (0, 0)) C0 ?_
 intro b3 w3 Y3 C3 j3 hu3
 refine zn pn (.cells #[.bool b.neg, .slice ad₂ len₂ cap₂, .slice ae₂ le₂ ce₂] 28 (0, 0)) C3 ?_
 intro b5 w5 Y5 C5 j5 hu5
 refine zn pn (.cells #[.bool false, .slice none 0 0, .slice none 0 0] 28 (0, 0)) C5 ?_
 intro b7 w7 Y7 C7 j7 hu7
 refine zz 5 ?_
 refine zo 2 C7 ?_
 refine zo 1 C7 ?_
 refine zc C7 (operate_c 90 (· * ·) (fun args w => Tryz.call90 args w) product_op _ _ C7.lt a _ _ _ (h₁.mono (Le3 j3 j5 j7)) _ _ _ (k₁.mono (Le3 j3 j5 j7)) b _ _ _ (h₂.mono (Le3 j3 j5 j7)) _ _ _ (k₂.mono (Le3 j3 j5 j7)) (a.rat * b.rat) rfl) ?_
 rintro v9 w9 C9 j9 hu9 ⟨u9, rfl, ⟨ad9, len9, cap9, ae9, le9, ce9, rfl, hN9, hD9⟩⟩
 refine zz 2 ?_
 refine zx 0 #[.bool ((opR a b (a.rat * b.rat)).neg), .slice ad9 len9 cap9, .slice ae9 le9 ce9] C9 ?_
 intro w10 C10 j10
 refine zz 4 ?_
 refine zrS [.cell 4 28, .tmp 5] (v := .tuple #[.agg #[.bool ((opR a b (a.rat * b.rat)).neg), .slice ad9 len9 cap9, .slice ae9 le9 ce9], .int .i64 (opE a b (a.rat * b.rat))]) (Res.cM C10 0 (Res.tZ Res.nil)) ?_
 exact ⟨C10.upd, _, rfl, _, rfl, ⟨_, _, _, _, _, _, rfl, ((hN9.mono (Le.own C7.lt C7.upd.size j10)).mono Le.orr), ((hD9.mono (Le.own C7.lt C7.upd.size j10)).mono Le.orr)⟩⟩
theorem rFrom_c (w : World) (X : Hid) (hX : ∀ k o, X k o → k < w.heap.size) (n : Int) (h1 : -9223372036854775808 ≤ n) (h2 : n ≤ 9223372036854775807) : Calls Tryz.prog 37 #[.int .i64 n] w (Ret E0 w fun w' v => RawX X w' v (.of (n : Rat))) := by
 refine zen Tryz.func37 ?_
 have C0 : St E0 w X w X [] := St.start hX
 refine zz 2 ?_
 refine zn pn (.cells #[.bool false, .slice none 0 0, .slice none 0 0] 28 (0, 0)) C0 ?_
 intro b3 w3 Y3 C3 j3 hu3
 refine zz 7 ?_
 refine zc C3 (natural_c _ _ C3.lt n (by omega) (by omega)) ?_
 rintro v5 w5 C5 j5 hu5 ⟨ad5, len5, cap5, rfl, hN5⟩
 refine zz 1 ?_
 refine zx 0 #[.bool (decide ((n) < 0)), .slice ad5 len5 cap5, .slice none 0 0] C5 ?_
 intro w6 C6 j6
 refine zz 3 ?_
 refine zrS [.cell 2 28] (v := .agg #[.bool (decide ((n) < 0)), .slice ad5 len5 cap5, .slice none 0 0]) (Res.cM C6 0 Res.nil) ?_
 exact ⟨C6.upd, _, rfl, (int_rat ((hN5.mono j6).mono C6.le)).raw⟩
theorem rCmp_c (w : World) (X : Hid) (hX : ∀ k o, X k o → k < w.heap.size) (a : Raw) (ad₁ : Option Addr) (len₁ cap₁ : Nat) (h₁ : Limbs (rd w X) ad₁ len₁ cap₁ a.ln) (ae₁ : Option Addr) (le₁ ce₁ : Nat) (k₁ : Limbs (rd w X) ae₁ le₁ ce₁ a.ld) (b : Raw) (ad₂ : Option Addr) (len₂ cap₂ : Nat) (h₂ : Limbs (rd w X) ad₂ len₂ cap₂ b.ln) (ae₂ : Option Addr) (le₂ ce₂ : Nat) (k₂ : Limbs (rd w X) ae₂ le₂ ce₂ b.ld) : Calls Tryz.prog 110 #[.agg #[.bool a.neg, .slice ad₁ len₁ cap₁, .slice ae₁ le₁ ce₁], .agg #[.bool b.neg, .slice ad₂ len₂ cap₂, .slice ae₂ le₂ ce₂]] w (Ret E0 w fun w' v => v = .tuple #[.int .i64 (cmpR a b), .int .i64 (cmpE a b)]) := by
 refine zen Tryz.func110 ?_
 have C0 : St E0 w X w X [] := St.start hX
 refine zz 2 ?_
 refine zn pn (.cells #[.bool a.neg, .slice ad₁ len₁ cap₁, .slice ae₁ le₁ ce₁] 28 (0, 0)) C0 ?_
 intro b3 w3 Y3 C3 j3 hu3
 refine zn pn (.cells #[.bool b.neg, .slice ad₂ len₂ cap₂, .slice ae₂ le₂ ce₂] 28 (0, 0)) C3 ?_
 intro b5 w5 Y5 C5 j5 hu5
 refine zz 6 ?_
 refine zdr C5 ?_
 refine gw 0 1 ?_
 refine gw 2 0 ?_
 refine gC 1 (fun w6 Y6 _ C6 j6 => (rcheck_c _ _ C6.lt a _ _ _ (h₁.mono (Le3 j3 j5 j6)) _ _ _ (k₁.mono (Le3 j3 j5 j6)))) ?_
 rintro v7 w6 Y7 w7 C6 j7 rfl
 have hc1_ := (Le2 j3 j5).trans j7
 refine gC 3 (fun w8 Y8 _ C8 j8 => (rcheck_c _ _ C8.lt b _ _ _ (h₂.mono (hc1_.trans j8)) _ _ _ (k₂.mono (hc1_.trans j8)))) ?_
 rintro v9 w8 Y9 w9 C8 j9 rfl
 refine gp1 (al 4 14 (fun b => .slice (some ⟨b, 0, none⟩) 2 2) (.cells #[.int .i64 a.chk, .int .i64 b.chk] 34 (0, 0))) (fun b10 => ?_)
 refine gC 5 (vs := #[.slice (some ⟨b10, 0, none⟩) 2 2]) (fun w11 Y11 _ C11 j11 => (or_c _ X0 (X0_lt _) _ _ _ _ [a.chk, b.chk] rfl (by simp) (C11.at0 0 rfl rfl))) ?_
 rintro v12 w11 Y12 w12 C11 j12 rfl
 refine gz [6] ?_
 refine gend (fun w13 Y13 C13 j13 => ?_)
 refine zz 7 ?_
 refine zb 17 (b := ((orL [a.chk, b.chk]) != 0)) (fun hc14 => ?_) (fun hc14 => ?_)
 ·
  have ht15 : (orL [a.chk, b.chk]) ≠ 0 := by simpa using hc14
  refine zz 10 ?_
  refine zr' (v := .tuple #[.int .i64 0, .int .i64 (orL [a.chk, b.chk])]) ?_
  exact ⟨C13.upd, _, rfl, by rw [cmpR, cmpE, ← orL2, if_neg ht15]⟩
 have ht16 : (orL [a.chk, b.chk]) = 0 := by simpa using hc14
 obtain ⟨hca, hcb⟩ := or2_zero ((orL2 _ _).symm.trans (by simpa using ht16))
 obtain ⟨hla, hma, cna, cda, _, _, _⟩ := Raw.chk_ok hca
 have bna : val a.ln < K128 := (canon_le_iff h₁.hlt cna 128).1 hla
 have bda : a.d < K128 := by unfold Raw.d; split; exact Nat.one_lt_pow (by omega) (by omega); exact (canon_le_iff k₁.hlt cda 128).1 hma
 have pda := Raw.d_pos a
 have hNna := h₁.natR cna
 have hNda := k₁.natR cda
 obtain ⟨hlb, hmb, cnb, cdb, _, _, _⟩ := Raw.chk_ok hcb
 have bnb : val b.ln < K128 := (canon_le_iff h₂.hlt cnb 128).1 hlb
 have bdb : b.d < K128 := by unfold Raw.d; split; exact Nat.one_lt_pow (by omega) (by omega); exact (canon_le_iff k₂.hlt cdb 128).1 hmb
 have pdb := Raw.d_pos b
 have hNnb := h₂.natR cnb
 have hNdb := k₂.natR cdb
 refine zz 4 ?_
 refine zdrs [0, 1, 2] C13 ?_
 refine gw 0 2 ?_
 refine gw 2 1 ?_
 refine gp (al 5 8 pn (.cells #[.slice none 0 0, .slice none 0 0, .bool false] 160 (0, 0))) ?_
 refine gp (al 4 7 pn (.cells #[.slice none 0 0, .slice none 0 0, .bool false] 160 (0, 0))) ?_
 have hc2_ := ((hc1_.trans j9).trans j12).trans j13
 refine gC 1 (fun w17 Y17 _ C17 j17 => (of_c _ _ C17.lt a.neg _ _ _ (val a.ln) (hNna.mono (hc2_.trans j17)) _ _ _ (val a.ld) (hNda.mono (hc2_.trans j17)))) ?_ (hPd := PdOk.nil.k.k)
 rintro v18 w17 Y18 w18 C17 j18 ⟨ad18, len18, cap18, ae18, le18, ce18, rfl, hN18, hD18⟩
 have hc3_ := hc2_.trans j18
 refine gC 3 (fun w19 Y19 _ C19 j19 => (of_c _ _ C19.lt b.neg _ _ _ (val b.ln) (hNnb.mono (hc3_.trans j19)) _ _ _ (val b.ld) (hNdb.mono (hc3_.trans j19)))) ?_ (hPd := PdOk.nil.k.k)
 rintro v20 w19 Y20 w20 C19 j20 ⟨ad20, len20, cap20, ae20, le20, ce20, rfl, hN20, hD20⟩
 refine ge (fun e21 => ?_) PdOk.nil.k.k
 refine gXs 6 0 [2, 3, 4] #[.slice ad18 len18 cap18, .slice ae18 le18 ce18, .bool a.neg] ?_
 intro w22 Y22 j22
 refine gXs 7 1 [2, 3, 4] #[.slice ad20 len20 cap20, .slice ae20 le20 ce20, .bool b.neg] ?_
 intro w23 Y23 j23
 refine gend (fun w24 Y24 C24 j24 => ?_)
 refine zz 4 ?_
 refine zo 1 C24 ?_
 refine zz 2 ?_
 refine zx 1 #[.slice ad20 len20 cap20, .slice ae20 le20 ce20, .bool (!b.neg)] C24 ?_
 intro w25 C25 j25
 refine zz 5 ?_
 refine zo 0 C25 ?_
 refine zo 1 C25 ?_
 have hc4_ := (Le4 j20 j22 j23 j24).trans j25
 have hc5_ := (Le3 j22 j23 j24).trans j25
 refine zc C25 (sum_c _ _ C25.lt _ _ _ (val a.ln) (hN18.mono hc4_) _ _ _ a.d (hD18.mono hc4_) a.neg (by assumption) (by assumption) _ _ _ (val b.ln) (hN20.mono hc5_) _ _ _ b.d (hD20.mono hc5_) (!b.neg) (by assumption) (by assumption)) ?_
 rintro v27 w27 C27 j27 hu27 ⟨sg27, m27, ⟨ad27, len27, cap27, ae27, le27, ce27, rfl, hN27, hD27⟩, hm27, he27⟩
 have hc6_ := hc4_.trans j27
 have hc7_ := hc5_.trans j27
 refine zn pn (.cells #[.slice none 0 0, .slice none 0 0, .bool false] 160 (0, 0)) C27 ?_
 intro b29 w29 Y29 C29 j29 hu29
 refine zx 0 #[.slice ad27 len27 cap27, .slice ae27 le27 ce27, .bool sg27] C29 ?_
 intro w30 C30 j30
 refine zz 7 ?_
 refine zo 0 C30 ?_
 refine zz 5 ?_
 refine zb 30 (b := ((len27 : Int) == 0)) (fun hc31 => ?_) (fun hc31 => ?_)
 ·
  have ht32 : (len27 : Int) = 0 := by simpa using hc31
  have hdf : _ = a.rat - b.rat := diff_mk (he27.trans (by rw [sgn_not])) pda pdb
  have hm0 := hN27.len0.1 (by omega)
  refine zz 10 ?_
  refine zr' (v := .tuple #[.int .i64 0, .int .i64 0]) ?_
  exact ⟨C30.upd, _, rfl, by have h0 := ht16; rw [cmpR, cmpE, ← orL2, if_pos (by simpa using h0), show orL [a.chk, b.chk] = 0 by simpa using h0, cmp_zero hdf hm0]⟩
 have ht33 : (len27 : Int) ≠ 0 := by simpa using hc31
 have hdf : _ = a.rat - b.rat := diff_mk (he27.trans (by rw [sgn_not])) pda pdb
 have hm0 : m27 ≠ 0 := fun e => absurd (hN27.len0.2 e) (by omega)
 refine zz 4 ?_
 refine zo 0 C30 ?_
 refine zz 3 ?_
 refine zb 36 (b := sg27) (fun hc34 => ?_) (fun hc34 => ?_)
 ·
  have ht35 : sg27 = true := by simpa using hc34
  rw [ht35] at hdf
  refine zz 10 ?_
  refine zr' (v := .tuple #[.int .i64 (-1), .int .i64 0]) ?_
  exact ⟨C30.upd, _, rfl, by have h0 := ht16; rw [cmpR, cmpE, ← orL2, if_pos (by simpa using h0), show orL [a.chk, b.chk] = 0 by simpa using h0, cmp_neg hdf hm0 (den_ne pda pdb)]⟩
 have ht36 : sg27 = false := by simpa using hc34
 rw [ht36] at hdf
 refine zz 11 ?_
 refine zr' (v := .tuple #[.int .i64 1, .int .i64 0]) ?_
 exact ⟨C30.upd, _, rfl, by have h0 := ht16; rw [cmpR, cmpE, ← orL2, if_pos (by simpa using h0), show orL [a.chk, b.chk] = 0 by simpa using h0, cmp_pos hdf hm0 (den_ne pda pdb)]⟩
end Go.Proofs.YtppalofalmieaaaGreat
namespace Go.Proofs.YtppalofalmieaaaGreat
open Go Go.Gv Go.RowKit
set_option maxRecDepth 100000
set_option maxHeartbeats 1000000
end Go.Proofs.YtppalofalmieaaaGreat
namespace Go.Proofs.YtppalofalmieaaaGreat
open Go Go.Gv Go.RowKit
set_option maxRecDepth 100000
set_option maxHeartbeats 1000000
end Go.Proofs.YtppalofalmieaaaGreat
namespace Go.Proofs.YtppalofalmieaaaGreat
open Go Go.Gv Go.RowKit
set_option maxRecDepth 100000
set_option maxHeartbeats 1000000
theorem rOf_c (w : World) (X : Hid) (hX : ∀ k o, X k o → k < w.heap.size) (p q : Int) (hp : -9223372036854775808 ≤ p) (hp2 : p ≤ 9223372036854775807) (hq : -9223372036854775808 ≤ q) (hq2 : q ≤ 9223372036854775807) (h0 : q ≠ 0) : Calls Tryz.prog 95 #[.int .i64 p, .int .i64 q] w (Ret E0 w fun w' v => ∃ u, v = .tuple #[u, .int .i64 0] ∧ RawX X w' u (.of (mkRat (sgn (!(decide (p < 0) == decide (q < 0))) p.natAbs) q.natAbs))) := by
 have hB : (18446744073709551616 : Nat) ≤ 4294967296 ^ 512 := Nat.le_trans (by decide : 18446744073709551616 ≤ 4294967296 ^ 2) (pow_fit 4294967296 2 512 (by decide) (by decide))
 refine zen Tryz.func95 ?_
 have C0 : St E0 w X w X [] := St.start hX
 refine zz 2 ?_
 refine zn pn (.cells #[.bool false, .slice none 0 0, .slice none 0 0] 28 (0, 0)) C0 ?_
 intro b3 w3 Y3 C3 j3 hu3
 refine zz 10 ?_
 refine zb 7 (b := ((q) == 0)) (fun hc4 => ?_) (fun hc4 => ?_)
 ·
  have ht5 : (q) = 0 := by simpa using hc4
  exfalso; omega
 have ht6 : (q) ≠ 0 := by simpa using hc4
 refine zz 6 ?_
 refine zc C3 (natural_c _ _ C3.lt p (by omega) (by omega)) ?_
 rintro v8 w8 C8 j8 hu8 ⟨ad8, len8, cap8, rfl, hN8⟩
 refine zz 1 ?_
 refine zc C8 (natural_c _ _ C8.lt q (by omega) (by omega)) ?_
 rintro v10 w10 C10 j10 hu10 ⟨ad10, len10, cap10, rfl, hN10⟩
 refine zz 7 ?_
 refine zc C10 (lowest_r _ _ C10.lt _ _ _ p.natAbs (hN8.mono j10) _ _ _ q.natAbs hN10 (!((decide ((p) < 0)) == (decide ((q) < 0)))) (by omega) (by omega) (by omega) (mkRat (sgn (!(decide (p < 0) == decide (q < 0))) p.natAbs) q.natAbs) rfl) ?_
 rintro v12 w12 C12 j12 hu12 ⟨ad12, len12, cap12, ae12, le12, ce12, rfl, hN12, hD12⟩
 refine zx 0 #[.bool (decide ((mkRat (sgn (!(decide (p < 0) == decide (q < 0))) p.natAbs) q.natAbs).num < 0)), .slice ad12 len12 cap12, .slice ae12 le12 ce12] C12 ?_
 intro w13 C13 j13
 refine zz 4 ?_
 refine zrS [.cell 4 28, .tmp 5] (v := .tuple #[.agg #[.bool (decide ((mkRat (sgn (!(decide (p < 0) == decide (q < 0))) p.natAbs) q.natAbs).num < 0)), .slice ad12 len12 cap12, .slice ae12 le12 ce12], .int .i64 0]) (Res.cM C13 0 (Res.tZ Res.nil)) ?_
 exact ⟨C13.upd, _, rfl, _, rfl, RatX.raw ⟨_, _, _, _, _, _, rfl, ((hN12.mono (Le.new C10.lt)).mono j13).mono C13.le, ((hD12.mono (Le.new C10.lt)).mono j13).mono C13.le⟩⟩
end Go.Proofs.YtppalofalmieaaaGreat
namespace Go.Proofs.YtppalofalmieaaaGreat
open Go Go.Gv Go.RowKit
set_option maxRecDepth 100000
set_option maxHeartbeats 1000000
theorem take_snoc {α : Type} {l : List α} {k : Nat} {x : α} (h : l[k]? = some x) : l.take (k + 1) = l.take k ++ [x] := by rw [List.take_add_one, h]; rfl
theorem take_eq {α : Type} {l l2 : List α} {k : Nat} {x : α} (h : l.take k = l2.take k) (hx : l[k]? = some x) (hy : l2[k]? = some x) : l.take (k + 1) = l2.take (k + 1) := by rw [take_snoc hx, take_snoc hy, h]
theorem take_all {α : Type} {l l2 : List α} {k : Nat} (h : l.take k = l2.take k) (hl : l.length = l2.length) (hk : l.length ≤ k) : l = l2 := by
  rwa [List.take_of_length_le hk, List.take_of_length_le (by omega)] at h
theorem ne_at {α : Type} {l l2 : List α} {k : Nat} {x y : α} (hx : l[k]? = some x) (hy : l2[k]? = some y) (h : x ≠ y) : l ≠ l2 := by
  rintro rfl; exact h (Option.some.inj (hx.symm.trans hy))
theorem getD_some {l : List Nat} {k : Nat} (h : k < l.length) : l[k]? = some (l.getD k 0) := by
  rw [List.getD_eq_getElem?_getD, List.getElem?_eq_getElem h]; rfl
theorem vboolE {x y : Bool} (h : x = y) : Value.bool x = .bool y := h ▸ rfl
theorem EqualLimbs_c (w : World) (X : Hid) (hX : ∀ k o, X k o → k < w.heap.size) (ad : Option Addr) (len cap : Nat) (l : List Nat) (h : Limbs (rd w X) ad len cap l) (ad2 : Option Addr) (len2 cap2 : Nat) (l2 : List Nat) (h2 : Limbs (rd w X) ad2 len2 cap2 l2) : Calls Tryz.prog 101 #[.slice ad len cap, .slice ad2 len2 cap2] w (Ret E0 w fun _ v => v = .bool (decide (l = l2))) := by
 obtain rfl := h.hlen
 obtain rfl := h2.hlen
 have hcap := h.hcap
 have hbig := h.hbig
 have hcap2 := h2.hcap
 have hbig2 := h2.hbig
 refine zen Tryz.func101 ?_
 have C0 : St E0 w X w X [] := St.start hX
 refine zz 15 ?_
 refine zb 10 (b := ((l.length : Int) != (l2.length : Int))) (fun hc2 => ?_) (fun hc2 => ?_)
 ·
  have ht3 : (l.length : Int) ≠ (l2.length : Int) := by simpa using hc2
  refine zz 8 ?_
  refine zr' (v := .bool false) ?_
  exact ⟨C0.upd, _, rfl, vboolE ((decide_eq_false (fun e => by rw [e] at ht3; exact ht3 rfl)).symm)⟩
 have ht4 : (l.length : Int) = (l2.length : Int) := by simpa using hc2
 have hlen : l.length = l2.length := by omega
 refine zz 10 ?_
 refine zlp Tryz.f101 [] [1, 1, 0, 1, 0] (fun (k : Nat) => [(0, .slice ad l.length cap), (1, .slice ad2 l2.length cap2), (5, .int .i64 (k : Int))]) (fun (k : Nat) w1 => ∃ (Y1 : Hid), St E0 w X w1 Y1 [] ∧ Le (rd w X) (rd w1 Y1) ∧ (l.take k = l2.take k) ∧ (k ≤ l.length)) (fun (k : Nat) => l.length - k) 0 ?_ ?_
 ·
  refine ⟨_, C0, Le.refl _, rfl, Nat.zero_le _⟩
 rintro k w5 K5 H5 ⟨Y5, C5, j5, hp5_0, hp5_1⟩
 refine zz 9 ?_
 refine zt 14 (p := (k : Int) < (l.length : Int)) (fun ht6 => ?_) (fun ht6 => ?_)
 ·
  obtain ⟨b1, off1, rfl, _⟩ := h.addr (by omega)
  have hx1 := getD_some (l := l) (k := k) (by omega)
  obtain ⟨b2, off2, rfl, _⟩ := h2.addr (by omega)
  have hx2 := getD_some (l := l2) (k := k) (by omega)
  refine zz 6 ?_
  refine zdr C5 ?_
  refine gz [0, 1] ?_
  refine gi 2 (b := b1) (off := off1) (len := l.length) (cap := cap) (kd := .i64) (i := (k : Int)) 1 (off1 + k) ?_
  refine gl 3 ((h.cell (i := k) (by omega)).mono j5) ?_
  refine gz [4, 5] ?_
  refine gi 6 (b := b2) (off := off2) (len := l2.length) (cap := cap2) (kd := .i64) (i := (k : Int)) 1 (off2 + k) ?_
  refine gl 7 ((h2.cell (i := k) (by omega)).mono j5) ?_
  refine gz [8] ?_
  refine gend (fun w7 Y7 C7 j7 => ?_)
  refine zz 1 ?_
  refine zb 25 (b := (((l.getD k 0 : Nat) : Int) != ((l2.getD k 0 : Nat) : Int))) (fun hc8 => ?_) (fun hc8 => ?_)
  ·
   have ht9 : ((l.getD k 0 : Nat) : Int) ≠ ((l2.getD k 0 : Nat) : Int) := by simpa using hc8
   refine zz 12 ?_
   refine zr' (v := .bool false) ?_
   exact ⟨C7.upd, _, rfl, vboolE ((decide_eq_false (ne_at hx1 hx2 (fun e => ht9 (by rw [e])))).symm)⟩
  have ht10 : ((l.getD k 0 : Nat) : Int) = ((l2.getD k 0 : Nat) : Int) := by simpa using hc8
  refine zz 7 ?_
  refine zw 16 (x := (k : Int) + 1) ?_
  refine zz 2 ?_
  refine znext (fun a h => H5 (k + 1) _ a h ⟨_, C7, (Le2 j5 j7), take_eq hp5_0 hx1 (by rw [show l.getD k 0 = l2.getD k 0 by omega]; exact hx2), by omega⟩ ?_)
  first | omega | (simp <;> omega)
 refine zz 12 ?_
 refine zr' (v := .bool true) ?_
 exact ⟨C5.upd, _, rfl, vboolE ((decide_eq_true (take_all hp5_0 hlen (by omega))).symm)⟩
theorem EqualNat_c (w : World) (X : Hid) (hX : ∀ k o, X k o → k < w.heap.size) (ad : Option Addr) (len cap : Nat) (l : List Nat) (h : Limbs (rd w X) ad len cap l) (ad2 : Option Addr) (len2 cap2 : Nat) (l2 : List Nat) (h2 : Limbs (rd w X) ad2 len2 cap2 l2) : Calls Tryz.prog 57 #[.slice ad len cap, .slice ad2 len2 cap2] w (Ret E0 w fun _ v => v = .bool (decide (l = l2))) := by
 obtain rfl := h.hlen
 obtain rfl := h2.hlen
 have hcap := h.hcap
 have hbig := h.hbig
 have hcap2 := h2.hcap
 have hbig2 := h2.hbig
 refine zen Tryz.func57 ?_
 have C0 : St E0 w X w X [] := St.start hX
 refine zz 9 ?_
 refine zc C0 (EqualLimbs_c _ _ C0.lt _ _ _ _ h _ _ _ _ h2) ?_
 rintro v3 w3 C3 j3 hu3 rfl
 refine zz 4 ?_
 refine zr' (v := .bool (decide (l = l2))) ?_
 exact ⟨C3.upd, _, rfl, rfl⟩
theorem raw_ext {a b : Raw} : a = b ↔ a.neg = b.neg ∧ a.ln = b.ln ∧ a.ld = b.ld := by cases a; cases b; simp
theorem EqualRat_c (w : World) (X : Hid) (hX : ∀ k o, X k o → k < w.heap.size) (a : Raw) (ad₁ : Option Addr) (len₁ cap₁ : Nat) (h₁ : Limbs (rd w X) ad₁ len₁ cap₁ a.ln) (ae₁ : Option Addr) (le₁ ce₁ : Nat) (k₁ : Limbs (rd w X) ae₁ le₁ ce₁ a.ld) (b : Raw) (ad₂ : Option Addr) (len₂ cap₂ : Nat) (h₂ : Limbs (rd w X) ad₂ len₂ cap₂ b.ln) (ae₂ : Option Addr) (le₂ ce₂ : Nat) (k₂ : Limbs (rd w X) ae₂ le₂ ce₂ b.ld) : Calls Tryz.prog 14 #[.agg #[.bool a.neg, .slice ad₁ len₁ cap₁, .slice ae₁ le₁ ce₁], .agg #[.bool b.neg, .slice ad₂ len₂ cap₂, .slice ae₂ le₂ ce₂]] w (Ret E0 w fun _ v => v = .bool (decide (a = b))) := by
 refine zen Tryz.func14 ?_
 have C0 : St E0 w X w X [] := St.start hX
 refine zz 2 ?_
 refine zn pn (.cells #[.bool a.neg, .slice ad₁ len₁ cap₁, .slice ae₁ le₁ ce₁] 28 (0, 0)) C0 ?_
 intro b3 w3 Y3 C3 j3 hu3
 refine zn pn (.cells #[.bool b.neg, .slice ad₂ len₂ cap₂, .slice ae₂ le₂ ce₂] 28 (0, 0)) C3 ?_
 intro b5 w5 Y5 C5 j5 hu5
 refine zz 6 ?_
 refine zo 1 C5 ?_
 refine zz 1 ?_
 refine zo 0 C5 ?_
 refine zz 2 ?_
 refine zb 10 (b := (a.neg == b.neg)) (fun hc6 => ?_) (fun hc6 => ?_)
 ·
  have ht7 : a.neg = b.neg := by simpa using hc6
  refine zz 1 ?_
  refine zo 1 C5 ?_
  refine zz 1 ?_
  refine zo 0 C5 ?_
  refine zc C5 (EqualNat_c _ _ C5.lt _ _ _ _ (h₁.mono (Le2 j3 j5)) _ _ _ _ (h₂.mono (Le2 j3 j5))) ?_
  rintro v9 w9 C9 j9 hu9 rfl
  refine zz 2 ?_
  refine zb 17 (b := (decide (a.ln = b.ln))) (fun hc10 => ?_) (fun hc10 => ?_)
  ·
   have ht11 : a.ln = b.ln := of_decide_eq_true hc10
   refine zz 1 ?_
   refine zo 1 C9 ?_
   refine zz 1 ?_
   refine zo 0 C9 ?_
   refine zc C9 (EqualNat_c _ _ C9.lt _ _ _ _ (k₁.mono (Le3 j3 j5 j9)) _ _ _ _ (k₂.mono (Le3 j3 j5 j9))) ?_
   rintro v13 w13 C13 j13 hu13 rfl
   refine zz 5 ?_
   refine zr' (v := .bool (decide (a.ld = b.ld))) ?_
   refine ⟨C13.upd, _, rfl, vboolE ?_⟩
   refine Bool.eq_iff_iff.2 ?_; rw [show (decide (a = b) = true) ↔ _ from decide_eq_true_iff.trans raw_ext]; simp_all
  have ht14 : ¬ (a.ln = b.ln) := of_decide_eq_false hc10
  refine zz 10 ?_
  refine zr' (v := .bool false) ?_
  refine ⟨C9.upd, _, rfl, vboolE ?_⟩
  refine Bool.eq_iff_iff.2 ?_; rw [show (decide (a = b) = true) ↔ _ from decide_eq_true_iff.trans raw_ext]; simp_all
 have ht15 : a.neg ≠ b.neg := by simpa using hc6
 refine zz 17 ?_
 refine zr' (v := .bool false) ?_
 refine ⟨C5.upd, _, rfl, vboolE ?_⟩
 refine Bool.eq_iff_iff.2 ?_; rw [show (decide (a = b) = true) ↔ _ from decide_eq_true_iff.trans raw_ext]; simp_all
theorem EqualRats_c (w : World) (X : Hid) (hX : ∀ k o, X k o → k < w.heap.size) (ad : Option Addr) (len cap : Nat) (xs : List Raw) (h : Rats (rd w X) ad len cap xs) (ad2 : Option Addr) (len2 cap2 : Nat) (ys : List Raw) (h2 : Rats (rd w X) ad2 len2 cap2 ys) : Calls Tryz.prog 45 #[.slice ad len cap, .slice ad2 len2 cap2] w (Ret E0 w fun _ v => v = .bool (decide (xs = ys))) := by
 obtain rfl := h.hlen
 have hcap := h.hcap
 have hbig := h.hbig
 obtain rfl := h2.hlen
 have hcap2 := h2.hcap
 have hbig2 := h2.hbig
 refine zen Tryz.func45 ?_
 have C0 : St E0 w X w X [] := St.start hX
 refine zz 15 ?_
 refine zb 10 (b := ((xs.length : Int) != (ys.length : Int))) (fun hc2 => ?_) (fun hc2 => ?_)
 ·
  have ht3 : (xs.length : Int) ≠ (ys.length : Int) := by simpa using hc2
  refine zz 8 ?_
  refine zr' (v := .bool false) ?_
  exact ⟨C0.upd, _, rfl, vboolE ((decide_eq_false (fun e => by rw [e] at ht3; exact ht3 rfl)).symm)⟩
 have ht4 : (xs.length : Int) = (ys.length : Int) := by simpa using hc2
 have hlen : xs.length = ys.length := by omega
 refine zz 10 ?_
 refine zlp Tryz.f45 [] [1, 1, 0, 1, 0] (fun (k : Nat) => [(0, .slice ad xs.length cap), (1, .slice ad2 ys.length cap2), (5, .int .i64 (k : Int))]) (fun (k : Nat) w1 => ∃ (Y1 : Hid), St E0 w X w1 Y1 [] ∧ Le (rd w X) (rd w1 Y1) ∧ (xs.take k = ys.take k) ∧ (k ≤ xs.length)) (fun (k : Nat) => xs.length - k) 0 ?_ ?_
 ·
  refine ⟨_, C0, Le.refl _, rfl, Nat.zero_le _⟩
 rintro k w5 K5 H5 ⟨Y5, C5, j5, hp5_0, hp5_1⟩
 refine zz 9 ?_
 refine zt 14 (p := (k : Int) < (xs.length : Int)) (fun ht6 => ?_) (fun ht6 => ?_)
 ·
  obtain ⟨bx, offx, xx, anx, lnx, cnx, amx, lmx, cmx, rfl, hxx, hAx, hLx, hMx⟩ := h.cell (k := k) (by omega)
  obtain ⟨bz, offz, xz, anz, lnz, cnz, amz, lmz, cmz, rfl, hxz, hAz, hLz, hMz⟩ := h2.cell (k := k) (by omega)
  have hx1 := hxx
  have hx2 := hxz
  refine zz 6 ?_
  refine zdr C5 ?_
  refine gz [0, 1] ?_
  refine gi 2 (b := bx) (off := offx) (len := xs.length) (cap := cap) (kd := .i64) (i := (k : Int)) 3 (offx + k * 3) ?_
  refine gl 3 ((hAx.mono j5)) ?_
  refine gz [4, 5] ?_
  refine gi 6 (b := bz) (off := offz) (len := ys.length) (cap := cap2) (kd := .i64) (i := (k : Int)) 3 (offz + k * 3) ?_
  refine gl 7 ((hAz.mono j5)) ?_
  refine gC 8 (fun w7 Y7 _ C7 j7 => (EqualRat_c _ _ C7.lt xx _ _ _ (hLx.mono (Le2 j5 j7)) _ _ _ (hMx.mono (Le2 j5 j7)) xz _ _ _ (hLz.mono (Le2 j5 j7)) _ _ _ (hMz.mono (Le2 j5 j7)))) ?_
  rintro v8 w7 Y8 w8 C7 j8 rfl
  refine gz [9] ?_
  refine gend (fun w9 Y9 C9 j9 => ?_)
  refine zz 1 ?_
  refine zb 26 (b := !(decide (xx = xz))) (fun hc10 => ?_) (fun hc10 => ?_)
  ·
   have ht11 : ¬ (xx = xz) := by simpa using hc10
   refine zz 12 ?_
   refine zr' (v := .bool false) ?_
   exact ⟨C9.upd, _, rfl, vboolE ((decide_eq_false (ne_at hx1 hx2 ht11)).symm)⟩
  have ht12 : xx = xz := by simpa using hc10
  refine zz 7 ?_
  refine zw 16 (x := (k : Int) + 1) ?_
  refine zz 2 ?_
  refine znext (fun a h => H5 (k + 1) _ a h ⟨_, C9, (Le3 j5 j8 j9), take_eq hp5_0 hx1 (by rw [show xx = xz from ht12]; exact hx2), by omega⟩ ?_)
  first | omega | (simp <;> omega)
 refine zz 12 ?_
 refine zr' (v := .bool true) ?_
 exact ⟨C5.upd, _, rfl, vboolE ((decide_eq_true (take_all hp5_0 hlen (by omega))).symm)⟩
theorem EqualInts_c (w : World) (X : Hid) (hX : ∀ k o, X k o → k < w.heap.size) (ad : Option Addr) (len cap : Nat) (xs : List Int) (h : Ints (rd w X) ad len cap xs) (ad2 : Option Addr) (len2 cap2 : Nat) (ys : List Int) (h2 : Ints (rd w X) ad2 len2 cap2 ys) : Calls Tryz.prog 79 #[.slice ad len cap, .slice ad2 len2 cap2] w (Ret E0 w fun _ v => v = .bool (decide (xs = ys))) := by
 obtain rfl := h.hlen
 have hcap := h.hcap
 have hbig := h.hbig
 obtain rfl := h2.hlen
 have hcap2 := h2.hcap
 have hbig2 := h2.hbig
 refine zen Tryz.func79 ?_
 have C0 : St E0 w X w X [] := St.start hX
 refine zz 15 ?_
 refine zb 10 (b := ((xs.length : Int) != (ys.length : Int))) (fun hc2 => ?_) (fun hc2 => ?_)
 ·
  have ht3 : (xs.length : Int) ≠ (ys.length : Int) := by simpa using hc2
  refine zz 8 ?_
  refine zr' (v := .bool false) ?_
  exact ⟨C0.upd, _, rfl, vboolE ((decide_eq_false (fun e => by rw [e] at ht3; exact ht3 rfl)).symm)⟩
 have ht4 : (xs.length : Int) = (ys.length : Int) := by simpa using hc2
 have hlen : xs.length = ys.length := by omega
 refine zz 10 ?_
 refine zlp Tryz.f79 [] [1, 1, 0, 1, 0] (fun (k : Nat) => [(0, .slice ad xs.length cap), (1, .slice ad2 ys.length cap2), (5, .int .i64 (k : Int))]) (fun (k : Nat) w1 => ∃ (Y1 : Hid), St E0 w X w1 Y1 [] ∧ Le (rd w X) (rd w1 Y1) ∧ (xs.take k = ys.take k) ∧ (k ≤ xs.length)) (fun (k : Nat) => xs.length - k) 0 ?_ ?_
 ·
  refine ⟨_, C0, Le.refl _, rfl, Nat.zero_le _⟩
 rintro k w5 K5 H5 ⟨Y5, C5, j5, hp5_0, hp5_1⟩
 refine zz 9 ?_
 refine zt 14 (p := (k : Int) < (xs.length : Int)) (fun ht6 => ?_) (fun ht6 => ?_)
 ·
  obtain ⟨b1, off1, rfl⟩ := h.addr (by omega)
  obtain ⟨x1, hx1, hA1⟩ := h.at (k := k) (by omega)
  have hB1 : At (rd w X) ⟨b1, off1 + k, none⟩ [.int .i64 x1] := by have h9 := hA1; unfold IntAt at h9; simpa using h9
  obtain ⟨b2, off2, rfl⟩ := h2.addr (by omega)
  obtain ⟨x2, hx2, hA2⟩ := h2.at (k := k) (by omega)
  have hB2 : At (rd w X) ⟨b2, off2 + k, none⟩ [.int .i64 x2] := by have h9 := hA2; unfold IntAt at h9; simpa using h9
  refine zz 6 ?_
  refine zdr C5 ?_
  refine gz [0, 1] ?_
  refine gi 2 (b := b1) (off := off1) (len := xs.length) (cap := cap) (kd := .i64) (i := (k : Int)) 1 (off1 + k) ?_
  refine gl 3 ((hB1.mono j5)) ?_
  refine gz [4, 5] ?_
  refine gi 6 (b := b2) (off := off2) (len := ys.length) (cap := cap2) (kd := .i64) (i := (k : Int)) 1 (off2 + k) ?_
  refine gl 7 ((hB2.mono j5)) ?_
  refine gz [8] ?_
  refine gend (fun w7 Y7 C7 j7 => ?_)
  refine zz 1 ?_
  refine zb 25 (b := ((x1) != x2)) (fun hc8 => ?_) (fun hc8 => ?_)
  ·
   have ht9 : (x1) ≠ x2 := by simpa using hc8
   refine zz 12 ?_
   refine zr' (v := .bool false) ?_
   exact ⟨C7.upd, _, rfl, vboolE ((decide_eq_false (ne_at hx1 hx2 ht9)).symm)⟩
  have ht10 : (x1) = x2 := by simpa using hc8
  refine zz 7 ?_
  refine zw 16 (x := (k : Int) + 1) ?_
  refine zz 2 ?_
  refine znext (fun a h => H5 (k + 1) _ a h ⟨_, C7, (Le2 j5 j7), take_eq hp5_0 hx1 (by rw [show x1 = x2 from ht10]; exact hx2), by omega⟩ ?_)
  first | omega | (simp <;> omega)
 refine zz 12 ?_
 refine zr' (v := .bool true) ?_
 exact ⟨C5.upd, _, rfl, vboolE ((decide_eq_true (take_all hp5_0 hlen (by omega))).symm)⟩
theorem not_take {l : List Int} {k : Nat} {x y : Int} (h : y ∉ l.take k) (hx : l[k]? = some x) (h2 : x ≠ y) : y ∉ l.take (k + 1) := by
  rw [take_snoc hx]; simp [h]; exact fun e => h2 e.symm
def atMostV (a b : Raw) : Bool := decide (cmpE a b = 0) && decide (cmpR a b ≤ 0)
theorem Long06_c (w : World) (X : Hid) (hX : ∀ k o, X k o → k < w.heap.size) (ad : Option Addr) (len cap : Nat) (xs : List Raw) (h : Rats (rd w X) ad len cap xs) : Calls Tryz.prog 49 #[.slice ad len cap] w (Ret E0 w fun _ v => ∃ b, v = .bool b ∧ (b = false → ∀ x ∈ xs, x.ln.length ≤ 200 ∧ x.ld.length ≤ 200)) := by
 obtain rfl := h.hlen
 have hcap := h.hcap
 have hbig := h.hbig
 refine zen Tryz.func49 ?_
 have C0 : St E0 w X w X [] := St.start hX
 refine zz 12 ?_
 refine zlp Tryz.f49 [] [1, 0, 1, 0] (fun (k : Nat) => [(0, .slice ad xs.length cap), (3, .int .i64 (k : Int))]) (fun (k : Nat) w1 => ∃ (Y1 : Hid), St E0 w X w1 Y1 [] ∧ Le (rd w X) (rd w1 Y1) ∧ (k ≤ xs.length) ∧ (∀ x ∈ xs.take k, x.ln.length ≤ 200 ∧ x.ld.length ≤ 200)) (fun (k : Nat) => xs.length - k) 0 ?_ ?_
 ·
  refine ⟨_, C0, Le.refl _, Nat.zero_le _, fun _ h => absurd h (by simp)⟩
 rintro k w2 K2 H2 ⟨Y2, C2, j2, hp2_0, hp2_1⟩
 refine zz 9 ?_
 refine zt 9 (p := (k : Int) < (xs.length : Int)) (fun ht3 => ?_) (fun ht3 => ?_)
 ·
  obtain ⟨bx, offx, xx, anx, lnx, cnx, amx, lmx, cmx, rfl, hxx, hAx, hLx, hMx⟩ := h.cell (k := k) (by omega)
  have hA1 := hAx.one (i := 1) rfl
  have hA2 := hAx.one (i := 2) rfl
  refine zz 6 ?_
  refine zdr C2 ?_
  refine gz [0, 1] ?_
  refine gi 2 (b := bx) (off := offx) (len := xs.length) (cap := cap) (kd := .i64) (i := (k : Int)) 3 (offx + k * 3) ?_
  refine gz [3] ?_
  refine gl 4 ((hA1.mono j2)) ?_
  refine gz [5, 6, 7] ?_
  refine gi 8 (b := bx) (off := offx) (len := xs.length) (cap := cap) (kd := .i64) (i := (k : Int)) 3 (offx + k * 3) ?_
  refine gz [9] ?_
  refine gl 10 ((hA2.mono j2)) ?_
  refine gz [11, 12, 13] ?_
  refine gend (fun w4 Y4 C4 j4 => ?_)
  refine zz 1 ?_
  refine zjoin (fun (bj5_45 : Bool) => [(0, .slice (some ⟨bx, offx, none⟩) xs.length cap), (3, .int .i64 (k : Int)), (45, .bool bj5_45)]) (fun (bj5_45 : Bool) w1 => ∃ Y1 : Hid, St E0 w X w1 Y1 [] ∧ Le (rd w4 Y4) (rd w1 Y1) ∧ (bj5_45 = false → lnx ≤ 200 ∧ lmx ≤ 200)) ?_ ?_
  ·
   rintro bj5_45 w5 ⟨Y5, C5, j5, hjp5⟩
   refine zb 45 (b := bj5_45) (fun hc6 => ?_) (fun hc6 => ?_)
   ·
    have ht7 : bj5_45 = true := by simpa using hc6
    refine zz 12 ?_
    refine zr' (v := .bool true) ?_
    exact ⟨C5.upd, _, rfl, _, rfl, fun e => by cases e⟩
   have ht8 : bj5_45 = false := by simpa using hc6
   refine zz 7 ?_
   refine zw 11 (x := (k : Int) + 1) ?_
   refine zz 2 ?_
   refine znext (fun a h => H2 (k + 1) _ a h ⟨_, C5, (Le3 j2 j4 j5), by omega, by rw [take_snoc hxx]; intro x hx; rcases List.mem_append.1 hx with h1 | h1; exact hp2_1 x h1; obtain rfl := List.mem_singleton.1 h1; have h9 := hjp5 ht8; have h8 := hLx.hlen; have h7 := hMx.hlen; omega⟩ ?_)
   first | omega | (simp <;> omega)
  intro K9 H9
  refine zz 4 ?_
  refine zt 26 (p := (lnx : Int) > 6) (fun ht10 => ?_) (fun ht10 => ?_)
  ·
   refine zz 4 ?_
   refine zt 30 (p := (lnx : Int) ≤ 128) (fun ht11 => ?_) (fun ht11 => ?_)
   ·
    refine zz 16 ?_
    exact znext (fun a h => H9 true _ a h ⟨_, C4, (Le.refl _), fun e => by first | (cases e; done) | (have e9 := of_decide_eq_false e; omega)⟩)
   refine zz 3 ?_
   refine zt 33 (p := (lmx : Int) > 6) (fun ht12 => ?_) (fun ht12 => ?_)
   ·
    refine zz 5 ?_
    refine zt 38 (p := (lmx : Int) ≤ 128) (fun ht13 => ?_) (fun ht13 => ?_)
    ·
     refine zz 8 ?_
     exact znext (fun a h => H9 true _ a h ⟨_, C4, (Le.refl _), fun e => by first | (cases e; done) | (have e9 := of_decide_eq_false e; omega)⟩)
    refine zz 4 ?_
    refine zt 42 (p := (lnx : Int) > 200) (fun ht14 => ?_) (fun ht14 => ?_)
    ·
     refine zz 4 ?_
     exact znext (fun a h => H9 true _ a h ⟨_, C4, (Le.refl _), fun e => by first | (cases e; done) | (have e9 := of_decide_eq_false e; omega)⟩)
    refine zz 4 ?_
    exact znext (fun a h => H9 (decide ((lmx : Int) > 200)) _ a h ⟨_, C4, (Le.refl _), fun e => by first | (cases e; done) | (have e9 := of_decide_eq_false e; omega)⟩)
   refine zz 9 ?_
   refine zt 42 (p := (lnx : Int) > 200) (fun ht15 => ?_) (fun ht15 => ?_)
   ·
    refine zz 4 ?_
    exact znext (fun a h => H9 true _ a h ⟨_, C4, (Le.refl _), fun e => by first | (cases e; done) | (have e9 := of_decide_eq_false e; omega)⟩)
   refine zz 4 ?_
   exact znext (fun a h => H9 (decide ((lmx : Int) > 200)) _ a h ⟨_, C4, (Le.refl _), fun e => by first | (cases e; done) | (have e9 := of_decide_eq_false e; omega)⟩)
  refine zz 7 ?_
  refine zt 33 (p := (lmx : Int) > 6) (fun ht16 => ?_) (fun ht16 => ?_)
  ·
   refine zz 5 ?_
   refine zt 38 (p := (lmx : Int) ≤ 128) (fun ht17 => ?_) (fun ht17 => ?_)
   ·
    refine zz 8 ?_
    exact znext (fun a h => H9 true _ a h ⟨_, C4, (Le.refl _), fun e => by first | (cases e; done) | (have e9 := of_decide_eq_false e; omega)⟩)
   refine zz 4 ?_
   refine zt 42 (p := (lnx : Int) > 200) (fun ht18 => ?_) (fun ht18 => ?_)
   ·
    refine zz 4 ?_
    exact znext (fun a h => H9 true _ a h ⟨_, C4, (Le.refl _), fun e => by first | (cases e; done) | (have e9 := of_decide_eq_false e; omega)⟩)
   refine zz 4 ?_
   exact znext (fun a h => H9 (decide ((lmx : Int) > 200)) _ a h ⟨_, C4, (Le.refl _), fun e => by first | (cases e; done) | (have e9 := of_decide_eq_false e; omega)⟩)
  refine zz 9 ?_
  refine zt 42 (p := (lnx : Int) > 200) (fun ht19 => ?_) (fun ht19 => ?_)
  ·
   refine zz 4 ?_
   exact znext (fun a h => H9 true _ a h ⟨_, C4, (Le.refl _), fun e => by first | (cases e; done) | (have e9 := of_decide_eq_false e; omega)⟩)
  refine zz 4 ?_
  exact znext (fun a h => H9 (decide ((lmx : Int) > 200)) _ a h ⟨_, C4, (Le.refl _), fun e => by first | (cases e; done) | (have e9 := of_decide_eq_false e; omega)⟩)
 refine zz 12 ?_
 refine zr' (v := .bool false) ?_
 exact ⟨C2.upd, _, rfl, _, rfl, fun _ => by have h9 := hp2_1; rwa [List.take_of_length_le (by omega)] at h9⟩
end Go.Proofs.YtppalofalmieaaaGreat
namespace Go.Proofs.YtppalofalmieaaaGreat
open Go Go.Gv Go.RowKit
set_option maxRecDepth 100000
set_option maxHeartbeats 1000000
theorem cut5_c (w : World) (X : Hid) (hX : ∀ k o, X k o → k < w.heap.size) (ad : Option Addr) (len cap : Nat) (l : List Nat) (h : Limbs (rd w X) ad len cap l) :
    Calls Tryz.prog 149 #[.slice ad len cap] w (Ret E0 w fun _ v => v = .slice ad (trimN l) cap) := by
 obtain rfl := h.hlen
 have hl := h.hlen
 have hcap := h.hcap
 have hbig := h.hbig
 refine zen Tryz.func149 ?_
 have C0 : St E0 w X w X [] := St.start hX
 refine zz 7 ?_
 refine zlp Tryz.f149 [] [1, 0, 0] (fun (k : Nat) => [(0, .slice ad k cap)]) (fun (k : Nat) w1 => ∃ (Y1 : Hid), St E0 w X w1 Y1 [] ∧ Le (rd w X) (rd w1 Y1) ∧ (k ≤ l.length) ∧ (trimTo l k = trimTo l l.length)) (fun (k : Nat) => k) l.length ?_ ?_
 ·
  refine ⟨_, C0, Le.refl _, Nat.le_refl _, rfl⟩
 rintro k w2 K2 H2 ⟨Y2, C2, j2, hp2_0, hp2_1⟩
 have hk := hp2_0
 have ht := hp2_1
 refine zz 7 ?_
 refine zt 6 (p := (k : Int) > 0) (fun ht3 => ?_) (fun ht3 => ?_)
 ·
  obtain ⟨bk4, of5, rfl, _⟩ := h.addr (by omega)
  have hcell := (h.cell (i := k - 1) (by omega))
  refine zz 4 ?_
  refine zw 10 (x := (k : Int) - 1) ?_
  refine zi (b := bk4) (off := of5) (len := k) (cap := cap) (kd := .i64) (i := (k : Int) - 1) 1 (of5 + (k - 1)) ?_ (hoff := (by first | omega | (simp; done) | (simp; omega)))
  refine zl ((hcell.mono j2)).cells ?_
  refine zz 4 ?_
  refine zb 14 (b := (((l.getD (k - 1) 0 : Nat) : Int) == 0)) (fun hc6 => ?_) (fun hc6 => ?_)
  ·
   have ht7 : ((l.getD (k - 1) 0 : Nat) : Int) = 0 := by simpa using hc6
   have hk2 := trimTo_pred (l := l) (k := k) (by omega) (by omega)
   refine zz 9 ?_
   refine zw 18 (x := (k : Int) - 1) ?_
   refine zop (at1 [K2] Tryz.f149 [1, 0, 0, 0, 1, 0]) 4 (fun a8 _ G8 hz8 => zF (d := 19) (v := .slice (some ⟨bk4, of5, none⟩) (k - 1) cap) G8 kr (run_sliceTo' (t := 26) (e := 56) (ad := (some ⟨bk4, of5, none⟩)) (len := k) (cap := cap) (kd := .i64) (i := (k : Int) - 1) (h' := (k - 1)) (g := false) (m := 1) rfl kr kr kr kr (by omega) (by omega) (by first | omega | (simp; done) | (simp; omega)) _) ?_)
   intro a9 G9
   refine hz8 G9 ?_
   refine zz 3 ?_
   refine znext (fun a h => H2 (k - 1) _ a h ⟨_, C2, j2, by omega, by omega⟩ ?_)
   first | omega | (simp <;> omega)
  have ht10 : ((l.getD (k - 1) 0 : Nat) : Int) ≠ 0 := by simpa using hc6
  have hk2 := trimTo_here (l := l) (k := k) (by omega) (by omega)
  refine zz 13 ?_
  refine zr' (v := .slice (some ⟨bk4, of5, none⟩) k cap) ?_
  exact ⟨C2.upd, _, rfl, by unfold trimN; first | rw [← ht, hk2] | rw [← ht]; rfl⟩
 obtain rfl : k = 0 := by omega
 refine zz 23 ?_
 refine zr' (v := .slice ad 0 cap) ?_
 exact ⟨C2.upd, _, rfl, by unfold trimN; first | rw [← ht, hk2] | rw [← ht]; rfl⟩
theorem check5_c (w : World) (X : Hid) (hX : ∀ k o, X k o → k < w.heap.size) (ad : Option Addr) (len cap : Nat) (l : List Nat) (h : Limbs (rd w X) ad len cap l) : Calls Tryz.prog 148 #[.slice ad len cap] w (Ret E0 w fun _ v => v = .int .i64 (chkN l)) := by
 obtain rfl := h.hlen
 have hcap := h.hcap
 have hbig := h.hbig
 refine zen Tryz.func148 ?_
 have C0 : St E0 w X w X [] := St.start hX
 refine zz 13 ?_
 refine zt 5 (p := (l.length : Int) > 512) (fun ht2 => ?_) (fun ht2 => ?_)
 ·
  refine zz 8 ?_
  refine zr' (v := .int .i64 4) ?_
  exact ⟨C0.upd, _, rfl, vint (by unfold chkN; (repeat' split) <;> first | rfl | omega)⟩
 refine zz 10 ?_
 refine zt 9 (p := (l.length : Int) > 0) (fun ht3 => ?_) (fun ht3 => ?_)
 ·
  obtain ⟨bk4, of5, rfl, _⟩ := h.addr (by omega)
  refine zz 4 ?_
  refine zw 13 (x := (l.length : Int) - 1) ?_
  refine zi (b := bk4) (off := of5) (len := l.length) (cap := cap) (kd := .i64) (i := (l.length : Int) - 1) 1 (of5 + (l.length - 1)) ?_ (hoff := (by first | omega | (simp; done) | (simp; omega)))
  refine zl ((h.cell (i := (l.length - 1)) (by omega)).mono (Le.refl _)).cells ?_
  refine zz 4 ?_
  refine zb 17 (b := (((l.getD (l.length - 1) 0 : Nat) : Int) == 0)) (fun hc6 => ?_) (fun hc6 => ?_)
  ·
   have ht7 : ((l.getD (l.length - 1) 0 : Nat) : Int) = 0 := by simpa using hc6
   refine zz 8 ?_
   refine zr' (v := .int .i64 2) ?_
   exact ⟨C0.upd, _, rfl, vint (by unfold chkN; (repeat' split) <;> first | rfl | omega)⟩
  have ht8 : ((l.getD (l.length - 1) 0 : Nat) : Int) ≠ 0 := by simpa using hc6
  refine zz 9 ?_
  refine zr' (v := .int .i64 0) ?_
  exact ⟨C0.upd, _, rfl, vint (by unfold chkN; (repeat' split) <;> first | rfl | omega)⟩
 refine zz 19 ?_
 refine zr' (v := .int .i64 0) ?_
 exact ⟨C0.upd, _, rfl, vint (by unfold chkN; (repeat' split) <;> first | rfl | omega)⟩
theorem limb5_c (w : World) (X : Hid) (hX : ∀ k o, X k o → k < w.heap.size) (ad : Option Addr) (len cap : Nat) (l : List Nat) (h : Limbs (rd w X) ad len cap l) (i : Nat) : Calls Tryz.prog 164 #[.slice ad len cap, .int .i64 (i : Int)] w (Ret E0 w fun _ v => v = .int .u64 ((l.getD i 0 : Nat) : Int)) := by
 obtain rfl := h.hlen
 have hcap := h.hcap
 have hbig := h.hbig
 have hlt := h.getD_lt i
 refine zen Tryz.func164 ?_
 have C0 : St E0 w X w X [] := St.start hX
 refine zz 14 ?_
 refine zt 8 (p := (i : Int) < (l.length : Int)) (fun ht2 => ?_) (fun ht2 => ?_)
 ·
  obtain ⟨bk3, of4, rfl, _⟩ := h.addr (by omega)
  refine zz 5 ?_
  refine zi (b := bk3) (off := of4) (len := l.length) (cap := cap) (kd := .i64) (i := (i : Int)) 1 (of4 + i) ?_
  refine zl ((h.cell (i := i) (by omega)).mono (Le.refl _)).cells ?_
  refine zz 1 ?_
  refine zs 13 (v := .int .u64 (IntKind.u64.wrap (((l.getD i 0 : Nat) : Int)))) (v' := .int .u64 ((l.getD i 0 : Nat) : Int)) (vint (wu64 (by omega) (by omega))) ?_
  refine zz 5 ?_
  refine zr' (v := .int .u64 ((l.getD i 0 : Nat) : Int)) ?_
  exact ⟨C0.upd, _, rfl, vint (by first | rfl | (rw [List.getD_eq_getElem?_getD, List.getElem?_eq_none (by omega)]; rfl))⟩
 refine zz 9 ?_
 refine zr' (v := .int .u64 0) ?_
 exact ⟨C0.upd, _, rfl, vint (by first | rfl | (rw [List.getD_eq_getElem?_getD, List.getElem?_eq_none (by omega)]; rfl))⟩
end Go.Proofs.YtppalofalmieaaaGreat
namespace Go.Proofs.YtppalofalmieaaaGreat
open Go Go.Gv Go.RowKit
set_option maxRecDepth 100000
set_option maxHeartbeats 1000000
theorem trimN_le {len : Nat} (l : List Nat) (h : len = l.length) : trimN l ≤ len := by rw [h]; exact trimTo_le l _
theorem mx1 {l l2 : List Nat} {k c : Nat} (hc : ¬ 0 < c) (h1 : ¬ k < l.length) (h2 : ¬ k < l2.length) {v : Nat} (h : v + c * 4294967296 ^ k = val (l.take k) + val (l2.take k)) : v = val l + val l2 := by
  rw [List.take_of_length_le (by omega), List.take_of_length_le (by omega), show c = 0 by omega] at h; omega
theorem snoc_lt {ls : List Nat} {x : Nat} (h : ∀ y ∈ ls, y < 4294967296) (hx : x < 4294967296) : ∀ y ∈ ls ++ [x], y < 4294967296 := fun y hy => by
  rcases List.mem_append.1 hy with h1 | h1
  · exact h y h1
  · obtain rfl := List.mem_singleton.1 h1; exact hx
theorem getD_out {l : List Nat} {k : Nat} (h : l.length ≤ k) : l.getD k 0 = 0 := by rw [List.getD_eq_getElem?_getD, List.getElem?_eq_none h]; rfl
theorem sum5_c (w : World) (X : Hid) (hX : ∀ k o, X k o → k < w.heap.size) (ad : Option Addr) (len cap : Nat) (l : List Nat) (h : Limbs (rd w X) ad len cap l) (ad2 : Option Addr) (len2 cap2 : Nat) (l2 : List Nat) (h2 : Limbs (rd w X) ad2 len2 cap2 l2) (hm : len ≤ 1000000) (hm2 : len2 ≤ 1000000) : Calls Tryz.prog 137 #[.slice ad len cap, .slice ad2 len2 cap2] w (Ret E0 w fun w' v => NatX X w' v (val l + val l2)) := by
 obtain rfl := h.hlen
 obtain rfl := h2.hlen
 have hcap := h.hcap
 have hbig := h.hbig
 have hcap2 := h2.hcap
 have hbig2 := h2.hbig
 refine zen Tryz.func137 ?_
 have C0 : St E0 w X w X [] := St.start hX
 refine zz 22 ?_
 refine zlp Tryz.f137 [] [1, 1, 1, 0, 1, 0] (fun ((k, ad8, cap8, c) : Nat × (Option Addr) × Nat × Nat) => [(0, .slice ad l.length cap), (1, .slice ad2 l2.length cap2), (5, .slice ad8 k cap8), (6, .int .u64 (c : Int)), (7, .int .i64 (k : Int))]) (fun ((k, ad8, cap8, c) : Nat × (Option Addr) × Nat × Nat) w1 => ∃ (Y1 : Hid) (rb : List (Nat × Obj)) (ls : List Nat), St E0 w X w1 Y1 (rb) ∧ Le (rd w X) (rd w1 Y1) ∧ (TRow 56 1 rb ad8 k cap8 (U32 ls)) ∧ (ls.length = k) ∧ (∀ x ∈ ls, x < 4294967296) ∧ (val ls + c * 4294967296 ^ k = val (l.take k) + val (l2.take k)) ∧ (c ≤ 1) ∧ (k ≤ max l.length l2.length + 1) ∧ (k = max l.length l2.length + 1 → c = 0)) (fun ((k, ad8, cap8, c) : Nat × (Option Addr) × Nat × Nat) => max l.length l2.length + 1 - k) (0, none, 0, 0) ?_ ?_
 ·
  refine ⟨_, [], [], C0, Le.refl _, TRow.nil _ _, rfl, fun _ h => absurd h (by simp), by simp [val], by omega, Nat.zero_le _, fun _ => rfl⟩
 rintro ⟨k, ad8, cap8, c⟩ w2 K2 H2 ⟨Y2, rb, ls, C2, j2, hp2_0, hp2_1, hp2_2, hp2_3, hp2_4, hp2_5, hp2_6⟩
 have hrw := hp2_0
 have hrl := hp2_1
 have hrt := hp2_2
 have hv := hp2_3
 have hc := hp2_4
 have hk := hp2_5
 have hkc := hp2_6
 have hlt1 := h.getD_lt k
 have hlt2 := h2.getD_lt k
 refine zz 1 ?_
 refine zjoin (fun (bj3_22 : Bool) => [(0, .slice ad l.length cap), (1, .slice ad2 l2.length cap2), (5, .slice ad8 k cap8), (6, .int .u64 (c : Int)), (7, .int .i64 (k : Int)), (22, .bool bj3_22)]) (fun (bj3_22 : Bool) w1 => ∃ Y1 : Hid, St E0 w X w1 Y1 (rb) ∧ Le (rd w2 Y2) (rd w1 Y1) ∧ (bj3_22 = true ↔ (k < l.length ∨ k < l2.length ∨ 0 < c))) ?_ ?_
 ·
  rintro bj3_22 w3 ⟨Y3, C3, j3, hjp3⟩
  refine zb 22 (b := bj3_22) (fun hc4 => ?_) (fun hc4 => ?_)
  ·
   have ht5 : bj3_22 = true := by simpa using hc4
   have hgo := hjp3.1 ht5
   refine zz 9 ?_
   refine zc C3 (limb5_c _ X0 (X0_lt _) _ _ _ l ((h.mono (Le2 j2 j3)).mono Le.x0) k) ?_
   rintro v7 w7 C7 j7 hu7 rfl
   refine zz 2 ?_
   refine zc C7 (limb5_c _ X0 (X0_lt _) _ _ _ l2 ((h2.mono (Le3 j2 j3 j7)).mono Le.x0) k) ?_
   rintro v9 w9 C9 j9 hu9 rfl
   refine zz 1 ?_
   refine zs 31 (v := .int .u64 (IntKind.u64.wrap (((l.getD k 0 : Nat) : Int) + ((l2.getD k 0 : Nat) : Int)))) (v' := .int .u64 (((l.getD k 0 : Nat) : Int) + ((l2.getD k 0 : Nat) : Int))) (vint (wu64 (by omega) (by omega))) ?_
   refine zz 2 ?_
   refine zs 33 (v := .int .u64 (IntKind.u64.wrap ((((l.getD k 0 : Nat) : Int) + ((l2.getD k 0 : Nat) : Int)) + (c : Int)))) (v' := .int .u64 (((l.getD k 0 + l2.getD k 0 + c) : Nat) : Int)) (vint ((wu64 (by omega) (by omega)).trans (by omega))) ?_
   refine zz 8 ?_
   refine zs 36 (v := .int .u64 (Int.tmod ((((l.getD k 0 + l2.getD k 0 + c) : Nat) : Int)) (4294967296))) (v' := .int .u64 (((l.getD k 0 + l2.getD k 0 + c) % 4294967296 : Nat) : Int)) (vint (by rfl)) ?_
   refine zz 1 ?_
   refine zs 37 (v := .int .u32 (IntKind.u32.wrap ((((l.getD k 0 + l2.getD k 0 + c) % 4294967296 : Nat) : Int)))) (v' := .int .u32 (((l.getD k 0 + l2.getD k 0 + c) % 4294967296 : Nat) : Int)) (vint (wu32 (by omega) (by omega))) ?_
   refine zn (fun b => .slice (some ⟨b, 0, none⟩) 1 1) (.cells #[.int .u32 (((l.getD k 0 + l2.getD k 0 + c) % 4294967296 : Nat) : Int)] 56 (0, 0)) C9 ?_
   intro b11 w11 Y11 C11 j11 hu11
   refine zop (at1 [K2] Tryz.f137 [1, 1, 1, 0, 1, 0, 0, 1, 0, 0, 1, 0]) 5 (fun a12 _ G12 hz12 => op_appEZ (b := 4) (m := 1) (c := 1) (ad := ⟨b11, 0, none⟩) (news := [.int .u32 (((l.getD k 0 + l2.getD k 0 + c) % 4294967296 : Nat) : Int)]) (i0 := Tryz.t56) (R1 := []) 1 G12 C11 rfl hrw (C11.cells 0 rfl rfl) (by omega) (by omega) ?_)
   intro rb13 ad13 cap13 w13 Y13 hrow13 C13 j13 a14 G14
   have hrw13 : TRow 56 1 rb13 ad13 (k + 1) cap13 (U32 (ls ++ [(l.getD k 0 + l2.getD k 0 + c) % 4294967296])) := by rw [← U32_snoc]; exact hrow13
   refine hz12 G14 ?_
   refine zz 6 ?_
   refine zs 41 (v := .int .u64 (IntKind.u64.wrap (Int.tdiv ((((l.getD k 0 + l2.getD k 0 + c) : Nat) : Int)) (4294967296)))) (v' := .int .u64 (((l.getD k 0 + l2.getD k 0 + c) / 4294967296 : Nat) : Int)) (vint (u64_quo _ (by omega))) ?_
   refine zz 7 ?_
   refine zw 24 (x := (k : Int) + 1) ?_
   refine zz 2 ?_
   have hc1_ := (Le5 j2 j3 j7 j9 j11).trans j13
   refine znext (fun a h => H2 ((k + 1, ad13, cap13, (l.getD k 0 + l2.getD k 0 + c) / 4294967296)) _ a h ⟨_, rb13, (ls ++ [(l.getD k 0 + l2.getD k 0 + c) % 4294967296]), C13.tail, hc1_, hrw13, by rw [List.length_append, hrl]; rfl, snoc_lt hrt (by omega), sumstep _ _ _ _ _ hrl hv, by omega, by omega, fun hk9 => by have e1 : l.getD k 0 = 0 := getD_out (by omega); have e2 : l2.getD k 0 = 0 := getD_out (by omega); omega⟩ ?_)
   first | omega | (simp <;> omega)
  have ht15 : bj3_22 = false := by simpa using hc4
  have hno : ¬ (k < l.length ∨ k < l2.length ∨ 0 < c) := fun e => by rw [hjp3.2 e] at ht15; cases ht15
  have hend := mx1 (fun e => hno (.inr (.inr e))) (fun e => hno (.inl e)) (fun e => hno (.inr (.inl e))) hv
  refine zz 9 ?_
  obtain ⟨Y17, hSx17, j17, hL17⟩ := St.pubLimbs (A := []) (B := []) (fun rb => (rb)) C3 (fun _ => by simp only [List.append_assoc, List.cons_append, List.nil_append, List.append_nil]) hrw hrl.symm hrt
  have C17 : St E0 w X w3 Y17 [] := hSx17
  refine zc C17 (cut5_c _ _ C17.lt _ _ _ ls hL17) ?_
  rintro v18 w18 C18 j18 hu18 rfl
  refine zz 4 ?_
  refine zr' (v := .slice ad8 (trimN ls) cap8) ?_
  exact ⟨C18.upd, _, rfl, _, _, _, rfl, _, ((hL17.sub (trimN_le _ hL17.hlen)).mono (Le.trans j18 C18.le)), canon_trimmed _, by rw [show List.take (trimN ls) ls = Go.Gv.trimmed ls from rfl, val_trimmed]; exact hend⟩
 intro K19 H19
 refine zz 6 ?_
 refine zt 13 (p := (k : Int) < (l.length : Int)) (fun ht20 => ?_) (fun ht20 => ?_)
 ·
  refine zz 10 ?_
  exact znext (fun a h => H19 true _ a h ⟨_, C2, (Le.refl _), by first | exact ⟨fun _ => by omega, fun _ => rfl⟩ | exact ⟨fun e => by have := of_decide_eq_true e; omega, fun e => decide_eq_true (by omega)⟩⟩)
 refine zz 6 ?_
 refine zt 19 (p := (k : Int) < (l2.length : Int)) (fun ht21 => ?_) (fun ht21 => ?_)
 ·
  refine zz 4 ?_
  exact znext (fun a h => H19 true _ a h ⟨_, C2, (Le.refl _), by first | exact ⟨fun _ => by omega, fun _ => rfl⟩ | exact ⟨fun e => by have := of_decide_eq_true e; omega, fun e => decide_eq_true (by omega)⟩⟩)
 refine zz 4 ?_
 exact znext (fun a h => H19 (decide ((c : Int) > 0)) _ a h ⟨_, C2, (Le.refl _), by first | exact ⟨fun _ => by omega, fun _ => rfl⟩ | exact ⟨fun e => by have := of_decide_eq_true e; omega, fun e => decide_eq_true (by omega)⟩⟩)
end Go.Proofs.YtppalofalmieaaaGreat

/- Parts of the proof: F17 F18 F19 F20 F21 F22 F23 F24 F25 F28 F40 R1 R2 R3 R5 R6 R7 R8 R9 R11 R12 R16 R17 HxB HxC HxD T1 A1. By an AI agent. -/
import Derived.Test.YtppalofalmieaaaGreatBaseA
import Derived.Test.YtppalofalmieaaaGreatBaseB
set_option linter.unusedVariables false
set_option linter.unusedSimpArgs false
set_option linter.unnecessarySimpa false
namespace Go.Proofs.YtppalofalmieaaaGreat
open Go Go.Gv Go.RowKit
set_option maxRecDepth 100000
set_option maxHeartbeats 1000000
theorem cmpI_ge {x y : Nat} (h : cmpI (x : Int) (y : Int) ≥ 0) : y ≤ x := cmpI_ge0 (by omega)
theorem cmpI_nge {x y : Nat} (h : ¬ cmpI (x : Int) (y : Int) ≥ 0) : x < y := cmpI_lt0 (by omega)
theorem divide_c (w : World) (X : Hid) (hX : ∀ k o, X k o → k < w.heap.size) (ad : Option Addr) (len cap : Nat) (l : List Nat) (h : Limbs (rd w X) ad len cap l) (ad2 : Option Addr) (len2 cap2 : Nat) (l2 : List Nat) (h2 : Limbs (rd w X) ad2 len2 cap2 l2) (hc1 : Canon l) (hc2 : Canon l2) (hl1 : len ≤ 512) (hl2 : len2 ≤ 512) (hd : 0 < val l2) : Calls Tryz.prog 171 #[.slice ad len cap, .slice ad2 len2 cap2] w (Ret E0 w fun w' v => ∃ u u2 lq lr ad len cap ad2 len2 cap2, v = .tuple #[u, u2] ∧ OwnN 56 w w' u lq ad len cap (val l / val l2) ∧ OwnN 56 w w' u2 lr ad2 len2 cap2 (val l % val l2)) := by
 obtain rfl := h.hlen
 obtain rfl := h2.hlen
 have hcap := h.hcap
 have hbig := h.hbig
 have hcap2 := h2.hcap
 have hbig2 := h2.hbig
 refine m_enter (n := 38) (vs := [.slice ad l.length cap, .slice ad2 l2.length cap2]) Tryz.func171 rfl rfl rfl kr (fun a0 C0 => ?_)
 have C0 : Fr 38 a0 [(0, .slice ad l.length cap), (1, .slice ad2 l2.length cap2)] := C0
 have B0 : St E0 w X w X [] := St.start hX
 refine zG (fun K1 G1 => ?_)
 refine zD ?_
 refine wplI C0 kr (op_new (d := 3) (fun b => .pointer (some ⟨b, 0, none⟩)) (.cells #[.slice ad2 l2.length cap2] 26 (0, 0)) C0 kr B0 kw ?_)
 intro b2 w2 Y2 B2 j2 hu2 a3 C3
 refine wplI C3 kr (op_new (d := 4) (fun b => .pointer (some ⟨b, 0, none⟩)) (.cells #[.slice none 0 0] 26 (0, 0)) C3 kr B2 kw ?_)
 intro b4 w4 Y4 B4 j4 hu4 a5 C5
 refine wplI C5 kr (op_new (d := 5) (fun b => .pointer (some ⟨b, 0, none⟩)) (.cells #[.slice none 0 0] 26 (0, 0)) C5 kr B4 kw ?_)
 intro b6 w6 Y6 B6 j6 hu6 a7 C7
 refine zH ?_
 refine zA (G1 _ _ ?_)
 refine zG (fun K8 G8 => ?_)
 refine zD ?_
 refine zE 2 [(9, .int .i64 (l.length : Int)), (8, .slice ad l.length cap)] C7 kr kr (fun a9 C9 => ?_)
 refine wplI C9 kr (op_make (d := 10) (t := 26) (e := 56) (m := l.length) (l := (l.length : Int)) (z := .int .u32 0) (i0 := Tryz.t56) C9 kr B6 rfl kr (by first | rfl | omega) kr kr kr kr kr (by show 4 * _ ≤ _; omega) (by omega) ?_)
 intro b10 w10 Y10 B10 j10 hu10 a11 C11
 have hrow10 := URow.zeros l.length (by simp only [maxLen]; omega)
 refine wplI C11 kr (zF (t := 26) (b := b4) (off := 0) (c' := #[.slice (some ⟨b10, 0, none⟩) l.length l.length]) (g := false) (m := 1) 2 _ C11 kr B10 rfl kr rfl kr kr kr rfl (by first | decide | (simp; done)) kr rfl ?_)
 intro w12 B12 j12
 refine zH ?_
 refine zA (G8 _ _ ?_)
 refine zG (fun K13 G13 => ?_)
 refine zG (fun K14 G14 => ?_)
 refine zD ?_
 refine zE 1 [(11, .slice ad l.length cap)] C11 kr kr (fun a15 C15 => ?_)
 refine wplI C15 kr (op_call (d := 12) (f := 189) (cap := #[]) (vs := #[.slice ad l.length cap]) C15 kr B12 rfl kr kr (fun w => Tryz.call189 _ w) (digits_c _ _ B12.lt ad l.length cap) ?_)
 rintro v16 w16 B16 j16 hu16 ⟨bx16, rfl, hge16, hget16⟩ a17 C17
 have B18 := St.adopt B16 (fun o h => Nat.not_lt.2 hge16 (B12.lt _ _ h)) (Nat.le_trans B12.upd.size hge16) hget16
 have j18 := Le.adopt j16 hge16
 refine zH ?_
 refine zA (G14 _ _ ?_)
 refine i_block ?_
 refine i_range2 (f := 200) (caps := #[.pointer (some ⟨bx16, 0, none⟩)]) C17 B18 kr kr (fun args w => Tryz.call200 args w) ?_
 intro rec19 l19 b19 w19 Y19 hr19 B19 j19 hu19
 have C20 := fr_marked b19 C17
 refine digits1_c l19 bx16 ad l.length cap l (by omega) (fun k w' => ∃ (Y' : Hid) (curq : Array Value) (lq : List Nat) (rb : List (Nat × Obj)) (adr : Option Addr) (capr : Nat) (lr : List Nat) (q : Nat), St E0 w X w' Y' ((l19, .loop rec19) :: (b19, .deferred (some [])) :: (bx16, .cells #[.slice ad l.length cap] 26 (0, 0)) :: (b10, .cells curq 56 (0, 0)) :: (b6, .cells #[.slice adr lr.length capr] 26 (0, 0)) :: (b4, .cells #[.slice (some ⟨b10, 0, none⟩) l.length l.length] 26 (0, 0)) :: (b2, .cells #[.slice ad2 l2.length cap2] 26 (0, 0)) :: rb) ∧ Le (rd w19 Y19) (rd w' Y') ∧ (URow l.length l.length curq lq) ∧ (RSt 56 rb adr capr lr) ∧ (Canon lr) ∧ (val lq = 2 ^ k * q) ∧ (val l / 2 ^ k = q * val l2 + val lr) ∧ (val lr < val l2)) _ _ ((h.mono (Le7 j2 j4 j6 j10 j12 j18 j19)).mono Le.x0) ?_ ?_ ?_ ?_ (B19.at0 2 rfl rfl) ?_
 ·
  rintro k w21 ⟨Y21, curq, lq, rb, adr, capr, lr, q, B21, j21, hp21_0, hp21_1, hp21_2, hp21_3, hp21_4, hp21_5⟩
  exact B21.at0 2 rfl rfl
 ·
  rintro k w22 ⟨Y22, curq, lq, rb, adr, capr, lr, q, B22, j22, hp22_0, hp22_1, hp22_2, hp22_3, hp22_4, hp22_5⟩
  intro hk
  obtain ⟨b, off, rfl, _⟩ := h.addr (by omega)
  exact ⟨b, off, rfl, ((h.cell (i := k / 32) (by omega)).mono (Le8 j2 j4 j6 j10 j12 j18 j19 j22)).mono Le.x0⟩
 ·
  intro k w23 hk
  rintro ⟨Y23, curq, lq, rb, adr, capr, lr, q, B23, j23, hp23_0, hp23_1, hp23_2, hp23_3, hp23_4, hp23_5⟩
  refine y_round2 (p := 13) (q := 14) hr19 C17 B23 kr kr (fun a24 C24 => ?_)
  have hkl : k / 32 < l.length := by omega
  have hrowq := hp23_0
  have hrst := hp23_1
  have hcanlr := hp23_2
  have hvq := hp23_3
  have hdiv := hp23_4
  have hlt := hp23_5
  rcases hrst with ⟨rfl, rfl, rfl, rfl⟩ | ⟨gr, curr, rfl, rfl, hrowr⟩
  ·
   refine zG (fun K25 G25 => ?_)
   refine zD ?_
   refine zE 1 [(6, .int .i64 (k : Int))] C24 kr kr (fun a26 C26 => ?_)
   refine zH ?_
   refine zA (G25 _ _ ?_)
   refine zD ?_
   refine zE 1 [(7, .int .u32 ((val l / 2 ^ k % 2 : Nat) : Int))] C26 kr kr (fun a27 C27 => ?_)
   refine zH ?_
   refine zA ?_
   refine y_begin2 hr19 B23 (fun w28 B28 j28 => ?_)
   refine i_block ?_
   refine zG (fun K29 G29 => ?_)
   refine zD ?_
   refine wplI C27 kr (zC (d := 15) (v := .slice none 0 0) C27 kr (zB (t := 26) (g := false) (vs := [.slice none 0 0]) (ad := ⟨b6, 0, none⟩) rfl kr kr ir (B28.cells 4 rfl rfl)) ?_)
   intro a30 C30
   refine zE 1 [(16, .int .u32 ((val l / 2 ^ k % 2 : Nat) : Int))] C30 kr kr (fun a31 C31 => ?_)
   refine wplI C31 kr (op_call (d := 17) (f := 169) (cap := #[]) (vs := #[.slice none 0 0, .int .u32 ((val l / 2 ^ k % 2 : Nat) : Int)]) C31 kr B28 rfl kr kr (fun w => Tryz.call169 _ w) (double_nil _ X0 (X0_lt _) (val l / 2 ^ k % 2) (by omega)) ?_)
   rintro v32 w32 B32 j32 hu32 ⟨ls32, ad32, len32, cap32, ⟨⟨rfl, hl32, hlt32, ho32⟩, hcan32, hval32⟩, hlen32⟩ a33 C33
   have hx32 : val ls32 = 2 * val ([] : List Nat) + val l / 2 ^ k % 2 := by simp only [val]; omega
   rcases ho32 with ⟨rfl, rfl, rfl⟩ | ⟨g32, cur32, rfl, hge32, hget32, hrow32⟩
   ·
    have hn32 : ls32 = [] := List.eq_nil_of_length_eq_zero hl32.symm
    subst hn32
    refine wplI C33 kr (zF (t := 26) (b := b6) (off := 0) (c' := #[.slice none 0 0]) (g := false) (m := 1) 4 _ C33 kr B32 rfl kr rfl kr kr kr rfl (by first | decide | (simp; done)) kr rfl ?_)
    intro w36 B36 j36
    refine zH ?_
    refine zA (G29 _ _ ?_)
    refine zG (fun K37 G37 => ?_)
    refine zD ?_
    refine wplI C33 kr (zC (d := 18) (v := .slice none 0 0) C33 kr (zB (t := 26) (g := false) (vs := [.slice none 0 0]) (ad := ⟨b6, 0, none⟩) rfl kr kr ir (B36.cells 4 rfl rfl)) ?_)
    intro a38 C38
    refine wplI C38 kr (zC (d := 19) (v := .slice ad2 l2.length cap2) C38 kr (zB (t := 26) (g := false) (vs := [.slice ad2 l2.length cap2]) (ad := ⟨b2, 0, none⟩) rfl kr kr ir (B36.cells 6 rfl rfl)) ?_)
    intro a39 C39
    refine wplI C39 kr (op_call (d := 20) (f := 167) (cap := #[]) (vs := #[.slice none 0 0, .slice ad2 l2.length cap2]) C39 kr B36 rfl kr kr (fun w => Tryz.call167 _ w) (order_c _ X0 (X0_lt _) _ _ _ ([]) (Limbs.nil none (by omega)) _ _ _ l2 ((h2.mono (Le11 j2 j4 j6 j10 j12 j18 j19 j23 j28 j32 j36)).mono Le.x0) (.inl rfl) hc2 (by omega)) ?_)
    rintro v40 w40 B40 j40 hu40 rfl a41 C41
    refine zE 1 [(21, .bool (decide ((cmpI (val ([])) (val l2)) ≥ 0)))] C41 kr kr (fun a42 C42 => ?_)
    refine zH ?_
    refine zA (G37 _ _ ?_)
    refine i_cond (decide ((cmpI (val ([])) (val l2)) ≥ 0)) C42 kr kr (fun hc43 => ?_) (fun hc43 => ?_)
    ·
     have C44 := C42.set 21 (v' := .bool true) kr rfl (zJ hc43)
     have ht45 : (cmpI (val ([])) (val l2)) ≥ 0 := of_decide_eq_true hc43
     have hcmp := cmpI_ge ht45
     simp only [val] at hcmp; omega
    have C46 := C42.set 21 (v' := .bool false) kr rfl (zJ hc43)
    have ht47 : ¬ ((cmpI (val ([])) (val l2)) ≥ 0) := of_decide_eq_false hc43
    have hcmp := cmpI_nge ht47
    refine i_skip ?_
    refine blk_norm ?_
    refine y_next2 hr19 B40 (fun w48 B48 j48 => Rounds.next ?_)
    exact ⟨_, curq, lq, [], none, 0, [], (2 * q), B48, (Le6 j23 j28 j32 j36 j40 j48), hrowq, .inl ⟨rfl, rfl, rfl, rfl⟩, (.inl rfl), by rw [hvq, Nat.pow_succ]; ac_rfl, divB hdiv hx32, hcmp⟩
   ·
    subst hl32
    have B34 := St.adopt B32 (fun o h => Nat.not_lt.2 hge32 (B28.lt _ _ h)) (Nat.le_trans B28.upd.size hge32) hget32
    have j34 := Le.adopt j32 hge32
    have B35 := St.mid (B := []) [(l19, .loop (busyL rec19)), (b19, .deferred (some [])), (bx16, .cells #[.slice ad l.length cap] 26 (0, 0)), (b10, .cells curq 56 (0, 0)), (b6, .cells #[.slice none 0 0] 26 (0, 0)), (b4, .cells #[.slice (some ⟨b10, 0, none⟩) l.length l.length] 26 (0, 0)), (b2, .cells #[.slice ad2 l2.length cap2] 26 (0, 0))] B34
    have j35 : Le (rd w32 (hide g32 Y23)) (rd w32 (hide g32 Y23)) := Le.refl _
    refine wplI C33 kr (zF (t := 26) (b := b6) (off := 0) (c' := #[.slice (some ⟨g32, 0, none⟩) ls32.length cap32]) (g := false) (m := 1) 4 _ C33 kr B35 rfl kr rfl kr kr kr rfl (by first | decide | (simp; done)) kr rfl ?_)
    intro w49 B49 j49
    refine zH ?_
    refine zA (G29 _ _ ?_)
    refine zG (fun K50 G50 => ?_)
    refine zD ?_
    refine wplI C33 kr (zC (d := 18) (v := .slice (some ⟨g32, 0, none⟩) ls32.length cap32) C33 kr (zB (t := 26) (g := false) (vs := [.slice (some ⟨g32, 0, none⟩) ls32.length cap32]) (ad := ⟨b6, 0, none⟩) rfl kr kr ir (B49.cells 4 rfl rfl)) ?_)
    intro a51 C51
    refine wplI C51 kr (zC (d := 19) (v := .slice ad2 l2.length cap2) C51 kr (zB (t := 26) (g := false) (vs := [.slice ad2 l2.length cap2]) (ad := ⟨b2, 0, none⟩) rfl kr kr ir (B49.cells 6 rfl rfl)) ?_)
    intro a52 C52
    refine wplI C52 kr (op_call (d := 20) (f := 167) (cap := #[]) (vs := #[.slice (some ⟨g32, 0, none⟩) ls32.length cap32, .slice ad2 l2.length cap2]) C52 kr B49 rfl kr kr (fun w => Tryz.call167 _ w) (order_c _ X0 (X0_lt _) _ _ _ ls32 (URow.limbs (Y := X0) hrow32 (B49.get 7 rfl) (fun _ h => h.elim)) _ _ _ l2 ((h2.mono (Le12 j2 j4 j6 j10 j12 j18 j19 j23 j28 j34 j35 j49)).mono Le.x0) hcan32 hc2 (by omega)) ?_)
    rintro v53 w53 B53 j53 hu53 rfl a54 C54
    refine zE 1 [(21, .bool (decide ((cmpI (val ls32) (val l2)) ≥ 0)))] C54 kr kr (fun a55 C55 => ?_)
    refine zH ?_
    refine zA (G50 _ _ ?_)
    refine i_cond (decide ((cmpI (val ls32) (val l2)) ≥ 0)) C55 kr kr (fun hc56 => ?_) (fun hc56 => ?_)
    ·
     have C57 := C55.set 21 (v' := .bool true) kr rfl (zJ hc56)
     have ht58 : (cmpI (val ls32) (val l2)) ≥ 0 := of_decide_eq_true hc56
     have hcmp := cmpI_ge ht58
     obtain ⟨hset1, hset2, hset3⟩ := setbit lq hrowq.lt k q (by rw [hrowq.len]; exact hkl) hvq
     refine zG (fun K59 G59 => ?_)
     refine zD ?_
     refine wplI C57 kr (zC (d := 22) (v := .slice (some ⟨g32, 0, none⟩) ls32.length cap32) C57 kr (zB (t := 26) (g := false) (vs := [.slice (some ⟨g32, 0, none⟩) ls32.length cap32]) (ad := ⟨b6, 0, none⟩) rfl kr kr ir (B53.cells 4 rfl rfl)) ?_)
     intro a60 C60
     refine wplI C60 kr (zC (d := 23) (v := .slice ad2 l2.length cap2) C60 kr (zB (t := 26) (g := false) (vs := [.slice ad2 l2.length cap2]) (ad := ⟨b2, 0, none⟩) rfl kr kr ir (B53.cells 6 rfl rfl)) ?_)
     intro a61 C61
     refine wplI C61 kr (op_callE (d := 24) (f := 168) (cap := #[]) (vs := #[.slice (some ⟨g32, 0, none⟩) ls32.length cap32, .slice ad2 l2.length cap2]) 7 C61 kr B53 rfl kr kr (fun w => Tryz.call168 _ w) rfl (subtract_c _ g32 ls32.length cap32 _ ls32 (B53.get 7 rfl) hrow32 (by omega) _ _ _ l2 ((h2.mono (Le13 j2 j4 j6 j10 j12 j18 j19 j23 j28 j34 j35 j49 j53)).mono (B53.leHG 7 rfl)) (canon_len hrow32.lt hc2 (by omega)) (by omega)) ?_)
     rintro v62 w62 ob62 ⟨cur62, ls62, rfl, hg62, hrow62, hcan62, hval62⟩ hob62 B62 j62 a63 C63
     obtain rfl := Option.some.inj (hob62.symm.trans hg62)
     refine wplI C63 kr (zF (t := 26) (b := b6) (off := 0) (c' := #[.slice (some ⟨g32, 0, none⟩) ls62.length cap32]) (g := false) (m := 1) 4 _ C63 kr B62 rfl kr rfl kr kr kr rfl (by first | decide | (simp; done)) kr rfl ?_)
     intro w64 B64 j64
     refine zH ?_
     refine zA (G59 _ _ ?_)
     refine i_drawN (N := 11) (Held [(⟨b4, 0, none⟩, [.slice (some ⟨b10, 0, none⟩) l.length l.length]), (⟨b10, k / 32, none⟩, [.int .u32 ((lq.getD (k / 32) 0 : Nat) : Int)])]) [10] kr kr kr B64 ?_
     intro w65 B65 j65 hu65
     refine with_held (Held.cons (B65.cells 5 rfl rfl) (Held.cons (B65.rowCells 3 rfl hrowq (by have := hrowq.len; (try simp only [List.length_set] at *); omega)) (Held.nil _))) (fun hH65 => ?_)
     refine t_load (d := 25) (v := .slice (some ⟨b10, 0, none⟩) l.length l.length) 0 C63 rfl kr kr kr (fun w hw => zB (t := 26) (g := false) (vs := [.slice (some ⟨b10, 0, none⟩) l.length l.length]) (ad := ⟨b4, 0, none⟩) rfl kr kr ir (hw.get 0 kr)) hH65 ?_
     intro a66 C66
     refine zK (d := 26) (v := .int .i64 (k : Int)) 1 C66 rfl kr kr kw (fun _ => hH65) ?_
     intro a67 C67
     refine zK (d := 27) (v := .int .i64 (IntKind.i64.wrap (Int.tdiv ((k : Int)) (32)))) 2 C67 rfl kr kr kw (fun _ => hH65) ?_
     intro a68 C68
     have C69 := C68.set 27 (v' := .int .i64 ((k / 32 : Nat) : Int)) kr rfl (vint (tdiv32 _ (by omega)))
     refine zK (d := 28) (v := .pointer (some ⟨b10, k / 32, none⟩)) 3 C69 rfl kr kr (fun w => run_indexOp (t := 26) (e := 56) (b := b10) (off := 0) (len := l.length) (cap := l.length) (kd := .i64) (i := ((k / 32 : Nat) : Int)) (g := false) (m := 1) (off' := k / 32) rfl kr kr kr kr (by omega) (by omega) (by first | rfl | omega | (simp; done) | (simp; omega)) w) (fun _ => hH65) ?_
     intro a70 C70
     refine t_load (d := 29) (v := .int .u32 ((lq.getD (k / 32) 0 : Nat) : Int)) 4 C70 rfl kr kr kr (fun w hw => zB (t := 56) (g := false) (vs := [.int .u32 ((lq.getD (k / 32) 0 : Nat) : Int)]) (ad := ⟨b10, k / 32, none⟩) rfl kr kr ir (hw.get 1 kr)) hH65 ?_
     intro a71 C71
     refine zK (d := 30) (v := .int .i64 (k : Int)) 5 C71 rfl kr kr kw (fun _ => hH65) ?_
     intro a72 C72
     refine zK (d := 31) (v := .int .i64 (Int.tmod ((k : Int)) (32))) 6 C72 rfl kr kr kw (fun _ => hH65) ?_
     intro a73 C73
     have C74 := C73.set 31 (v' := .int .i64 ((k % 32 : Nat) : Int)) kr rfl (vint (tmod32 _))
     refine zK (d := 32) (v := .int .u32 ((2 ^ (k % 32) : Nat) : Int)) 7 C74 rfl kr kr (fun w => run_shl1 rfl rfl rfl (by omega)) (fun _ => hH65) ?_
     intro a75 C75
     refine zK (d := 33) (v := .int .u32 (bor32 ((lq.getD (k / 32) 0 : Nat) : Int) ((2 ^ (k % 32) : Nat) : Int))) 8 C75 rfl kr kr kw (fun _ => hH65) ?_
     intro a76 C76
     have C77 := C76.set 33 (v' := .int .u32 ((lq.getD (k / 32) 0 + 2 ^ (k % 32) : Nat) : Int)) kr rfl (vint hset1)
     refine zK (d := 34) (v := .pointer (some ⟨b10, k / 32, none⟩)) 9 C77 rfl kr kr (fun w => run_indexOp (t := 26) (e := 56) (b := b10) (off := 0) (len := l.length) (cap := l.length) (kd := .i64) (i := ((k / 32 : Nat) : Int)) (g := false) (m := 1) (off' := k / 32) rfl kr kr kr kr (by omega) (by omega) (by first | rfl | omega | (simp; done) | (simp; omega)) w) (fun _ => hH65) ?_
     intro a78 C78
     refine t_fork [10] kr rfl ?_
     refine ForkT.cons (i := 10) C78 rfl kr (op_storeU (t := 56) (y := (lq.getD (k / 32) 0 + 2 ^ (k % 32))) (k := k / 32) (e := ((lq.getD (k / 32) 0 + 2 ^ (k % 32) : Nat) : Int)) 3 C78 kr B65 rfl rfl rfl (rfl) kr rfl hrowq (by have := hrowq.len; (try simp only [List.length_set] at *); omega) (hset2) ?_) ForkT.nil
     intro cur79 w79 hrow79 B79 j79
     refine ⟨begun_tt kr, ?_⟩
     refine t_done kr (nrm ?_)
     refine blk_norm ?_
     refine y_next2 hr19 B79 (fun w80 B80 j80 => Rounds.next ?_)
     exact ⟨_, cur79, (lq.set (k / 32) (lq.getD (k / 32) 0 + 2 ^ (k % 32))), [(g32, .cells cur62 56 (0, 0))], (some ⟨g32, 0, none⟩), cap32, ls62, (2 * q + 1), B80, (Le11 j23 j28 j34 j35 j49 j53 j62 j64 j65 j79 j80), hrow79, .inr ⟨_, _, rfl, rfl, hrow62⟩, hcan62, by rw [hset3, hvq, Nat.pow_succ, Nat.mul_add, Nat.mul_one]; congr 1; ac_rfl, divA hdiv (hval62.trans (by rw [hx32])) (by omega), by have := hval62; omega⟩
    have C81 := C55.set 21 (v' := .bool false) kr rfl (zJ hc56)
    have ht82 : ¬ ((cmpI (val ls32) (val l2)) ≥ 0) := of_decide_eq_false hc56
    have hcmp := cmpI_nge ht82
    refine i_skip ?_
    refine blk_norm ?_
    refine y_next2 hr19 B53 (fun w83 B83 j83 => Rounds.next ?_)
    exact ⟨_, curq, lq, [(g32, .cells cur32 56 (0, 0))], (some ⟨g32, 0, none⟩), cap32, ls32, (2 * q), B83, (Le7 j23 j28 j34 j35 j49 j53 j83), hrowq, .inr ⟨_, _, rfl, rfl, hrow32⟩, hcan32, by rw [hvq, Nat.pow_succ]; ac_rfl, divB hdiv hx32, hcmp⟩
  ·
   refine zG (fun K84 G84 => ?_)
   refine zD ?_
   refine zE 1 [(6, .int .i64 (k : Int))] C24 kr kr (fun a85 C85 => ?_)
   refine zH ?_
   refine zA (G84 _ _ ?_)
   refine zD ?_
   refine zE 1 [(7, .int .u32 ((val l / 2 ^ k % 2 : Nat) : Int))] C85 kr kr (fun a86 C86 => ?_)
   refine zH ?_
   refine zA ?_
   refine y_begin2 hr19 B23 (fun w87 B87 j87 => ?_)
   refine i_block ?_
   refine zG (fun K88 G88 => ?_)
   refine zD ?_
   refine wplI C86 kr (zC (d := 15) (v := .slice (some ⟨gr, 0, none⟩) lr.length capr) C86 kr (zB (t := 26) (g := false) (vs := [.slice (some ⟨gr, 0, none⟩) lr.length capr]) (ad := ⟨b6, 0, none⟩) rfl kr kr ir (B87.cells 4 rfl rfl)) ?_)
   intro a89 C89
   refine zE 1 [(16, .int .u32 ((val l / 2 ^ k % 2 : Nat) : Int))] C89 kr kr (fun a90 C90 => ?_)
   have hlnr := canon_len h2.hlt hcanlr (Nat.le_of_lt hlt)
   refine wplI C90 kr (op_callG (d := 17) (f := 169) (cap := #[]) (vs := #[.slice (some ⟨gr, 0, none⟩) lr.length capr, .int .u32 ((val l / 2 ^ k % 2 : Nat) : Int)]) 7 C90 kr B87 rfl kr kr (fun w => Tryz.call169 _ w) rfl (double_c _ gr lr.length capr _ lr (B87.get 7 rfl) hrowr (by omega) hcanlr (val l / 2 ^ k % 2) (by omega)) ?_)
   rintro v91 w91 Y91 g91 o91 ⟨cur91, cap91, ls91, rfl, rfl, hrow91, hlen91, hcan91, hval91⟩ B91 j91 a92 C92
   refine wplI C92 kr (zF (t := 26) (b := b6) (off := 0) (c' := #[.slice (some ⟨g91, 0, none⟩) ls91.length cap91]) (g := false) (m := 1) 4 _ C92 kr B91 rfl kr rfl kr kr kr rfl (by first | decide | (simp; done)) kr rfl ?_)
   intro w93 B93 j93
   refine zH ?_
   refine zA (G88 _ _ ?_)
   refine zG (fun K94 G94 => ?_)
   refine zD ?_
   refine wplI C92 kr (zC (d := 18) (v := .slice (some ⟨g91, 0, none⟩) ls91.length cap91) C92 kr (zB (t := 26) (g := false) (vs := [.slice (some ⟨g91, 0, none⟩) ls91.length cap91]) (ad := ⟨b6, 0, none⟩) rfl kr kr ir (B93.cells 4 rfl rfl)) ?_)
   intro a95 C95
   refine wplI C95 kr (zC (d := 19) (v := .slice ad2 l2.length cap2) C95 kr (zB (t := 26) (g := false) (vs := [.slice ad2 l2.length cap2]) (ad := ⟨b2, 0, none⟩) rfl kr kr ir (B93.cells 6 rfl rfl)) ?_)
   intro a96 C96
   refine wplI C96 kr (op_call (d := 20) (f := 167) (cap := #[]) (vs := #[.slice (some ⟨g91, 0, none⟩) ls91.length cap91, .slice ad2 l2.length cap2]) C96 kr B93 rfl kr kr (fun w => Tryz.call167 _ w) (order_c _ X0 (X0_lt _) _ _ _ ls91 (URow.limbs (Y := X0) hrow91 (B93.get 7 rfl) (fun _ h => h.elim)) _ _ _ l2 ((h2.mono (Le11 j2 j4 j6 j10 j12 j18 j19 j23 j87 j91 j93)).mono Le.x0) hcan91 hc2 (by omega)) ?_)
   rintro v97 w97 B97 j97 hu97 rfl a98 C98
   refine zE 1 [(21, .bool (decide ((cmpI (val ls91) (val l2)) ≥ 0)))] C98 kr kr (fun a99 C99 => ?_)
   refine zH ?_
   refine zA (G94 _ _ ?_)
   refine i_cond (decide ((cmpI (val ls91) (val l2)) ≥ 0)) C99 kr kr (fun hc100 => ?_) (fun hc100 => ?_)
   ·
    have C101 := C99.set 21 (v' := .bool true) kr rfl (zJ hc100)
    have ht102 : (cmpI (val ls91) (val l2)) ≥ 0 := of_decide_eq_true hc100
    have hcmp := cmpI_ge ht102
    obtain ⟨hset1, hset2, hset3⟩ := setbit lq hrowq.lt k q (by rw [hrowq.len]; exact hkl) hvq
    refine zG (fun K103 G103 => ?_)
    refine zD ?_
    refine wplI C101 kr (zC (d := 22) (v := .slice (some ⟨g91, 0, none⟩) ls91.length cap91) C101 kr (zB (t := 26) (g := false) (vs := [.slice (some ⟨g91, 0, none⟩) ls91.length cap91]) (ad := ⟨b6, 0, none⟩) rfl kr kr ir (B97.cells 4 rfl rfl)) ?_)
    intro a104 C104
    refine wplI C104 kr (zC (d := 23) (v := .slice ad2 l2.length cap2) C104 kr (zB (t := 26) (g := false) (vs := [.slice ad2 l2.length cap2]) (ad := ⟨b2, 0, none⟩) rfl kr kr ir (B97.cells 6 rfl rfl)) ?_)
    intro a105 C105
    refine wplI C105 kr (op_callE (d := 24) (f := 168) (cap := #[]) (vs := #[.slice (some ⟨g91, 0, none⟩) ls91.length cap91, .slice ad2 l2.length cap2]) 7 C105 kr B97 rfl kr kr (fun w => Tryz.call168 _ w) rfl (subtract_c _ g91 ls91.length cap91 _ ls91 (B97.get 7 rfl) hrow91 (by omega) _ _ _ l2 ((h2.mono (Le12 j2 j4 j6 j10 j12 j18 j19 j23 j87 j91 j93 j97)).mono (B97.leHG 7 rfl)) (canon_len hrow91.lt hc2 (by omega)) (by omega)) ?_)
    rintro v106 w106 ob106 ⟨cur106, ls106, rfl, hg106, hrow106, hcan106, hval106⟩ hob106 B106 j106 a107 C107
    obtain rfl := Option.some.inj (hob106.symm.trans hg106)
    refine wplI C107 kr (zF (t := 26) (b := b6) (off := 0) (c' := #[.slice (some ⟨g91, 0, none⟩) ls106.length cap91]) (g := false) (m := 1) 4 _ C107 kr B106 rfl kr rfl kr kr kr rfl (by first | decide | (simp; done)) kr rfl ?_)
    intro w108 B108 j108
    refine zH ?_
    refine zA (G103 _ _ ?_)
    refine i_drawN (N := 11) (Held [(⟨b4, 0, none⟩, [.slice (some ⟨b10, 0, none⟩) l.length l.length]), (⟨b10, k / 32, none⟩, [.int .u32 ((lq.getD (k / 32) 0 : Nat) : Int)])]) [10] kr kr kr B108 ?_
    intro w109 B109 j109 hu109
    refine with_held (Held.cons (B109.cells 5 rfl rfl) (Held.cons (B109.rowCells 3 rfl hrowq (by have := hrowq.len; (try simp only [List.length_set] at *); omega)) (Held.nil _))) (fun hH109 => ?_)
    refine t_load (d := 25) (v := .slice (some ⟨b10, 0, none⟩) l.length l.length) 0 C107 rfl kr kr kr (fun w hw => zB (t := 26) (g := false) (vs := [.slice (some ⟨b10, 0, none⟩) l.length l.length]) (ad := ⟨b4, 0, none⟩) rfl kr kr ir (hw.get 0 kr)) hH109 ?_
    intro a110 C110
    refine zK (d := 26) (v := .int .i64 (k : Int)) 1 C110 rfl kr kr kw (fun _ => hH109) ?_
    intro a111 C111
    refine zK (d := 27) (v := .int .i64 (IntKind.i64.wrap (Int.tdiv ((k : Int)) (32)))) 2 C111 rfl kr kr kw (fun _ => hH109) ?_
    intro a112 C112
    have C113 := C112.set 27 (v' := .int .i64 ((k / 32 : Nat) : Int)) kr rfl (vint (tdiv32 _ (by omega)))
    refine zK (d := 28) (v := .pointer (some ⟨b10, k / 32, none⟩)) 3 C113 rfl kr kr (fun w => run_indexOp (t := 26) (e := 56) (b := b10) (off := 0) (len := l.length) (cap := l.length) (kd := .i64) (i := ((k / 32 : Nat) : Int)) (g := false) (m := 1) (off' := k / 32) rfl kr kr kr kr (by omega) (by omega) (by first | rfl | omega | (simp; done) | (simp; omega)) w) (fun _ => hH109) ?_
    intro a114 C114
    refine t_load (d := 29) (v := .int .u32 ((lq.getD (k / 32) 0 : Nat) : Int)) 4 C114 rfl kr kr kr (fun w hw => zB (t := 56) (g := false) (vs := [.int .u32 ((lq.getD (k / 32) 0 : Nat) : Int)]) (ad := ⟨b10, k / 32, none⟩) rfl kr kr ir (hw.get 1 kr)) hH109 ?_
    intro a115 C115
    refine zK (d := 30) (v := .int .i64 (k : Int)) 5 C115 rfl kr kr kw (fun _ => hH109) ?_
    intro a116 C116
    refine zK (d := 31) (v := .int .i64 (Int.tmod ((k : Int)) (32))) 6 C116 rfl kr kr kw (fun _ => hH109) ?_
    intro a117 C117
    have C118 := C117.set 31 (v' := .int .i64 ((k % 32 : Nat) : Int)) kr rfl (vint (tmod32 _))
    refine zK (d := 32) (v := .int .u32 ((2 ^ (k % 32) : Nat) : Int)) 7 C118 rfl kr kr (fun w => run_shl1 rfl rfl rfl (by omega)) (fun _ => hH109) ?_
    intro a119 C119
    refine zK (d := 33) (v := .int .u32 (bor32 ((lq.getD (k / 32) 0 : Nat) : Int) ((2 ^ (k % 32) : Nat) : Int))) 8 C119 rfl kr kr kw (fun _ => hH109) ?_
    intro a120 C120
    have C121 := C120.set 33 (v' := .int .u32 ((lq.getD (k / 32) 0 + 2 ^ (k % 32) : Nat) : Int)) kr rfl (vint hset1)
    refine zK (d := 34) (v := .pointer (some ⟨b10, k / 32, none⟩)) 9 C121 rfl kr kr (fun w => run_indexOp (t := 26) (e := 56) (b := b10) (off := 0) (len := l.length) (cap := l.length) (kd := .i64) (i := ((k / 32 : Nat) : Int)) (g := false) (m := 1) (off' := k / 32) rfl kr kr kr kr (by omega) (by omega) (by first | rfl | omega | (simp; done) | (simp; omega)) w) (fun _ => hH109) ?_
    intro a122 C122
    refine t_fork [10] kr rfl ?_
    refine ForkT.cons (i := 10) C122 rfl kr (op_storeU (t := 56) (y := (lq.getD (k / 32) 0 + 2 ^ (k % 32))) (k := k / 32) (e := ((lq.getD (k / 32) 0 + 2 ^ (k % 32) : Nat) : Int)) 3 C122 kr B109 rfl rfl rfl (rfl) kr rfl hrowq (by have := hrowq.len; (try simp only [List.length_set] at *); omega) (hset2) ?_) ForkT.nil
    intro cur123 w123 hrow123 B123 j123
    refine ⟨begun_tt kr, ?_⟩
    refine t_done kr (nrm ?_)
    refine blk_norm ?_
    refine y_next2 hr19 B123 (fun w124 B124 j124 => Rounds.next ?_)
    exact ⟨_, cur123, (lq.set (k / 32) (lq.getD (k / 32) 0 + 2 ^ (k % 32))), [(g91, .cells cur106 56 (0, 0))], (some ⟨g91, 0, none⟩), cap91, ls106, (2 * q + 1), B124, (Le10 j23 j87 j91 j93 j97 j106 j108 j109 j123 j124), hrow123, .inr ⟨_, _, rfl, rfl, hrow106⟩, hcan106, by rw [hset3, hvq, Nat.pow_succ, Nat.mul_add, Nat.mul_one]; congr 1; ac_rfl, divA hdiv (hval106.trans (by rw [hval91])) (by omega), by have := hval106; omega⟩
   have C125 := C99.set 21 (v' := .bool false) kr rfl (zJ hc100)
   have ht126 : ¬ ((cmpI (val ls91) (val l2)) ≥ 0) := of_decide_eq_false hc100
   have hcmp := cmpI_nge ht126
   refine i_skip ?_
   refine blk_norm ?_
   refine y_next2 hr19 B97 (fun w127 B127 j127 => Rounds.next ?_)
   exact ⟨_, curq, lq, [(g91, .cells cur91 56 (0, 0))], (some ⟨g91, 0, none⟩), cap91, ls91, (2 * q), B127, (Le6 j23 j87 j91 j93 j97 j127), hrowq, .inr ⟨_, _, rfl, rfl, hrow91⟩, hcan91, by rw [hvq, Nat.pow_succ]; ac_rfl, divB hdiv hval91, hcmp⟩
 ·
  rintro w128 ⟨Y128, curq, lq, rb, adr, capr, lr, q, B128, j128, hp128_0, hp128_1, hp128_2, hp128_3, hp128_4, hp128_5⟩
  refine RangeEnd.norm hr19 B128 (fun w129 B129 j129 => ?_)
  have hrowq := hp128_0
  have hrst := hp128_1
  have hcanlr := hp128_2
  have hvq := hp128_3
  have hdiv := hp128_4
  have hlt := hp128_5
  rcases hrst with ⟨rfl, rfl, rfl, rfl⟩ | ⟨gr, curr, rfl, rfl, hrowr⟩
  ·
   refine blk_norm ?_
   refine zA (G13 _ _ ?_)
   refine zG (fun K130 G130 => ?_)
   refine i_drawN (N := 5) (Held [(⟨b6, 0, none⟩, [.slice none 0 0])]) [4] kr kr kr B129 ?_
   intro w131 B131 j131 hu131
   refine with_held (Held.cons (B131.cells 4 rfl rfl) (Held.nil _)) (fun hH131 => ?_)
   refine t_load (d := 37) (v := .slice none 0 0) 2 C20 rfl kr kr kr (fun w hw => zB (t := 26) (g := false) (vs := [.slice none 0 0]) (ad := ⟨b6, 0, none⟩) rfl kr kr ir (hw.get 0 kr)) hH131 ?_
   intro a132 C132
   refine t_fork [0] kr rfl ?_
   refine ForkT.cons (i := 0) C132 rfl kr (zC (d := 35) (v := .slice (some ⟨b10, 0, none⟩) l.length l.length) C132 kr (zB (t := 26) (g := false) (vs := [.slice (some ⟨b10, 0, none⟩) l.length l.length]) (ad := ⟨b4, 0, none⟩) rfl kr kr ir (B131.cells 5 rfl rfl)) ?_) ForkT.nil
   intro a133 C133
   refine held_next (Held.cons (B131.cells 4 rfl rfl) (Held.nil _)) (fun hH131 => ?_)
   refine t_fork [1] kr rfl ?_
   refine ForkT.cons (i := 1) C133 rfl kr (op_call (d := 36) (f := 157) (cap := #[]) (vs := #[.slice (some ⟨b10, 0, none⟩) l.length l.length]) C133 kr B131 rfl kr kr (fun w => Tryz.call157 _ w) (trim_c _ X0 (X0_lt _) _ _ _ lq (URow.limbs (Y := X0) hrowq (B131.get 3 rfl) (fun _ h => h.elim))) ?_) ForkT.nil
   rintro v134 w134 B134 j134 hu134 rfl a135 C135
   refine held_next (Held.cons (B134.cells 4 rfl rfl) (Held.nil _)) (fun hH134 => ?_)
   refine t_fork [3] kr rfl ?_
   refine ForkT.cons (i := 3) C135 rfl kr (zF (t := 26) (b := b4) (off := 0) (c' := #[.slice (some ⟨b10, 0, none⟩) (trimN lq) l.length]) (g := false) (m := 1) 5 _ C135 kr B134 rfl kr rfl kr kr kr rfl (by first | decide | (simp; done)) kr rfl ?_) ForkT.nil
   intro w136 B136 j136
   refine held_next (Held.cons (B136.cells 4 rfl rfl) (Held.nil _)) (fun hH136 => ?_)
   refine t_fork [4] kr rfl ?_
   refine ForkT.cons (i := 4) C135 rfl kr (zF (t := 26) (b := b6) (off := 0) (c' := #[.slice none 0 0]) (g := false) (m := 1) 4 _ C135 kr B136 rfl kr rfl kr kr kr rfl (by first | decide | (simp; done)) kr rfl ?_) ForkT.nil
   intro w137 B137 j137
   refine ⟨begun_tt kr, ?_⟩
   refine t_done kr (nrm ?_)
   refine zA (G130 _ _ ?_)
   refine i_ret ?_
   refine m_ret1 (v := .tuple #[.slice (some ⟨b10, 0, none⟩) (trimN lq) l.length, .slice none 0 0]) (rs := [.cell 4 26, .cell 5 26]) (vs := [.slice (some ⟨b10, 0, none⟩) (trimN lq) l.length, .slice none 0 0]) 1 C135 B137 rfl kr kr (fun w138 B138 j138 => ?_)
   refine ⟨(Res.cell (ad := ⟨b4, 0, none⟩) (cs := [.slice (some ⟨b10, 0, none⟩) (trimN lq) l.length]) (g := false) kr kr kr ir (B138.cells 5 rfl rfl) (Res.cell (ad := ⟨b6, 0, none⟩) (cs := [.slice none 0 0]) (g := false) kr kr kr ir (B138.cells 4 rfl rfl) Res.nil)), ?_⟩
   obtain ⟨he1, he2⟩ := divEnd hdiv hlt hvq
   exact ⟨B138.upd, _, rfl, _, _, Go.Gv.trimmed lq, [], _, _, _, _, _, _, rfl, ⟨⟨rfl, (trimmed_length _).symm, trimmed_lt hrowq.lt, .inr ⟨_, _, rfl, B138.own_ge 3 rfl, B138.get 3 rfl, hrowq.trimmed⟩⟩, canon_trimmed _, by rw [val_trimmed]; exact he1⟩, ⟨⟨rfl, rfl, fun x hx => by simp at hx, .inl ⟨rfl, rfl, rfl⟩⟩, .inl rfl, he2⟩⟩
  ·
   refine blk_norm ?_
   refine zA (G13 _ _ ?_)
   refine zG (fun K139 G139 => ?_)
   refine i_drawN (N := 5) (Held [(⟨b6, 0, none⟩, [.slice (some ⟨gr, 0, none⟩) lr.length capr])]) [4] kr kr kr B129 ?_
   intro w140 B140 j140 hu140
   refine with_held (Held.cons (B140.cells 4 rfl rfl) (Held.nil _)) (fun hH140 => ?_)
   refine t_load (d := 37) (v := .slice (some ⟨gr, 0, none⟩) lr.length capr) 2 C20 rfl kr kr kr (fun w hw => zB (t := 26) (g := false) (vs := [.slice (some ⟨gr, 0, none⟩) lr.length capr]) (ad := ⟨b6, 0, none⟩) rfl kr kr ir (hw.get 0 kr)) hH140 ?_
   intro a141 C141
   refine t_fork [0] kr rfl ?_
   refine ForkT.cons (i := 0) C141 rfl kr (zC (d := 35) (v := .slice (some ⟨b10, 0, none⟩) l.length l.length) C141 kr (zB (t := 26) (g := false) (vs := [.slice (some ⟨b10, 0, none⟩) l.length l.length]) (ad := ⟨b4, 0, none⟩) rfl kr kr ir (B140.cells 5 rfl rfl)) ?_) ForkT.nil
   intro a142 C142
   refine held_next (Held.cons (B140.cells 4 rfl rfl) (Held.nil _)) (fun hH140 => ?_)
   refine t_fork [1] kr rfl ?_
   refine ForkT.cons (i := 1) C142 rfl kr (op_call (d := 36) (f := 157) (cap := #[]) (vs := #[.slice (some ⟨b10, 0, none⟩) l.length l.length]) C142 kr B140 rfl kr kr (fun w => Tryz.call157 _ w) (trim_c _ X0 (X0_lt _) _ _ _ lq (URow.limbs (Y := X0) hrowq (B140.get 3 rfl) (fun _ h => h.elim))) ?_) ForkT.nil
   rintro v143 w143 B143 j143 hu143 rfl a144 C144
   refine held_next (Held.cons (B143.cells 4 rfl rfl) (Held.nil _)) (fun hH143 => ?_)
   refine t_fork [3] kr rfl ?_
   refine ForkT.cons (i := 3) C144 rfl kr (zF (t := 26) (b := b4) (off := 0) (c' := #[.slice (some ⟨b10, 0, none⟩) (trimN lq) l.length]) (g := false) (m := 1) 5 _ C144 kr B143 rfl kr rfl kr kr kr rfl (by first | decide | (simp; done)) kr rfl ?_) ForkT.nil
   intro w145 B145 j145
   refine held_next (Held.cons (B145.cells 4 rfl rfl) (Held.nil _)) (fun hH145 => ?_)
   refine t_fork [4] kr rfl ?_
   refine ForkT.cons (i := 4) C144 rfl kr (zF (t := 26) (b := b6) (off := 0) (c' := #[.slice (some ⟨gr, 0, none⟩) lr.length capr]) (g := false) (m := 1) 4 _ C144 kr B145 rfl kr rfl kr kr kr rfl (by first | decide | (simp; done)) kr rfl ?_) ForkT.nil
   intro w146 B146 j146
   refine ⟨begun_tt kr, ?_⟩
   refine t_done kr (nrm ?_)
   refine zA (G139 _ _ ?_)
   refine i_ret ?_
   refine m_ret1 (v := .tuple #[.slice (some ⟨b10, 0, none⟩) (trimN lq) l.length, .slice (some ⟨gr, 0, none⟩) lr.length capr]) (rs := [.cell 4 26, .cell 5 26]) (vs := [.slice (some ⟨b10, 0, none⟩) (trimN lq) l.length, .slice (some ⟨gr, 0, none⟩) lr.length capr]) 1 C144 B146 rfl kr kr (fun w147 B147 j147 => ?_)
   refine ⟨(Res.cell (ad := ⟨b4, 0, none⟩) (cs := [.slice (some ⟨b10, 0, none⟩) (trimN lq) l.length]) (g := false) kr kr kr ir (B147.cells 5 rfl rfl) (Res.cell (ad := ⟨b6, 0, none⟩) (cs := [.slice (some ⟨gr, 0, none⟩) lr.length capr]) (g := false) kr kr kr ir (B147.cells 4 rfl rfl) Res.nil)), ?_⟩
   obtain ⟨he1, he2⟩ := divEnd hdiv hlt hvq
   exact ⟨B147.upd, _, rfl, _, _, Go.Gv.trimmed lq, lr, _, _, _, _, _, _, rfl, ⟨⟨rfl, (trimmed_length _).symm, trimmed_lt hrowq.lt, .inr ⟨_, _, rfl, B147.own_ge 3 rfl, B147.get 3 rfl, hrowq.trimmed⟩⟩, canon_trimmed _, by rw [val_trimmed]; exact he1⟩, ⟨⟨rfl, rfl, hrowr.lt, .inr ⟨_, _, rfl, B147.own_ge 7 rfl, B147.get 7 rfl, hrowr⟩⟩, hcanlr, he2⟩⟩
 ·
  intro k w9 hu9 hm1 hm2
  exact ⟨_, (List.replicate l.length (Value.int .u32 0)).toArray, (List.replicate l.length 0), [], none, 0, [], 0, B19.call hu9, hu9.le _, hrow10, .inl ⟨rfl, rfl, rfl, rfl⟩, .inl rfl, by rw [val_replicate]; rfl, by rw [Nat.div_eq_of_lt hm1]; simp [val], hd⟩
end Go.Proofs.YtppalofalmieaaaGreat
namespace Go.Proofs.YtppalofalmieaaaGreat
open Go Go.Gv Go.RowKit
set_option maxRecDepth 100000
set_option maxHeartbeats 1000000
def zeroE (y : Nat) : Int := if y = 0 then 14 else 0
theorem DivMod_c (w : World) (X : Hid) (hX : ∀ k o, X k o → k < w.heap.size) (ad : Option Addr) (len cap : Nat) (l : List Nat) (h : Limbs (rd w X) ad len cap l) (ad2 : Option Addr) (len2 cap2 : Nat) (l2 : List Nat) (h2 : Limbs (rd w X) ad2 len2 cap2 l2) : Calls Tryz.prog 152 #[.slice ad len cap, .slice ad2 len2 cap2] w (Ret E0 w fun w' v => DivV 56 w w' (or2 (chk2 l l2) (zeroE (val l2))) (val l / val l2) (val l % val l2) v) := by
 obtain rfl := h.hlen
 obtain rfl := h2.hlen
 have hcap := h.hcap
 have hbig := h.hbig
 have hcap2 := h2.hcap
 have hbig2 := h2.hbig
 refine zen Tryz.func152 ?_
 have B0 : St E0 w X w X [] := St.start hX
 refine zz 12 ?_
 refine zc B0 (bcheck2 _ X0 (X0_lt _) _ _ _ l (h.mono Le.x0) _ _ _ l2 (h2.mono Le.x0)) ?_
 rintro v3 w3 B3 j3 hu3 rfl
 refine zz 11 ?_
 refine zb 11 (b := ((chk2 l l2) != 0)) (fun hc4 => ?_) (fun hc4 => ?_)
 ·
  have ht5 : (chk2 l l2) ≠ 0 := by simpa using hc4
  refine zz 12 ?_
  refine zr' (v := .tuple #[.slice none 0 0, .slice none 0 0, .int .i64 (chk2 l l2)]) ?_
  exact ⟨B3.upd, _, rfl, by rw [or2_err ht5]; exact .inl ⟨ht5, rfl⟩⟩
 have ht6 : (chk2 l l2) = 0 := by simpa using hc4
 obtain ⟨⟨hl1, c1⟩, hl2, c2⟩ := chk2_ok ht6
 refine zz 9 ?_
 refine zb 15 (b := ((l2.length : Int) == 0)) (fun hc7 => ?_) (fun hc7 => ?_)
 ·
  have ht8 : (l2.length : Int) = 0 := by simpa using hc7
  have hz : val l2 = 0 := by rw [List.eq_nil_of_length_eq_zero (by omega : l2.length = 0)]; rfl
  refine zz 11 ?_
  refine zr' (v := .tuple #[.slice none 0 0, .slice none 0 0, .int .i64 14]) ?_
  exact ⟨B3.upd, _, rfl, by rw [or2_ok ht6, zeroE, if_pos hz]; exact .inl ⟨by decide, rfl⟩⟩
 have ht9 : (l2.length : Int) ≠ 0 := by simpa using hc7
 have hp : 0 < val l2 := canon_pos c2 (by rintro rfl; simp at ht9)
 refine zz 8 ?_
 refine zc B3 (divide_c _ X0 (X0_lt _) _ _ _ l ((h.mono j3).mono Le.x0) _ _ _ l2 ((h2.mono j3).mono Le.x0) c1 c2 (by omega) (by omega) hp) ?_
 rintro v11 w11 B11 j11 hu11 ⟨u11, v211, lq11, lr11, adq11, lenq11, capq11, adr11, lenr11, capr11, rfl, hq11, hr11⟩
 obtain rfl := hq11.own.hv; obtain rfl := hr11.own.hv
 refine zz 17 ?_
 refine zr' (v := .tuple #[.slice adq11 lenq11 capq11, .slice adr11 lenr11 capr11, .int .i64 0]) ?_
 have hsz := (B3).upd.size
 exact ⟨B11.upd, _, rfl, by rw [or2_ok ht6, zeroE, if_neg (by omega)]; exact .inr ⟨rfl, _, _, _, _, _, _, _, _, _, _, rfl, hq11.back hsz, Nat.le_trans (canon_len h.hlt hq11.canon (by rw [hq11.val]; exact Nat.div_le_self _ _)) hl1, hr11.back hsz, Nat.le_trans (canon_len h.hlt hr11.canon (by rw [hr11.val]; exact Nat.mod_le _ _)) hl1⟩⟩
end Go.Proofs.YtppalofalmieaaaGreat
namespace Go.Proofs.YtppalofalmieaaaGreat
open Go Go.Gv Go.RowKit
set_option maxRecDepth 100000
set_option maxHeartbeats 1000000
theorem chk2_of {l l2 : List Nat} (h : l.length ≤ 512) (hc : Canon l) (h2 : l2.length ≤ 512) (hc2 : Canon l2) : chk2 l l2 = 0 := by
  unfold chk2; rw [chkN_of h hc, chkN_of h2 hc2]; rfl
theorem Mul_n (w : World) (ad : Option Addr) (len cap x : Nat) (h : NatR (rd w X0) ad len cap x) (ad2 : Option Addr) (len2 cap2 y : Nat) (h2 : NatR (rd w X0) ad2 len2 cap2 y) (hx : x < 4294967296 ^ 512) (hy : y < 4294967296 ^ 512) (hf : x * y < 4294967296 ^ 512) : Calls Tryz.prog 154 #[.slice ad len cap, .slice ad2 len2 cap2] w (Ret E0 w fun w' v => ∃ u, v = .tuple #[u, .int .i64 0] ∧ NatV w w' u (x * y)) := by
  obtain ⟨l, hl, hc, rfl, hn⟩ := h.limbs hx
  obtain ⟨l2, hl2, hc2, rfl, hn2⟩ := h2.limbs hy
  refine (Mul_c w X0 (X0_lt _) ad len cap l hl ad2 len2 cap2 l2 hl2).mono ?_
  rintro e w' ⟨hu, v, rfl, hv⟩
  obtain ⟨u, lr, adr, lenr, capr, rfl, hown, _⟩ := hv.ok (by rw [or2_ok (chk2_of hn hc hn2 hc2)]; unfold fitE; rw [if_pos hf])
  exact ⟨hu, _, rfl, u, rfl, hown.natV⟩
theorem Add_n (w : World) (ad : Option Addr) (len cap x : Nat) (h : NatR (rd w X0) ad len cap x) (ad2 : Option Addr) (len2 cap2 y : Nat) (h2 : NatR (rd w X0) ad2 len2 cap2 y) (hx : x < 4294967296 ^ 512) (hy : y < 4294967296 ^ 512) (hf : x + y < 4294967296 ^ 512) : Calls Tryz.prog 155 #[.slice ad len cap, .slice ad2 len2 cap2] w (Ret E0 w fun w' v => ∃ u, v = .tuple #[u, .int .i64 0] ∧ NatV w w' u (x + y)) := by
  obtain ⟨l, hl, hc, rfl, hn⟩ := h.limbs hx
  obtain ⟨l2, hl2, hc2, rfl, hn2⟩ := h2.limbs hy
  refine (Add_c w X0 (X0_lt _) ad len cap l hl ad2 len2 cap2 l2 hl2).mono ?_
  rintro e w' ⟨hu, v, rfl, hv⟩
  obtain ⟨u, lr, adr, lenr, capr, rfl, hown, _⟩ := hv.ok (by rw [or2_ok (chk2_of hn hc hn2 hc2)]; unfold fitE; rw [if_pos hf])
  exact ⟨hu, _, rfl, u, rfl, hown.natV⟩
theorem Sub_n (w : World) (ad : Option Addr) (len cap x : Nat) (h : NatR (rd w X0) ad len cap x) (ad2 : Option Addr) (len2 cap2 y : Nat) (h2 : NatR (rd w X0) ad2 len2 cap2 y) (hx : x < 4294967296 ^ 512) (hy : y < 4294967296 ^ 512) (hf : y ≤ x) : Calls Tryz.prog 156 #[.slice ad len cap, .slice ad2 len2 cap2] w (Ret E0 w fun w' v => ∃ u, v = .tuple #[u, .int .i64 0] ∧ NatV w w' u (x - y)) := by
  obtain ⟨l, hl, hc, rfl, hn⟩ := h.limbs hx
  obtain ⟨l2, hl2, hc2, rfl, hn2⟩ := h2.limbs hy
  refine (Sub_c w X0 (X0_lt _) ad len cap l hl ad2 len2 cap2 l2 hl2).mono ?_
  rintro e w' ⟨hu, v, rfl, hv⟩
  obtain ⟨u, lr, adr, lenr, capr, rfl, hown, _⟩ := hv.ok (by rw [or2_ok (chk2_of hn hc hn2 hc2)]; unfold subE; rw [if_neg (by omega)])
  exact ⟨hu, _, rfl, u, rfl, hown.natV⟩
theorem Sub_less (w : World) (ad : Option Addr) (len cap x : Nat) (h : NatR (rd w X0) ad len cap x) (ad2 : Option Addr) (len2 cap2 y : Nat) (h2 : NatR (rd w X0) ad2 len2 cap2 y) (hx : x < 4294967296 ^ 512) (hy : y < 4294967296 ^ 512) (hf : x < y) : Calls Tryz.prog 156 #[.slice ad len cap, .slice ad2 len2 cap2] w (Ret E0 w fun _ v => v = .tuple #[.slice none 0 0, .int .i64 7]) := by
  obtain ⟨l, hl, hc, rfl, hn⟩ := h.limbs hx
  obtain ⟨l2, hl2, hc2, rfl, hn2⟩ := h2.limbs hy
  refine (Sub_c w X0 (X0_lt _) ad len cap l hl ad2 len2 cap2 l2 hl2).mono ?_
  rintro e w' ⟨hu, v, rfl, hv⟩
  have he : or2 (chk2 l l2) (subE (val l) (val l2)) = 7 := by rw [or2_ok (chk2_of hn hc hn2 hc2)]; unfold subE; rw [if_pos hf]
  rw [he] at hv
  exact ⟨hu, _, rfl, hv.err (by decide)⟩
theorem GCD_n (w : World) (ad : Option Addr) (len cap x : Nat) (h : NatR (rd w X0) ad len cap x) (ad2 : Option Addr) (len2 cap2 y : Nat) (h2 : NatR (rd w X0) ad2 len2 cap2 y) (hx : x < 4294967296 ^ 512) (hy : y < 4294967296 ^ 512) : Calls Tryz.prog 147 #[.slice ad len cap, .slice ad2 len2 cap2] w (Ret E0 w fun w' v => ∃ u, v = .tuple #[u, .int .i64 0] ∧ NatV w w' u (Nat.gcd x y)) := by
  obtain ⟨l, hl, hc, rfl, hn⟩ := h.limbs hx
  obtain ⟨l2, hl2, hc2, rfl, hn2⟩ := h2.limbs hy
  refine (GCD_c w X0 (X0_lt _) ad len cap l hl ad2 len2 cap2 l2 hl2).mono ?_
  rintro e w' ⟨hu, v, rfl, hv⟩
  obtain ⟨u, lr, adr, lenr, capr, rfl, hown, _⟩ := hv.ok (chk2_of hn hc hn2 hc2)
  exact ⟨hu, _, rfl, u, rfl, hown.natV⟩
theorem DivMod_n (w : World) (ad : Option Addr) (len cap x : Nat) (h : NatR (rd w X0) ad len cap x) (ad2 : Option Addr) (len2 cap2 y : Nat) (h2 : NatR (rd w X0) ad2 len2 cap2 y) (hx : x < 4294967296 ^ 512) (hy : y < 4294967296 ^ 512) (hd : 0 < y) : Calls Tryz.prog 152 #[.slice ad len cap, .slice ad2 len2 cap2] w (Ret E0 w fun w' v => ∃ u u2, v = .tuple #[u, u2, .int .i64 0] ∧ NatV w w' u (x / y) ∧ NatV w w' u2 (x % y)) := by
  obtain ⟨l, hl, hc, rfl, hn⟩ := h.limbs hx
  obtain ⟨l2, hl2, hc2, rfl, hn2⟩ := h2.limbs hy
  refine (DivMod_c w X0 (X0_lt _) ad len cap l hl ad2 len2 cap2 l2 hl2).mono ?_
  rintro e w' ⟨hu, v, rfl, hv⟩
  have he : or2 (chk2 l l2) (zeroE (val l2)) = 0 := by rw [or2_ok (chk2_of hn hc hn2 hc2)]; unfold zeroE; rw [if_neg (by omega)]
  rcases hv with ⟨h0, _⟩ | ⟨_, u, u2, a1, a2, a3, a4, a5, a6, a7, a8, rfl, hq, _, hr, _⟩
  · exact absurd he h0
  · exact ⟨hu, _, rfl, u, u2, rfl, hq.natV, hr.natV⟩
theorem clone_n (w : World) (ad : Option Addr) (len cap x : Nat) (h : NatR (rd w X0) ad len cap x) (hx : x < 4294967296 ^ 512) : Calls Tryz.prog 153 #[.slice ad len cap] w (Ret E0 w fun w' v => NatV w w' v x) := by
  obtain ⟨l, hl, hc, rfl, hn⟩ := h.limbs hx
  refine (clone_c w X0 (X0_lt _) ad len cap l hl (by rw [hl.hlen]; omega)).mono ?_
  rintro e w' ⟨hu, v, rfl, ad', len', cap', hown⟩
  exact ⟨hu, _, rfl, OwnN.natV ⟨hown, hc, rfl⟩⟩
theorem from_n (w : World) (x : Nat) (hx : x < 18446744073709551616) : Calls Tryz.prog 125 #[.int .u64 (x : Int)] w (Ret E0 w fun w' v => NatV w w' v x) := by
  refine (from_c w X0 (X0_lt _) x hx).mono ?_
  rintro e w' ⟨hu, v, rfl, l, ad, len, cap, h1, h2, h3⟩
  exact ⟨hu, _, rfl, OwnN.natV ⟨h1, h2, h3⟩⟩
end Go.Proofs.YtppalofalmieaaaGreat
namespace Go.Proofs.YtppalofalmieaaaGreat
open Go Go.Gv Go.RowKit
set_option maxRecDepth 100000
set_option maxHeartbeats 1000000
theorem times_c (w : World) (X : Hid) (hX : ∀ k o, X k o → k < w.heap.size) (ad : Option Addr) (len cap x : Nat) (h : NatR (rd w X) ad len cap x) (ad2 : Option Addr) (len2 cap2 y : Nat) (h2 : NatR (rd w X) ad2 len2 cap2 y) (hx : x < 4294967296 ^ 512) (hy : y < 4294967296 ^ 512) (hf : x * y < 4294967296 ^ 512) : Calls Tryz.prog 122 #[.slice ad len cap, .slice ad2 len2 cap2] w (Ret E0 w fun w' v => NatX X w' v (x * y)) := by
 refine zen Tryz.func122 ?_
 have B0 : St E0 w X w X [] := St.start hX
 refine zz 9 ?_
 refine zc B0 (Mul_n _ _ _ _ x (h.mono Le.x0) _ _ _ y (h2.mono Le.x0) (by first | assumption | omega) (by first | assumption | omega) (by first | assumption | omega)) ?_
 rintro v3 w3 B3 j3 hu3 ⟨u3, rfl, ⟨ad3, len3, cap3, rfl, hn3⟩⟩
 have hN3 := hn3 _ B0.lt
 refine zz 14 ?_
 refine zr' (v := .slice ad3 len3 cap3) ?_
 exact ⟨B3.upd, _, rfl, B3.lastN hN3⟩
theorem plus_c (w : World) (X : Hid) (hX : ∀ k o, X k o → k < w.heap.size) (ad : Option Addr) (len cap x : Nat) (h : NatR (rd w X) ad len cap x) (ad2 : Option Addr) (len2 cap2 y : Nat) (h2 : NatR (rd w X) ad2 len2 cap2 y) (hx : x < 4294967296 ^ 512) (hy : y < 4294967296 ^ 512) (hf : x + y < 4294967296 ^ 512) : Calls Tryz.prog 123 #[.slice ad len cap, .slice ad2 len2 cap2] w (Ret E0 w fun w' v => NatX X w' v (x + y)) := by
 refine zen Tryz.func123 ?_
 have B0 : St E0 w X w X [] := St.start hX
 refine zz 9 ?_
 refine zc B0 (Add_n _ _ _ _ x (h.mono Le.x0) _ _ _ y (h2.mono Le.x0) (by first | assumption | omega) (by first | assumption | omega) (by first | assumption | omega)) ?_
 rintro v3 w3 B3 j3 hu3 ⟨u3, rfl, ⟨ad3, len3, cap3, rfl, hn3⟩⟩
 have hN3 := hn3 _ B0.lt
 refine zz 14 ?_
 refine zr' (v := .slice ad3 len3 cap3) ?_
 exact ⟨B3.upd, _, rfl, B3.lastN hN3⟩
theorem minus_ge (w : World) (X : Hid) (hX : ∀ k o, X k o → k < w.heap.size) (ad : Option Addr) (len cap x : Nat) (h : NatR (rd w X) ad len cap x) (ad2 : Option Addr) (len2 cap2 y : Nat) (h2 : NatR (rd w X) ad2 len2 cap2 y) (hx : x < 4294967296 ^ 512) (hy : y < 4294967296 ^ 512) (hf : y ≤ x) : Calls Tryz.prog 124 #[.slice ad len cap, .slice ad2 len2 cap2] w (Ret E0 w fun w' v => ∃ u, v = .tuple #[u, .bool false] ∧ NatX X w' u (x - y)) := by
 refine zen Tryz.func124 ?_
 have B0 : St E0 w X w X [] := St.start hX
 refine zz 11 ?_
 refine zc B0 (Sub_n _ _ _ _ x (h.mono Le.x0) _ _ _ y (h2.mono Le.x0) (by first | assumption | omega) (by first | assumption | omega) (by first | assumption | omega)) ?_
 rintro v3 w3 B3 j3 hu3 ⟨u3, rfl, ⟨ad3, len3, cap3, rfl, hn3⟩⟩
 have hN3 := hn3 _ B0.lt
 refine zz 23 ?_
 refine zr' (v := .tuple #[.slice ad3 len3 cap3, .bool false]) ?_
 exact ⟨B3.upd, _, rfl, _, rfl, B3.lastN hN3⟩
theorem minus_lt (w : World) (X : Hid) (hX : ∀ k o, X k o → k < w.heap.size) (ad : Option Addr) (len cap x : Nat) (h : NatR (rd w X) ad len cap x) (ad2 : Option Addr) (len2 cap2 y : Nat) (h2 : NatR (rd w X) ad2 len2 cap2 y) (hx : x < 4294967296 ^ 512) (hy : y < 4294967296 ^ 512) (hf : x < y) : Calls Tryz.prog 124 #[.slice ad len cap, .slice ad2 len2 cap2] w (Ret E0 w fun w' v => ∃ u, v = .tuple #[u, .bool true] ∧ NatX X w' u (y - x)) := by
 refine zen Tryz.func124 ?_
 have B0 : St E0 w X w X [] := St.start hX
 refine zz 11 ?_
 refine zc B0 (Sub_less _ _ _ _ x (h.mono Le.x0) _ _ _ y (h2.mono Le.x0) (by first | assumption | omega) (by first | assumption | omega) (by first | assumption | omega)) ?_
 rintro v3 w3 B3 j3 hu3 rfl
 refine zz 20 ?_
 refine zc B3 (Sub_n _ _ _ _ y ((h2.mono j3).mono Le.x0) _ _ _ x ((h.mono j3).mono Le.x0) (by first | assumption | omega) (by first | assumption | omega) (by first | assumption | omega)) ?_
 rintro v5 w5 B5 j5 hu5 ⟨u5, rfl, ⟨ad5, len5, cap5, rfl, hn5⟩⟩
 have hN5 := hn5 _ B3.lt
 refine zz 15 ?_
 refine zr' (v := .tuple #[.slice ad5 len5 cap5, .bool true]) ?_
 exact ⟨B5.upd, _, rfl, _, rfl, B5.lastN hN5⟩
theorem minus_c (w : World) (X : Hid) (hX : ∀ k o, X k o → k < w.heap.size) (ad : Option Addr) (len cap x : Nat) (h : NatR (rd w X) ad len cap x) (ad2 : Option Addr) (len2 cap2 y : Nat) (h2 : NatR (rd w X) ad2 len2 cap2 y) (hx : x < 4294967296 ^ 512) (hy : y < 4294967296 ^ 512) : Calls Tryz.prog 124 #[.slice ad len cap, .slice ad2 len2 cap2] w (Ret E0 w fun w' v => ∃ u, v = .tuple #[u, .bool (decide (x < y))] ∧ NatX X w' u (if x < y then y - x else x - y)) := by
  by_cases hf : x < y
  · rw [if_pos hf, decide_eq_true hf]; exact minus_lt w X hX ad len cap x h ad2 len2 cap2 y h2 hx hy hf
  · rw [if_neg hf, decide_eq_false hf]; exact minus_ge w X hX ad len cap x h ad2 len2 cap2 y h2 hx hy (by omega)
theorem unit_c (w : World) (X : Hid) (hX : ∀ k o, X k o → k < w.heap.size) (ad : Option Addr) (len cap x : Nat) (h : NatR (rd w X) ad len cap x) : Calls Tryz.prog 146 #[.slice ad len cap] w (Ret E0 w fun _ v => v = .bool (decide (x = 1))) := by
 refine zen Tryz.func146 ?_
 have B0 : St E0 w X w X [] := St.start hX
 refine zz 11 ?_
 refine zb 6 (b := ((len : Int) == 1)) (fun hc2 => ?_) (fun hc2 => ?_)
 ·
  have ht3 : (len : Int) = 1 := by simpa using hc2
  obtain ⟨bk, of, rfl, hx1, hat⟩ := h.one (by omega)
  refine zz 1 ?_
  refine zi (b := bk) (off := of) (len := len) (cap := cap) (kd := .i64) (i := 0) 1 of ?_ (hoff := kr)
  refine zl (hat).cells ?_
  refine zz 6 ?_
  refine zr' (v := .bool ((x : Int) == 1)) ?_
  exact ⟨B0.upd, _, rfl, zJ (by rw [Bool.eq_iff_iff]; simp; omega)⟩
 have ht4 : (len : Int) ≠ 1 := by simpa using hc2
 have hx1 : x ≠ 1 := fun e => by subst e; exact absurd h.of_one (by omega)
 refine zz 9 ?_
 refine zr' (v := .bool false) ?_
 exact ⟨B0.upd, _, rfl, zJ (by simp [hx1])⟩
end Go.Proofs.YtppalofalmieaaaGreat
namespace Go.Proofs.YtppalofalmieaaaGreat
open Go Go.Gv Go.RowKit
set_option maxRecDepth 100000
set_option maxHeartbeats 1000000
theorem natural_c (w : World) (X : Hid) (hX : ∀ k o, X k o → k < w.heap.size) (n : Int) (h1 : -9223372036854775808 ≤ n) (h2 : n ≤ 9223372036854775807) : Calls Tryz.prog 91 #[.int .i64 n] w (Ret E0 w fun w' v => NatX X w' v n.natAbs) := by
 refine zen Tryz.func91 ?_
 have B0 : St E0 w X w X [] := St.start hX
 refine zz 12 ?_
 refine zt 4 (p := (n) < 0) (fun ht2 => ?_) (fun ht2 => ?_)
 ·
  refine zz 5 ?_
  refine zs 6 (v := .int .u64 (IntKind.u64.wrap (n))) (v' := .int .u64 (n + 18446744073709551616)) (vint (by rw [wrap_u64]; omega)) ?_
  refine zz 1 ?_
  refine zs 7 (v := .int .u64 (IntKind.u64.wrap ((0 : Int) - (n + 18446744073709551616)))) (v' := .int .u64 ((n.natAbs : Nat) : Int)) (vint (by rw [wrap_u64]; omega)) ?_
  refine zc B0 (from_n _ n.natAbs (by omega)) ?_
  rintro v4 w4 B4 j4 hu4 ⟨ad4, len4, cap4, rfl, hn4⟩
  have hN4 := hn4 _ B0.lt
  refine zz 5 ?_
  refine zr' (v := .slice ad4 len4 cap4) ?_
  exact ⟨B4.upd, _, rfl, B4.lastN hN4⟩
 refine zz 7 ?_
 refine zs 10 (v := .int .u64 (IntKind.u64.wrap (n))) (v' := .int .u64 ((n.natAbs : Nat) : Int)) (vint (by rw [wrap_u64]; omega)) ?_
 refine zc B0 (from_n _ n.natAbs (by omega)) ?_
 rintro v6 w6 B6 j6 hu6 ⟨ad6, len6, cap6, rfl, hn6⟩
 have hN6 := hn6 _ B0.lt
 refine zz 4 ?_
 refine zr' (v := .slice ad6 len6 cap6) ?_
 exact ⟨B6.upd, _, rfl, B6.lastN hN6⟩
theorem lowest_c (w : World) (X : Hid) (hX : ∀ k o, X k o → k < w.heap.size) (ad : Option Addr) (len cap x : Nat) (h : NatR (rd w X) ad len cap x) (ad2 : Option Addr) (len2 cap2 y : Nat) (h2 : NatR (rd w X) ad2 len2 cap2 y) (sg : Bool) (hx : x < 4294967296 ^ 512) (hy : y < 4294967296 ^ 512) (hd : 0 < y) : Calls Tryz.prog 121 #[.agg #[.slice ad len cap, .slice ad2 len2 cap2, .bool sg]] w (Ret E0 w fun w' v => RatX (old w) w' v (mkRat (sgn sg x) y)) := by
 refine zen Tryz.func121 ?_
 have B0 : St E0 w X w X [] := St.start hX
 refine zz 2 ?_
 refine zn pn (.cells #[.slice ad len cap, .slice ad2 len2 cap2, .bool sg] 160 (0, 0)) B0 ?_
 intro b3 w3 Y3 B3 j3 hu3
 refine zn pn (.cells #[.bool false, .slice none 0 0, .slice none 0 0] 28 (0, 0)) B3 ?_
 intro b5 w5 Y5 B5 j5 hu5
 refine zz 7 ?_
 refine zo 1 B5 ?_
 refine zz 4 ?_
 refine zb 10 (b := ((len : Int) == 0)) (fun hc6 => ?_) (fun hc6 => ?_)
 ·
  have ht7 : (len : Int) = 0 := by simpa using hc6
  have hx0 : x = 0 := h.len0.1 (by omega)
  refine zz 4 ?_
  refine zx 0 #[.bool false, .slice none 0 0, .slice none 0 0] B5 ?_
  intro w8 B8 j8
  refine zz 4 ?_
  refine zrS [.cell 2 28] (v := .agg #[.bool false, .slice none 0 0, .slice none 0 0]) (Res.cM B8 0 Res.nil) ?_
  exact ⟨B8.upd, _, rfl, by rw [hx0]; exact zero_rat y⟩
 have ht9 : (len : Int) ≠ 0 := by simpa using hc6
 have hx0 : x ≠ 0 := fun e => absurd (h.len0.2 e) (by omega)
 have hgp : 0 < Nat.gcd x y := Nat.gcd_pos_of_pos_right _ hd
 have hgb : Nat.gcd x y < 4294967296 ^ 512 := Nat.lt_of_le_of_lt (Nat.gcd_le_right _ hd) hy
 have hb1 : x / Nat.gcd x y < 4294967296 ^ 512 := Nat.lt_of_le_of_lt (Nat.div_le_self _ _) hx
 have hb2 : y / Nat.gcd x y < 4294967296 ^ 512 := Nat.lt_of_le_of_lt (Nat.div_le_self _ _) hy
 refine zz 8 ?_
 refine zo 1 B5 ?_
 refine zz 2 ?_
 refine zo 1 B5 ?_
 refine zc B5 (GCD_n _ _ _ _ x ((h.mono (Le2 j3 j5)).mono Le.x0) _ _ _ y ((h2.mono (Le2 j3 j5)).mono Le.x0) (by first | assumption | omega) (by first | assumption | omega)) ?_
 rintro v11 w11 B11 j11 hu11 ⟨u11, rfl, ⟨ad11, len11, cap11, rfl, hn11⟩⟩
 have hN11 := hn11 _ B5.lt
 refine zz 10 ?_
 refine zc B11 (unit_c _ _ B11.lt _ _ _ (Nat.gcd x y) hN11) ?_
 rintro v13 w13 B13 j13 hu13 rfl
 refine zz 3 ?_
 refine zb 24 (b := !(decide (Nat.gcd x y = 1))) (fun hc14 => ?_) (fun hc14 => ?_)
 ·
  have ht15 : ¬ (Nat.gcd x y = 1) := by simpa using hc14
  refine zz 5 ?_
  refine zo 1 B13 ?_
  refine zz 1 ?_
  have hc1_ := (Le3 j3 j5 j11).trans j13
  refine zc B13 (DivMod_n _ _ _ _ x ((h.mono hc1_).mono Le.x0) _ _ _ (Nat.gcd x y) ((hN11.mono j13).mono Le.x0) (by first | assumption | omega) (by first | assumption | omega) (by assumption)) ?_
  rintro v17 w17 B17 j17 hu17 ⟨u17, v217, rfl, ⟨ad17, len17, cap17, rfl, hn17⟩, ⟨ae17, le17, ce17, rfl, hm17⟩⟩
  have hN17 := hn17 _ B13.lt
  refine zz 6 ?_
  refine zx 1 #[.slice ad17 len17 cap17, .slice ad2 len2 cap2, .bool sg] B17 ?_
  intro w18 B18 j18
  refine zz 5 ?_
  refine zo 1 B18 ?_
  refine zz 1 ?_
  have hc2_ := (hc1_.trans j17).trans j18
  refine zc B18 (DivMod_n _ _ _ _ y ((h2.mono hc2_).mono Le.x0) _ _ _ (Nat.gcd x y) ((hN11.mono (Le3 j13 j17 j18)).mono Le.x0) (by first | assumption | omega) (by first | assumption | omega) (by assumption)) ?_
  rintro v20 w20 B20 j20 hu20 ⟨u20, v220, rfl, ⟨ad20, len20, cap20, rfl, hn20⟩, ⟨ae20, le20, ce20, rfl, hm20⟩⟩
  have hN20 := hn20 _ B18.lt
  refine zz 6 ?_
  refine zx 1 #[.slice ad17 len17 cap17, .slice ad20 len20 cap20, .bool sg] B20 ?_
  intro w21 B21 j21
  refine zz 3 ?_
  refine zdr B21 ?_
  refine gz [0] ?_
  refine gw 1 1 ?_
  refine gz [2, 3] ?_
  refine gw 4 1 ?_
  refine gp (al 7 5 pn (.cells #[.bool false, .slice none 0 0, .slice none 0 0] 28 (0, 0))) ?_
  have hc3_ := (Le2 j18 j20).trans j21
  refine gC 5 (fun w22 Y22 _ B22 j22 => (clone_n _ _ _ _ (x / (Nat.gcd x y)) ((hN17.mono (hc3_.trans j22)).mono Le.x0) (by first | assumption | omega))) ?_ (hPd := PdOk.nil.k)
  rintro v23 w22 Y23 w23 B22 j23 ⟨ad23, len23, cap23, rfl, hn23⟩
  have hN23 := hn23 _ B22.lt
  refine gz [6] ?_
  refine gs1 (fun b24 => ?_) PdOk.nil.k
  refine gX 8 0 #[.bool sg, .slice ad23 len23 cap23, .slice none 0 0] ?_
  intro w25 Y25 j25
  refine gend (fun w26 Y26 B26 j26 => ?_)
  refine zz 6 ?_
  refine zo 2 B26 ?_
  have hc4_ := (Le3 j21 j23 j25).trans j26
  refine zc B26 (unit_c _ _ B26.lt _ _ _ (y / (Nat.gcd x y)) (hN20.mono hc4_)) ?_
  rintro v28 w28 B28 j28 hu28 rfl
  refine zz 3 ?_
  refine zb 58 (b := !(decide (y / (Nat.gcd x y) = 1))) (fun hc29 => ?_) (fun hc29 => ?_)
  ·
   have ht30 : ¬ (y / (Nat.gcd x y) = 1) := by simpa using hc29
   refine zz 4 ?_
   refine zo 2 B28 ?_
   have hc5_ := hc4_.trans j28
   refine zc B28 (clone_n _ _ _ _ (y / (Nat.gcd x y)) ((hN20.mono hc5_).mono Le.x0) (by first | assumption | omega)) ?_
   rintro v32 w32 B32 j32 hu32 ⟨ad32, len32, cap32, rfl, hn32⟩
   have hN32 := hn32 _ B28.lt
   refine zz 1 ?_
   refine zx 0 #[.bool sg, .slice ad23 len23 cap23, .slice ad32 len32 cap32] B32 ?_
   intro w33 B33 j33
   refine zz 4 ?_
   refine zo 0 B33 ?_
   refine zx 1 #[.bool sg, .slice ad23 len23 cap23, .slice ad32 len32 cap32] B33 ?_
   intro w34 B34 j34
   refine zz 3 ?_
   refine zrS [.cell 2 28] (v := .agg #[.bool sg, .slice ad23 len23 cap23, .slice ad32 len32 cap32]) (Res.cM B34 1 Res.nil) ?_
   have hc6_ := (Le5 j25 j26 j28 j32 j33).trans j34
   refine ⟨B34.upd, _, rfl, low_rat hx0 hd (by exact (((hn23 (old _) (fun _ _ h => h)).mono (Le.own B22.lt B22.upd.size hc6_)).mono Le.orr)) ?_⟩
   rw [den1, if_neg ht30]; exact (((hn32 (old _) (fun _ _ h => h)).mono (Le.own B28.lt B28.upd.size (Le2 j33 j34))).mono Le.orr)
  have ht35 : y / (Nat.gcd x y) = 1 := by simpa using hc29
  refine zz 5 ?_
  refine zo 0 B28 ?_
  refine zx 1 #[.bool sg, .slice ad23 len23 cap23, .slice none 0 0] B28 ?_
  intro w36 B36 j36
  refine zz 3 ?_
  refine zrS [.cell 2 28] (v := .agg #[.bool sg, .slice ad23 len23 cap23, .slice none 0 0]) (Res.cM B36 1 Res.nil) ?_
  have hc7_ := (Le3 j25 j26 j28).trans j36
  refine ⟨B36.upd, _, rfl, low_rat hx0 hd (by exact (((hn23 (old _) (fun _ _ h => h)).mono (Le.own B22.lt B22.upd.size hc7_)).mono Le.orr)) ?_⟩
  rw [den1, if_pos ht35]; exact (NatR.nil none (by omega))
 have ht37 : Nat.gcd x y = 1 := by simpa using hc14
 refine zz 4 ?_
 refine zdr B13 ?_
 refine gz [0] ?_
 refine gw 1 1 ?_
 refine gz [2, 3] ?_
 refine gw 4 1 ?_
 refine gp (al 7 5 pn (.cells #[.bool false, .slice none 0 0, .slice none 0 0] 28 (0, 0))) ?_
 have hc8_ := (Le3 j3 j5 j11).trans j13
 refine gC 5 (fun w38 Y38 _ B38 j38 => (clone_n _ _ _ _ x ((h.mono (hc8_.trans j38)).mono Le.x0) (by first | assumption | omega))) ?_ (hPd := PdOk.nil.k)
 rintro v39 w38 Y39 w39 B38 j39 ⟨ad39, len39, cap39, rfl, hn39⟩
 have hN39 := hn39 _ B38.lt
 refine gz [6] ?_
 refine gs1 (fun b40 => ?_) PdOk.nil.k
 refine gX 8 0 #[.bool sg, .slice ad39 len39 cap39, .slice none 0 0] ?_
 intro w41 Y41 j41
 refine gend (fun w42 Y42 B42 j42 => ?_)
 refine zz 6 ?_
 refine zo 2 B42 ?_
 have hc9_ := ((hc8_.trans j39).trans j41).trans j42
 refine zc B42 (unit_c _ _ B42.lt _ _ _ y (h2.mono hc9_)) ?_
 rintro v44 w44 B44 j44 hu44 rfl
 refine zz 3 ?_
 refine zb 58 (b := !(decide (y = 1))) (fun hc45 => ?_) (fun hc45 => ?_)
 ·
  have ht46 : ¬ (y = 1) := by simpa using hc45
  refine zz 4 ?_
  refine zo 2 B44 ?_
  have hc10_ := hc9_.trans j44
  refine zc B44 (clone_n _ _ _ _ y ((h2.mono hc10_).mono Le.x0) (by first | assumption | omega)) ?_
  rintro v48 w48 B48 j48 hu48 ⟨ad48, len48, cap48, rfl, hn48⟩
  have hN48 := hn48 _ B44.lt
  refine zz 1 ?_
  refine zx 0 #[.bool sg, .slice ad39 len39 cap39, .slice ad48 len48 cap48] B48 ?_
  intro w49 B49 j49
  refine zz 4 ?_
  refine zo 0 B49 ?_
  refine zx 1 #[.bool sg, .slice ad39 len39 cap39, .slice ad48 len48 cap48] B49 ?_
  intro w50 B50 j50
  refine zz 3 ?_
  refine zrS [.cell 2 28] (v := .agg #[.bool sg, .slice ad39 len39 cap39, .slice ad48 len48 cap48]) (Res.cM B50 1 Res.nil) ?_
  have hc11_ := (Le5 j41 j42 j44 j48 j49).trans j50
  refine ⟨B50.upd, _, rfl, low_rat hx0 hd (by rw [ht37, Nat.div_one]; exact (((hn39 (old _) (fun _ _ h => h)).mono (Le.own B38.lt B38.upd.size hc11_)).mono Le.orr)) ?_⟩
  rw [ht37, Nat.div_one]
  rw [den1, if_neg ht46]; exact (((hn48 (old _) (fun _ _ h => h)).mono (Le.own B44.lt B44.upd.size (Le2 j49 j50))).mono Le.orr)
 have ht51 : y = 1 := by simpa using hc45
 refine zz 5 ?_
 refine zo 0 B44 ?_
 refine zx 1 #[.bool sg, .slice ad39 len39 cap39, .slice none 0 0] B44 ?_
 intro w52 B52 j52
 refine zz 3 ?_
 refine zrS [.cell 2 28] (v := .agg #[.bool sg, .slice ad39 len39 cap39, .slice none 0 0]) (Res.cM B52 1 Res.nil) ?_
 have hc12_ := (Le3 j41 j42 j44).trans j52
 refine ⟨B52.upd, _, rfl, low_rat hx0 hd (by rw [ht37, Nat.div_one]; exact (((hn39 (old _) (fun _ _ h => h)).mono (Le.own B38.lt B38.upd.size hc12_)).mono Le.orr)) ?_⟩
 rw [ht37, Nat.div_one]
 rw [den1, if_pos ht51]; exact (NatR.nil none (by omega))
end Go.Proofs.YtppalofalmieaaaGreat
namespace Go.Proofs.YtppalofalmieaaaGreat
open Go Go.Gv Go.RowKit
set_option maxRecDepth 100000
set_option maxHeartbeats 1000000
theorem of_c (w : World) (X : Hid) (hX : ∀ k o, X k o → k < w.heap.size) (sg : Bool) (ad : Option Addr) (len cap x : Nat) (h : NatR (rd w X) ad len cap x) (ad2 : Option Addr) (len2 cap2 y : Nat) (h2 : NatR (rd w X) ad2 len2 cap2 y) : Calls Tryz.prog 120 #[.agg #[.bool sg, .slice ad len cap, .slice ad2 len2 cap2]] w (Ret E0 w fun w' v => ValX X w' v sg x (if y = 0 then 1 else y)) := by
 refine zen Tryz.func120 ?_
 have B0 : St E0 w X w X [] := St.start hX
 refine zz 2 ?_
 refine zn pn (.cells #[.bool sg, .slice ad len cap, .slice ad2 len2 cap2] 28 (0, 0)) B0 ?_
 intro b3 w3 Y3 B3 j3 hu3
 refine zn pn (.cells #[.slice none 0 0, .slice none 0 0, .bool false] 160 (0, 0)) B3 ?_
 intro b5 w5 Y5 B5 j5 hu5
 refine zz 5 ?_
 refine zo 1 B5 ?_
 refine zz 1 ?_
 refine zo 1 B5 ?_
 refine zz 2 ?_
 refine zo 1 B5 ?_
 refine zz 1 ?_
 refine zn pn (.cells #[.slice none 0 0, .slice none 0 0, .bool false] 160 (0, 0)) B5 ?_
 intro b7 w7 Y7 B7 j7 hu7
 refine zx 0 #[.slice ad len cap, .slice ad2 len2 cap2, .bool sg] B7 ?_
 intro w8 B8 j8
 refine zz 7 ?_
 refine zo 0 B8 ?_
 refine zz 4 ?_
 refine zb 16 (b := ((len2 : Int) == 0)) (fun hc9 => ?_) (fun hc9 => ?_)
 ·
  have ht10 : (len2 : Int) = 0 := by simpa using hc9
  have hy0 : y = 0 := h2.len0.1 (by omega)
  refine zz 2 ?_
  refine zn (fun b => .slice (some ⟨b, 0, none⟩) 1 1) (.cells #[.int .u32 1] 56 (0, 0)) B8 ?_
  intro b12 w12 Y12 B12 j12 hu12
  refine zz 2 ?_
  refine zx 1 #[.slice ad len cap, .slice (some ⟨b12, 0, none⟩) 1 1, .bool sg] B12 ?_
  intro w13 B13 j13
  refine zz 4 ?_
  refine zo 1 B13 ?_
  refine zx 2 #[.slice ad len cap, .slice (some ⟨b12, 0, none⟩) 1 1, .bool sg] B13 ?_
  intro w14 B14 j14
  refine zz 3 ?_
  refine zrS [.cell 2 160] (v := .agg #[.slice ad len cap, .slice (some ⟨b12, 0, none⟩) 1 1, .bool sg]) (Res.cM B14 2 Res.nil) ?_
  have hc1_ := (Le6 j3 j5 j7 j8 j12 j13).trans j14
  exact ⟨B14.upd, _, rfl, _, _, _, _, _, _, rfl, (h.mono hc1_).mono B14.le, by rw [if_pos hy0]; exact one_nat (B14.rowX 0 rfl (B14.own_ge 0 rfl) (one_row rfl))⟩
 have ht15 : (len2 : Int) ≠ 0 := by simpa using hc9
 have hy0 : y ≠ 0 := fun e => absurd (h2.len0.2 e) (by omega)
 refine zz 5 ?_
 refine zo 0 B8 ?_
 refine zx 1 #[.slice ad len cap, .slice ad2 len2 cap2, .bool sg] B8 ?_
 intro w16 B16 j16
 refine zz 3 ?_
 refine zrS [.cell 2 160] (v := .agg #[.slice ad len cap, .slice ad2 len2 cap2, .bool sg]) (Res.cM B16 1 Res.nil) ?_
 have hc2_ := (Le4 j3 j5 j7 j8).trans j16
 exact ⟨B16.upd, _, rfl, _, _, _, _, _, _, rfl, (h.mono hc2_).mono B16.le, by rw [if_neg hy0]; exact (h2.mono hc2_).mono B16.le⟩
theorem sum_c (w : World) (X : Hid) (hX : ∀ k o, X k o → k < w.heap.size) (ad₁ : Option Addr) (len₁ cap₁ n₁ : Nat) (h₁ : NatR (rd w X) ad₁ len₁ cap₁ n₁) (ae₁ : Option Addr) (le₁ ce₁ d₁ : Nat) (k₁ : NatR (rd w X) ae₁ le₁ ce₁ d₁) (s₁ : Bool) (hn₁ : n₁ < K128) (hd₁ : d₁ < K128) (ad₂ : Option Addr) (len₂ cap₂ n₂ : Nat) (h₂ : NatR (rd w X) ad₂ len₂ cap₂ n₂) (ae₂ : Option Addr) (le₂ ce₂ d₂ : Nat) (k₂ : NatR (rd w X) ae₂ le₂ ce₂ d₂) (s₂ : Bool) (hn₂ : n₂ < K128) (hd₂ : d₂ < K128) : Calls Tryz.prog 89 #[.agg #[.slice ad₁ len₁ cap₁, .slice ae₁ le₁ ce₁, .bool s₁], .agg #[.slice ad₂ len₂ cap₂, .slice ae₂ le₂ ce₂, .bool s₂]] w (Ret E0 w fun w' v => ∃ s m, ValX X w' v s m (d₁ * d₂) ∧ m < 4294967296 ^ 512 ∧ sgn s m = sgn s₁ n₁ * d₂ + sgn s₂ n₂ * d₁) := by
 refine zen Tryz.func89 ?_
 have B0 : St E0 w X w X [] := St.start hX
 have hb : ∀ {x : Nat}, x < K128 → x < 4294967296 ^ 512 := fun h => Nat.lt_of_lt_of_le h k512
 have hbn1 := hb hn₁
 have hbn2 := hb hn₂
 have hbd1 := hb hd₁
 have hbd2 := hb hd₂
 obtain ⟨hp1, hp12⟩ := prod512 hn₁ hd₂ hn₂ hd₁
 have hp2 := (prod512 hn₂ hd₁ hn₁ hd₂).1
 have hpd := (prod512 hd₁ hd₂ hd₁ hd₂).1
 have hpn := (prod512 hn₁ hn₂ hd₁ hd₂).1
 refine zz 2 ?_
 refine zn pn (.cells #[.slice ad₁ len₁ cap₁, .slice ae₁ le₁ ce₁, .bool s₁] 160 (0, 0)) B0 ?_
 intro b3 w3 Y3 B3 j3 hu3
 refine zn pn (.cells #[.slice ad₂ len₂ cap₂, .slice ae₂ le₂ ce₂, .bool s₂] 160 (0, 0)) B3 ?_
 intro b5 w5 Y5 B5 j5 hu5
 refine zn pn (.cells #[.slice none 0 0, .slice none 0 0, .bool false] 160 (0, 0)) B5 ?_
 intro b7 w7 Y7 B7 j7 hu7
 refine zz 3 ?_
 refine zdr B7 ?_
 refine gz [0, 1] ?_
 refine gw 2 2 ?_
 refine gz [3, 4] ?_
 refine gw 5 1 ?_
 refine gz [7, 8] ?_
 refine gw 9 1 ?_
 refine gz [10, 11] ?_
 refine gw 12 2 ?_
 have hc1_ := (Le2 j3 j5).trans j7
 refine gC 6 (fun w8 Y8 _ B8 j8 => (times_c _ _ B8.lt _ _ _ n₁ (h₁.mono (hc1_.trans j8)) _ _ _ d₂ (k₂.mono (hc1_.trans j8)) (by first | assumption | omega) (by first | assumption | omega) (by first | assumption | omega))) ?_
 rintro v9 w8 Y9 w9 B8 j9 ⟨ad9, len9, cap9, rfl, hN9⟩
 have hc2_ := hc1_.trans j9
 refine gC 13 (fun w10 Y10 _ B10 j10 => (times_c _ _ B10.lt _ _ _ n₂ (h₂.mono (hc2_.trans j10)) _ _ _ d₁ (k₁.mono (hc2_.trans j10)) (by first | assumption | omega) (by first | assumption | omega) (by first | assumption | omega))) ?_
 rintro v11 w10 Y11 w11 B10 j11 ⟨ad11, len11, cap11, rfl, hN11⟩
 refine gz [14, 15] ?_
 refine gend (fun w12 Y12 B12 j12 => ?_)
 refine zz 2 ?_
 refine zdr B12 ?_
 refine gz [0, 1] ?_
 refine gw 2 2 ?_
 refine gz [3, 4] ?_
 refine gw 5 1 ?_
 refine gz [8] ?_
 refine gw 9 2 ?_
 refine gp (al 11 7 pn (.cells #[.slice none 0 0, .slice none 0 0, .bool false] 160 (0, 0))) ?_
 have hc3_ := (hc2_.trans j11).trans j12
 refine gC 6 (fun w13 Y13 _ B13 j13 => (times_c _ _ B13.lt _ _ _ d₁ (k₁.mono (hc3_.trans j13)) _ _ _ d₂ (k₂.mono (hc3_.trans j13)) (by first | assumption | omega) (by first | assumption | omega) (by first | assumption | omega))) ?_ (hPd := PdOk.nil.k)
 rintro v14 w13 Y14 w14 B13 j14 ⟨ad14, len14, cap14, rfl, hN14⟩
 refine gz [7, 10] ?_
 refine gs1 (fun b15 => ?_) PdOk.nil.k
 refine gX 12 0 #[.slice none 0 0, .slice ad14 len14 cap14, .bool s₁] ?_
 intro w16 Y16 j16
 refine gend (fun w17 Y17 B17 j17 => ?_)
 refine zz 5 ?_
 refine zo 3 B17 ?_
 refine zz 1 ?_
 refine zo 2 B17 ?_
 refine zz 3 ?_
 refine zb 38 (b := (s₁ == s₂)) (fun hc18 => ?_) (fun hc18 => ?_)
 ·
  have ht19 : s₁ = s₂ := by simpa using hc18
  refine zz 5 ?_
  have hc4_ := (Le4 j11 j12 j14 j16).trans j17
  have hc5_ := (Le3 j12 j14 j16).trans j17
  refine zc B17 (plus_c _ _ B17.lt _ _ _ (n₁ * d₂) (hN9.mono hc4_) _ _ _ (n₂ * d₁) (hN11.mono hc5_) (by first | assumption | omega) (by first | assumption | omega) (by first | assumption | omega)) ?_
  rintro v21 w21 B21 j21 hu21 ⟨ad21, len21, cap21, rfl, hN21⟩
  refine zz 2 ?_
  refine zx 0 #[.slice ad21 len21 cap21, .slice ad14 len14 cap14, .bool s₁] B21 ?_
  intro w22 B22 j22
  refine zz 4 ?_
  refine zo 0 B22 ?_
  refine zx 1 #[.slice ad21 len21 cap21, .slice ad14 len14 cap14, .bool s₁] B22 ?_
  intro w23 B23 j23
  refine zz 4 ?_
  refine zrS [.cell 4 160] (v := .agg #[.slice ad21 len21 cap21, .slice ad14 len14 cap14, .bool s₁]) (Res.cM B23 1 Res.nil) ?_
  have hc6_ := (Le4 j16 j17 j21 j22).trans j23
  have hx9 := (hN21.mono (Le2 j22 j23))
  exact ⟨B23.upd, _, rfl, _, _, ⟨_, _, _, _, _, _, rfl, hx9.mono B23.le, (hN14.mono hc6_).mono B23.le⟩, hp12, sum_same ht19 _ _ _ _⟩
 have ht24 : s₁ ≠ s₂ := by simpa using hc18
 refine zz 13 ?_
 have hc7_ := (Le4 j11 j12 j14 j16).trans j17
 have hc8_ := (Le3 j12 j14 j16).trans j17
 refine zc B17 (minus_c _ _ B17.lt _ _ _ (n₁ * d₂) (hN9.mono hc7_) _ _ _ (n₂ * d₁) (hN11.mono hc8_) (by first | assumption | omega) (by first | assumption | omega)) ?_
 rintro v26 w26 B26 j26 hu26 ⟨u26, rfl, ⟨ad26, len26, cap26, rfl, hN26⟩⟩
 refine zz 5 ?_
 refine zx 0 #[.slice ad26 len26 cap26, .slice ad14 len14 cap14, .bool s₁] B26 ?_
 intro w27 B27 j27
 refine zz 8 ?_
 refine zt 53 (p := (n₁ * d₂) < (n₂ * d₁)) (fun ht28 => ?_) (fun ht28 => ?_)
 ·
  refine zz 3 ?_
  refine zo 2 B27 ?_
  refine zz 1 ?_
  refine zx 0 #[.slice ad26 len26 cap26, .slice ad14 len14 cap14, .bool s₂] B27 ?_
  intro w29 B29 j29
  refine zz 4 ?_
  refine zo 0 B29 ?_
  refine zx 1 #[.slice ad26 len26 cap26, .slice ad14 len14 cap14, .bool s₂] B29 ?_
  intro w30 B30 j30
  refine zz 3 ?_
  refine zrS [.cell 4 160] (v := .agg #[.slice ad26 len26 cap26, .slice ad14 len14 cap14, .bool s₂]) (Res.cM B30 1 Res.nil) ?_
  have hc9_ := (Le5 j16 j17 j26 j27 j29).trans j30
  have hx9 := (hN26.mono (Le3 j27 j29 j30))
  rw [if_pos ht28] at hx9
  exact ⟨B30.upd, _, rfl, _, _, ⟨_, _, _, _, _, _, rfl, hx9.mono B30.le, (hN14.mono hc9_).mono B30.le⟩, Nat.lt_of_le_of_lt (Nat.sub_le _ _) hp2, sum_lt ht24 ht28⟩
 refine zz 5 ?_
 refine zo 0 B27 ?_
 refine zx 1 #[.slice ad26 len26 cap26, .slice ad14 len14 cap14, .bool s₁] B27 ?_
 intro w31 B31 j31
 refine zz 3 ?_
 refine zrS [.cell 4 160] (v := .agg #[.slice ad26 len26 cap26, .slice ad14 len14 cap14, .bool s₁]) (Res.cM B31 1 Res.nil) ?_
 have hc10_ := (Le4 j16 j17 j26 j27).trans j31
 have hx9 := (hN26.mono (Le2 j27 j31))
 rw [if_neg ht28] at hx9
 exact ⟨B31.upd, _, rfl, _, _, ⟨_, _, _, _, _, _, rfl, hx9.mono B31.le, (hN14.mono hc10_).mono B31.le⟩, Nat.lt_of_le_of_lt (Nat.sub_le _ _) hp1, sum_ge ht24 (by omega)⟩
theorem product_c (w : World) (X : Hid) (hX : ∀ k o, X k o → k < w.heap.size) (ad₁ : Option Addr) (len₁ cap₁ n₁ : Nat) (h₁ : NatR (rd w X) ad₁ len₁ cap₁ n₁) (ae₁ : Option Addr) (le₁ ce₁ d₁ : Nat) (k₁ : NatR (rd w X) ae₁ le₁ ce₁ d₁) (s₁ : Bool) (hn₁ : n₁ < K128) (hd₁ : d₁ < K128) (ad₂ : Option Addr) (len₂ cap₂ n₂ : Nat) (h₂ : NatR (rd w X) ad₂ len₂ cap₂ n₂) (ae₂ : Option Addr) (le₂ ce₂ d₂ : Nat) (k₂ : NatR (rd w X) ae₂ le₂ ce₂ d₂) (s₂ : Bool) (hn₂ : n₂ < K128) (hd₂ : d₂ < K128) : Calls Tryz.prog 90 #[.agg #[.slice ad₁ len₁ cap₁, .slice ae₁ le₁ ce₁, .bool s₁], .agg #[.slice ad₂ len₂ cap₂, .slice ae₂ le₂ ce₂, .bool s₂]] w (Ret E0 w fun w' v => ∃ s m, ValX X w' v s m (d₁ * d₂) ∧ m < 4294967296 ^ 512 ∧ sgn s m = sgn s₁ n₁ * sgn s₂ n₂) := by
 refine zen Tryz.func90 ?_
 have B0 : St E0 w X w X [] := St.start hX
 have hb : ∀ {x : Nat}, x < K128 → x < 4294967296 ^ 512 := fun h => Nat.lt_of_lt_of_le h k512
 have hbn1 := hb hn₁
 have hbn2 := hb hn₂
 have hbd1 := hb hd₁
 have hbd2 := hb hd₂
 obtain ⟨hp1, hp12⟩ := prod512 hn₁ hd₂ hn₂ hd₁
 have hp2 := (prod512 hn₂ hd₁ hn₁ hd₂).1
 have hpd := (prod512 hd₁ hd₂ hd₁ hd₂).1
 have hpn := (prod512 hn₁ hn₂ hd₁ hd₂).1
 refine zz 2 ?_
 refine zn pn (.cells #[.slice ad₁ len₁ cap₁, .slice ae₁ le₁ ce₁, .bool s₁] 160 (0, 0)) B0 ?_
 intro b3 w3 Y3 B3 j3 hu3
 refine zn pn (.cells #[.slice ad₂ len₂ cap₂, .slice ae₂ le₂ ce₂, .bool s₂] 160 (0, 0)) B3 ?_
 intro b5 w5 Y5 B5 j5 hu5
 refine zn pn (.cells #[.slice none 0 0, .slice none 0 0, .bool false] 160 (0, 0)) B5 ?_
 intro b7 w7 Y7 B7 j7 hu7
 refine zz 3 ?_
 refine zdr B7 ?_
 refine gz [0, 1] ?_
 refine gw 2 2 ?_
 refine gz [3, 4] ?_
 refine gw 5 1 ?_
 refine gz [7, 8] ?_
 refine gw 9 2 ?_
 refine gz [10, 11] ?_
 refine gw 12 1 ?_
 refine gz [15] ?_
 refine gw 16 2 ?_
 refine gz [17] ?_
 refine gw 18 1 ?_
 refine gz [19] ?_
 have hc1_ := (Le2 j3 j5).trans j7
 refine gC 6 (fun w8 Y8 _ B8 j8 => (times_c _ _ B8.lt _ _ _ n₁ (h₁.mono (hc1_.trans j8)) _ _ _ n₂ (h₂.mono (hc1_.trans j8)) (by first | assumption | omega) (by first | assumption | omega) (by first | assumption | omega))) ?_
 rintro v9 w8 Y9 w9 B8 j9 ⟨ad9, len9, cap9, rfl, hN9⟩
 have hc2_ := hc1_.trans j9
 refine gC 13 (fun w10 Y10 _ B10 j10 => (times_c _ _ B10.lt _ _ _ d₁ (k₁.mono (hc2_.trans j10)) _ _ _ d₂ (k₂.mono (hc2_.trans j10)) (by first | assumption | omega) (by first | assumption | omega) (by first | assumption | omega))) ?_
 rintro v11 w10 Y11 w11 B10 j11 ⟨ad11, len11, cap11, rfl, hN11⟩
 refine gz [14, 20] ?_
 refine gX 21 0 #[.slice ad9 len9 cap9, .slice ad11 len11 cap11, .bool (!(s₁ == s₂))] ?_
 intro w12 Y12 j12
 refine gend (fun w13 Y13 B13 j13 => ?_)
 refine zz 2 ?_
 refine zrS [.cell 4 160] (v := .agg #[.slice ad9 len9 cap9, .slice ad11 len11 cap11, .bool (!(s₁ == s₂))]) (Res.cM B13 0 Res.nil) ?_
 exact ⟨B13.upd, _, rfl, _, _, ⟨_, _, _, _, _, _, rfl, (hN9.mono (Le3 j11 j12 j13)).mono B13.le, (hN11.mono (Le2 j12 j13)).mono B13.le⟩, hpn, sgn_mul _ _ _ _⟩
end Go.Proofs.YtppalofalmieaaaGreat
namespace Go.Proofs.YtppalofalmieaaaGreat
open Go Go.Gv Go.RowKit
set_option maxRecDepth 100000
set_option maxHeartbeats 1000000
theorem chk_4 {a : Raw} (h : 128 < a.ln.length ∨ 128 < a.ld.length) : a.chk = 4 := if_pos h
theorem chk_2 {a : Raw} (h : ¬ (128 < a.ln.length ∨ 128 < a.ld.length)) (h2 : chkN a.ln ≠ 0 ∨ chkN a.ld ≠ 0 ∨ val a.ld = 1 ∨ (val a.ln = 0 ∧ (a.neg = true ∨ 0 < val a.ld))) : a.chk = 2 := (if_neg h).trans (if_pos h2)
theorem chk_g {a : Raw} (h : ¬ (128 < a.ln.length ∨ 128 < a.ld.length)) (h2 : ¬ (chkN a.ln ≠ 0 ∨ chkN a.ld ≠ 0 ∨ val a.ld = 1 ∨ (val a.ln = 0 ∧ (a.neg = true ∨ 0 < val a.ld)))) (h3 : 0 < val a.ld ∧ Nat.gcd (val a.ln) (val a.ld) ≠ 1) : a.chk = 2 := (if_neg h).trans ((if_neg h2).trans (if_pos h3))
theorem chk_0 {a : Raw} (h : ¬ (128 < a.ln.length ∨ 128 < a.ld.length)) (h2 : ¬ (chkN a.ln ≠ 0 ∨ chkN a.ld ≠ 0 ∨ val a.ld = 1 ∨ (val a.ln = 0 ∧ (a.neg = true ∨ 0 < val a.ld)))) (h3 : ¬ (0 < val a.ld ∧ Nat.gcd (val a.ln) (val a.ld) ≠ 1)) : a.chk = 0 := (if_neg h).trans ((if_neg h2).trans (if_neg h3))
theorem canon_len0 {l : List Nat} (hc : Canon l) : l.length = 0 ↔ val l = 0 := by
  constructor
  · intro h; rw [List.eq_nil_of_length_eq_zero h]; rfl
  · intro h; rw [canon_zero hc h]; rfl
theorem rcheck_c (w : World) (X : Hid) (hX : ∀ k o, X k o → k < w.heap.size) (a : Raw) (ad : Option Addr) (len cap : Nat) (h : Limbs (rd w X) ad len cap a.ln) (ad2 : Option Addr) (len2 cap2 : Nat) (h2 : Limbs (rd w X) ad2 len2 cap2 a.ld) : Calls Tryz.prog 111 #[.agg #[.bool a.neg, .slice ad len cap, .slice ad2 len2 cap2]] w (Ret E0 w fun _ v => v = .int .i64 a.chk) := by
 obtain rfl := h.hlen
 obtain rfl := h2.hlen
 have hcap := h.hcap
 have hbig := h.hbig
 have hcap2 := h2.hcap
 have hbig2 := h2.hbig
 refine zen Tryz.func111 ?_
 have B0 : St E0 w X w X [] := St.start hX
 refine zz 2 ?_
 refine zn pn (.cells #[.bool a.neg, .slice ad a.ln.length cap, .slice ad2 a.ld.length cap2] 28 (0, 0)) B0 ?_
 intro b3 w3 Y3 B3 j3 hu3
 refine zz 8 ?_
 refine zo 0 B3 ?_
 refine zz 3 ?_
 refine zt 10 (p := (a.ln.length : Int) > 128) (fun ht4 => ?_) (fun ht4 => ?_)
 ·
  refine zz 17 ?_
  refine zr' (v := .int .i64 4) ?_
  exact ⟨B3.upd, _, rfl, vint (chk_4 (by omega)).symm⟩
 refine zz 1 ?_
 refine zo 0 B3 ?_
 refine zz 6 ?_
 refine zt 5 (p := (a.ld.length : Int) > 128) (fun ht5 => ?_) (fun ht5 => ?_)
 ·
  refine zz 9 ?_
  refine zr' (v := .int .i64 4) ?_
  exact ⟨B3.upd, _, rfl, vint (chk_4 (by omega)).symm⟩
 have hlong : ¬ (128 < a.ln.length ∨ 128 < a.ld.length) := by omega
 refine zz 5 ?_
 refine zo 0 B3 ?_
 refine zc B3 (bcheck _ X0 (X0_lt _) _ _ _ a.ln ((h.mono j3).mono Le.x0)) ?_
 rintro v7 w7 B7 j7 hu7 rfl
 refine zz 2 ?_
 refine zb 21 (b := ((chkN a.ln) != 0)) (fun hc8 => ?_) (fun hc8 => ?_)
 ·
  have ht9 : (chkN a.ln) ≠ 0 := by simpa using hc8
  refine zz 20 ?_
  refine zr' (v := .int .i64 2) ?_
  exact ⟨B7.upd, _, rfl, vint (chk_2 hlong (.inl ht9)).symm⟩
 have ht10 : (chkN a.ln) = 0 := by simpa using hc8
 refine zz 1 ?_
 refine zo 0 B7 ?_
 refine zc B7 (bcheck _ X0 (X0_lt _) _ _ _ a.ld ((h2.mono (Le2 j3 j7)).mono Le.x0)) ?_
 rintro v12 w12 B12 j12 hu12 rfl
 refine zz 5 ?_
 refine zb 16 (b := ((chkN a.ld) != 0)) (fun hc13 => ?_) (fun hc13 => ?_)
 ·
  have ht14 : (chkN a.ld) ≠ 0 := by simpa using hc13
  refine zz 12 ?_
  refine zr' (v := .int .i64 2) ?_
  exact ⟨B12.upd, _, rfl, vint (chk_2 hlong (.inr (.inl ht14))).symm⟩
 have ht15 : (chkN a.ld) = 0 := by simpa using hc13
 have hcn := (chkN_ok (by simpa using ht10 : chkN a.ln = 0)).2
 have hcd := (chkN_ok (by simpa using ht15 : chkN a.ld = 0)).2
 have hzn := canon_len0 hcn
 have hzd := canon_len0 hcd
 have hB : (4294967296 : Nat) ^ 128 ≤ 4294967296 ^ 512 := k512
 have hbn : val a.ln < 4294967296 ^ 512 := Nat.lt_of_lt_of_le ((canon_le_iff h.hlt hcn 128).1 (by omega)) hB
 have hbd : val a.ld < 4294967296 ^ 512 := Nat.lt_of_lt_of_le ((canon_le_iff h2.hlt hcd 128).1 (by omega)) hB
 have hNn := h.natR hcn
 have hNd := h2.natR hcd
 refine zz 4 ?_
 refine zo 0 B12 ?_
 refine zc B12 (unit_c _ _ B12.lt _ _ _ (val a.ld) (hNd.mono (Le3 j3 j7 j12))) ?_
 rintro v17 w17 B17 j17 hu17 rfl
 refine zz 3 ?_
 refine zt 16 (p := (val a.ld) = 1) (fun ht18 => ?_) (fun ht18 => ?_)
 ·
  refine zz 12 ?_
  refine zr' (v := .int .i64 2) ?_
  exact ⟨B17.upd, _, rfl, vint (chk_2 hlong (.inr (.inr (.inl (by simpa using ht18))))).symm⟩
 refine zz 3 ?_
 refine zo 0 B17 ?_
 refine zz 3 ?_
 refine zb 34 (b := ((a.ln.length : Int) == 0)) (fun hc19 => ?_) (fun hc19 => ?_)
 ·
  have ht20 : (a.ln.length : Int) = 0 := by simpa using hc19
  refine zz 1 ?_
  refine zo 0 B17 ?_
  refine zz 1 ?_
  refine zb 37 (b := a.neg) (fun hc21 => ?_) (fun hc21 => ?_)
  ·
   have ht22 : a.neg = true := by simpa using hc21
   refine zz 18 ?_
   refine zr' (v := .int .i64 2) ?_
   exact ⟨B17.upd, _, rfl, vint (chk_2 hlong (.inr (.inr (.inr ⟨by omega, .inl ht22⟩)))).symm⟩
  have ht23 : a.neg = false := by simpa using hc21
  refine zz 1 ?_
  refine zo 0 B17 ?_
  refine zz 7 ?_
  refine zt 16 (p := (a.ld.length : Int) > 0) (fun ht24 => ?_) (fun ht24 => ?_)
  ·
   refine zz 9 ?_
   refine zr' (v := .int .i64 2) ?_
   exact ⟨B17.upd, _, rfl, vint (chk_2 hlong (.inr (.inr (.inr ⟨by omega, .inr (by omega)⟩)))).symm⟩
  have hok : ¬ (chkN a.ln ≠ 0 ∨ chkN a.ld ≠ 0 ∨ val a.ld = 1 ∨ (val a.ln = 0 ∧ (a.neg = true ∨ 0 < val a.ld))) := by intro hh; rcases hh with e | e | e | ⟨e, e2⟩; exact (fun x => absurd (by simpa using ht10 : chkN a.ln = 0) x) e; exact (fun x => absurd (by simpa using ht15 : chkN a.ld = 0) x) e; exact (fun x => absurd x (by simpa using ht18)) e; rcases e2 with e2 | e2; rw [ht23] at e2; cases e2; omega
  have hz : ¬ 0 < val a.ld := by omega
  refine zz 8 ?_
  refine zo 0 B17 ?_
  refine zz 4 ?_
  refine zt 47 (p := (a.ld.length : Int) > 0) (fun ht25 => ?_) (fun ht25 => ?_)
  ·
   refine zz 4 ?_
   refine zo 0 B17 ?_
   refine zz 1 ?_
   refine zo 0 B17 ?_
   have hc1_ := (Le3 j3 j7 j12).trans j17
   refine zc B17 (GCD_n _ _ _ _ (val a.ln) ((hNn.mono hc1_).mono Le.x0) _ _ _ (val a.ld) ((hNd.mono hc1_).mono Le.x0) (by first | assumption | omega) (by first | assumption | omega)) ?_
   rintro v27 w27 B27 j27 hu27 ⟨u27, rfl, ⟨ad27, len27, cap27, rfl, hn27⟩⟩
   have hN27 := hn27 _ B17.lt
   refine zz 10 ?_
   refine zc B27 (unit_c _ _ B27.lt _ _ _ (Nat.gcd (val a.ln) (val a.ld)) hN27) ?_
   rintro v29 w29 B29 j29 hu29 rfl
   refine zz 3 ?_
   refine zb 58 (b := !(decide (Nat.gcd (val a.ln) (val a.ld) = 1))) (fun hc30 => ?_) (fun hc30 => ?_)
   ·
    have ht31 : ¬ (Nat.gcd (val a.ln) (val a.ld) = 1) := by simpa using hc30
    refine zz 8 ?_
    refine zr' (v := .int .i64 2) ?_
    exact ⟨B29.upd, _, rfl, vint (chk_g hlong hok ⟨by omega, by simpa using ht31⟩).symm⟩
   have ht32 : Nat.gcd (val a.ln) (val a.ld) = 1 := by simpa using hc30
   refine zz 9 ?_
   refine zr' (v := .int .i64 0) ?_
   exact ⟨B29.upd, _, rfl, vint (chk_0 hlong hok (fun hh => hh.2 (by simpa using ht32))).symm⟩
  refine zz 9 ?_
  refine zr' (v := .int .i64 0) ?_
  exact ⟨B17.upd, _, rfl, vint (chk_0 hlong hok (fun hh => by omega)).symm⟩
 have ht33 : (a.ln.length : Int) ≠ 0 := by simpa using hc19
 refine zz 20 ?_
 refine zo 0 B17 ?_
 refine zz 4 ?_
 refine zt 47 (p := (a.ld.length : Int) > 0) (fun ht34 => ?_) (fun ht34 => ?_)
 ·
  have hok : ¬ (chkN a.ln ≠ 0 ∨ chkN a.ld ≠ 0 ∨ val a.ld = 1 ∨ (val a.ln = 0 ∧ (a.neg = true ∨ 0 < val a.ld))) := by intro hh; rcases hh with e | e | e | ⟨e, e2⟩; exact (fun x => absurd (by simpa using ht10 : chkN a.ln = 0) x) e; exact (fun x => absurd (by simpa using ht15 : chkN a.ld = 0) x) e; exact (fun x => absurd x (by simpa using ht18)) e; omega
  refine zz 4 ?_
  refine zo 0 B17 ?_
  refine zz 1 ?_
  refine zo 0 B17 ?_
  have hc2_ := (Le3 j3 j7 j12).trans j17
  refine zc B17 (GCD_n _ _ _ _ (val a.ln) ((hNn.mono hc2_).mono Le.x0) _ _ _ (val a.ld) ((hNd.mono hc2_).mono Le.x0) (by first | assumption | omega) (by first | assumption | omega)) ?_
  rintro v36 w36 B36 j36 hu36 ⟨u36, rfl, ⟨ad36, len36, cap36, rfl, hn36⟩⟩
  have hN36 := hn36 _ B17.lt
  refine zz 10 ?_
  refine zc B36 (unit_c _ _ B36.lt _ _ _ (Nat.gcd (val a.ln) (val a.ld)) hN36) ?_
  rintro v38 w38 B38 j38 hu38 rfl
  refine zz 3 ?_
  refine zb 58 (b := !(decide (Nat.gcd (val a.ln) (val a.ld) = 1))) (fun hc39 => ?_) (fun hc39 => ?_)
  ·
   have ht40 : ¬ (Nat.gcd (val a.ln) (val a.ld) = 1) := by simpa using hc39
   refine zz 8 ?_
   refine zr' (v := .int .i64 2) ?_
   exact ⟨B38.upd, _, rfl, vint (chk_g hlong hok ⟨by omega, by simpa using ht40⟩).symm⟩
  have ht41 : Nat.gcd (val a.ln) (val a.ld) = 1 := by simpa using hc39
  refine zz 9 ?_
  refine zr' (v := .int .i64 0) ?_
  exact ⟨B38.upd, _, rfl, vint (chk_0 hlong hok (fun hh => hh.2 (by simpa using ht41))).symm⟩
 have hok : ¬ (chkN a.ln ≠ 0 ∨ chkN a.ld ≠ 0 ∨ val a.ld = 1 ∨ (val a.ln = 0 ∧ (a.neg = true ∨ 0 < val a.ld))) := by intro hh; rcases hh with e | e | e | ⟨e, e2⟩; exact (fun x => absurd (by simpa using ht10 : chkN a.ln = 0) x) e; exact (fun x => absurd (by simpa using ht15 : chkN a.ld = 0) x) e; exact (fun x => absurd x (by simpa using ht18)) e; omega
 refine zz 9 ?_
 refine zr' (v := .int .i64 0) ?_
 exact ⟨B17.upd, _, rfl, vint (chk_0 hlong hok (fun hh => by omega)).symm⟩
end Go.Proofs.YtppalofalmieaaaGreat
namespace Go.Proofs.YtppalofalmieaaaGreat
open Go Go.Gv Go.RowKit
set_option maxRecDepth 100000
set_option maxHeartbeats 1000000
def OpC (f : Nat) (op : Rat → Rat → Rat) : Prop := ∀ (w : World) (X : Hid) (hX : ∀ k o, X k o → k < w.heap.size) (ad₁ : Option Addr) (len₁ cap₁ n₁ : Nat) (h₁ : NatR (rd w X) ad₁ len₁ cap₁ n₁) (ae₁ : Option Addr) (le₁ ce₁ d₁ : Nat) (k₁ : NatR (rd w X) ae₁ le₁ ce₁ d₁) (s₁ : Bool) (hn₁ : n₁ < K128) (hd₁ : d₁ < K128) (ad₂ : Option Addr) (len₂ cap₂ n₂ : Nat) (h₂ : NatR (rd w X) ad₂ len₂ cap₂ n₂) (ae₂ : Option Addr) (le₂ ce₂ d₂ : Nat) (k₂ : NatR (rd w X) ae₂ le₂ ce₂ d₂) (s₂ : Bool) (hn₂ : n₂ < K128) (hd₂ : d₂ < K128) (hp₁ : 0 < d₁) (hp₂ : 0 < d₂), Calls Tryz.prog f #[.agg #[.slice ad₁ len₁ cap₁, .slice ae₁ le₁ ce₁, .bool s₁], .agg #[.slice ad₂ len₂ cap₂, .slice ae₂ le₂ ce₂, .bool s₂]] w (Ret E0 w fun w' v => ∃ s m d, ValX X w' v s m d ∧ m < 4294967296 ^ 512 ∧ d < 4294967296 ^ 512 ∧ 0 < d ∧ mkRat (sgn s m) d = op (mkRat (sgn s₁ n₁) d₁) (mkRat (sgn s₂ n₂) d₂))
theorem dd_fits {a b : Nat} (h : a < K128) (h2 : b < K128) : a * b < 4294967296 ^ 512 := dd_fit h h2
theorem sum_op : OpC 89 (· + ·) := fun w X hX ad₁ len₁ cap₁ n₁ h₁ ae₁ le₁ ce₁ d₁ k₁ s₁ hn₁ hd₁ ad₂ len₂ cap₂ n₂ h₂ ae₂ le₂ ce₂ d₂ k₂ s₂ hn₂ hd₂ hp₁ hp₂ =>
  (sum_c w X hX ad₁ len₁ cap₁ n₁ h₁ ae₁ le₁ ce₁ d₁ k₁ s₁ hn₁ hd₁ ad₂ len₂ cap₂ n₂ h₂ ae₂ le₂ ce₂ d₂ k₂ s₂ hn₂ hd₂).mono (by
    rintro e w' ⟨hu, v, rfl, s, m, hv, hm, he⟩
    refine ⟨hu, _, rfl, s, m, _, hv, hm, dd_fits hd₁ hd₂, Nat.mul_pos hp₁ hp₂, ?_⟩
    show _ = mkRat (sgn s₁ n₁) d₁ + mkRat (sgn s₂ n₂) d₂
    rw [Rat.mkRat_add_mkRat _ _ (by omega) (by omega), he])
theorem product_op : OpC 90 (· * ·) := fun w X hX ad₁ len₁ cap₁ n₁ h₁ ae₁ le₁ ce₁ d₁ k₁ s₁ hn₁ hd₁ ad₂ len₂ cap₂ n₂ h₂ ae₂ le₂ ce₂ d₂ k₂ s₂ hn₂ hd₂ hp₁ hp₂ =>
  (product_c w X hX ad₁ len₁ cap₁ n₁ h₁ ae₁ le₁ ce₁ d₁ k₁ s₁ hn₁ hd₁ ad₂ len₂ cap₂ n₂ h₂ ae₂ le₂ ce₂ d₂ k₂ s₂ hn₂ hd₂).mono (by
    rintro e w' ⟨hu, v, rfl, s, m, hv, hm, he⟩
    refine ⟨hu, _, rfl, s, m, _, hv, hm, dd_fits hd₁ hd₂, Nat.mul_pos hp₁ hp₂, ?_⟩
    show _ = mkRat (sgn s₁ n₁) d₁ * mkRat (sgn s₂ n₂) d₂
    rw [Rat.mkRat_mul_mkRat, he])
theorem lowest_r (w : World) (X : Hid) (hX : ∀ k o, X k o → k < w.heap.size) (ad : Option Addr) (len cap x : Nat) (h : NatR (rd w X) ad len cap x) (ad2 : Option Addr) (len2 cap2 y : Nat) (h2 : NatR (rd w X) ad2 len2 cap2 y) (sg : Bool) (hx : x < 4294967296 ^ 512) (hy : y < 4294967296 ^ 512) (hd : 0 < y) (z : Rat) (hz : mkRat (sgn sg x) y = z) : Calls Tryz.prog 121 #[.agg #[.slice ad len cap, .slice ad2 len2 cap2, .bool sg]] w (Ret E0 w fun w' v => RatX (old w) w' v z) := by
  subst hz; exact lowest_c w X hX ad len cap x h ad2 len2 cap2 y h2 sg hx hy hd
theorem operate_c (f : Nat) (op : Rat → Rat → Rat) (hcf : ∀ args w, (callFunc f args).run Tryz.prog w = .ok (.enter f args) w) (hop : OpC f op) (w : World) (X : Hid) (hX : ∀ k o, X k o → k < w.heap.size) (a : Raw) (ad₁ : Option Addr) (len₁ cap₁ : Nat) (h₁ : Limbs (rd w X) ad₁ len₁ cap₁ a.ln) (ae₁ : Option Addr) (le₁ ce₁ : Nat) (k₁ : Limbs (rd w X) ae₁ le₁ ce₁ a.ld) (b : Raw) (ad₂ : Option Addr) (len₂ cap₂ : Nat) (h₂ : Limbs (rd w X) ad₂ len₂ cap₂ b.ln) (ae₂ : Option Addr) (le₂ ce₂ : Nat) (k₂ : Limbs (rd w X) ae₂ le₂ ce₂ b.ld) (z : Rat) (hz : op a.rat b.rat = z) : Calls Tryz.prog 88 #[.agg #[.bool a.neg, .slice ad₁ len₁ cap₁, .slice ae₁ le₁ ce₁], .agg #[.bool b.neg, .slice ad₂ len₂ cap₂, .slice ae₂ le₂ ce₂], .func (.func f) #[] #[]] w (Ret E0 w fun w' v => ∃ u, v = .tuple #[u, .int .i64 (opE a b z)] ∧ RawX (old w) w' u (opR a b z)) := by
 refine zen Tryz.func88 ?_
 have B0 : St E0 w X w X [] := St.start hX
 refine zz 2 ?_
 refine zn pn (.cells #[.bool a.neg, .slice ad₁ len₁ cap₁, .slice ae₁ le₁ ce₁] 28 (0, 0)) B0 ?_
 intro b3 w3 Y3 B3 j3 hu3
 refine zn pn (.cells #[.bool b.neg, .slice ad₂ len₂ cap₂, .slice ae₂ le₂ ce₂] 28 (0, 0)) B3 ?_
 intro b5 w5 Y5 B5 j5 hu5
 refine zn pn (.cells #[.bool false, .slice none 0 0, .slice none 0 0] 28 (0, 0)) B5 ?_
 intro b7 w7 Y7 B7 j7 hu7
 refine zz 5 ?_
 refine zdr B7 ?_
 refine gw 0 2 ?_
 refine gw 2 1 ?_
 have hc1_ := (Le2 j3 j5).trans j7
 refine gC 1 (fun w8 Y8 _ B8 j8 => (rcheck_c _ _ B8.lt a _ _ _ (h₁.mono (hc1_.trans j8)) _ _ _ (k₁.mono (hc1_.trans j8)))) ?_
 rintro v9 w8 Y9 w9 B8 j9 rfl
 have hc2_ := hc1_.trans j9
 refine gC 3 (fun w10 Y10 _ B10 j10 => (rcheck_c _ _ B10.lt b _ _ _ (h₂.mono (hc2_.trans j10)) _ _ _ (k₂.mono (hc2_.trans j10)))) ?_
 rintro v11 w10 Y11 w11 B10 j11 rfl
 refine gp1 (al 4 14 (fun b => .slice (some ⟨b, 0, none⟩) 2 2) (.cells #[.int .i64 a.chk, .int .i64 b.chk] 34 (0, 0))) (fun b12 => ?_)
 refine gC 5 (vs := #[.slice (some ⟨b12, 0, none⟩) 2 2]) (fun w13 Y13 _ B13 j13 => (or_c _ X0 (X0_lt _) _ _ _ _ [a.chk, b.chk] rfl (by simp) (B13.at0 0 rfl rfl))) ?_
 rintro v14 w13 Y14 w14 B13 j14 rfl
 refine gz [6] ?_
 refine gend (fun w15 Y15 B15 j15 => ?_)
 refine zz 7 ?_
 refine zb 17 (b := ((orL [a.chk, b.chk]) != 0)) (fun hc16 => ?_) (fun hc16 => ?_)
 ·
  have ht17 : (orL [a.chk, b.chk]) ≠ 0 := by simpa using hc16
  refine zz 5 ?_
  refine zx 1 #[.bool false, .slice none 0 0, .slice none 0 0] B15 ?_
  intro w18 B18 j18
  refine zz 5 ?_
  refine zrS [.cell 6 28, .tmp 7] (v := .tuple #[.agg #[.bool false, .slice none 0 0, .slice none 0 0], .int .i64 (orL [a.chk, b.chk])]) (Res.cM B18 1 (Res.tZ Res.nil)) ?_
  obtain ⟨he1, he2⟩ := op_err (z := z) ht17
  exact ⟨B18.upd, _, rfl, _, by rw [he1], by rw [he2]; exact raw_zero⟩
 have ht19 : (orL [a.chk, b.chk]) = 0 := by simpa using hc16
 obtain ⟨hca, hcb⟩ := or2_zero ((orL2 _ _).symm.trans (by simpa using ht19))
 obtain ⟨hla, hma, cna, cda, _, _, _⟩ := Raw.chk_ok hca
 have bna : val a.ln < K128 := (canon_le_iff h₁.hlt cna 128).1 hla
 have bda : a.d < K128 := by unfold Raw.d; split; exact Nat.one_lt_pow (by omega) (by omega); exact (canon_le_iff k₁.hlt cda 128).1 hma
 have pda := Raw.d_pos a
 have hNna := h₁.natR cna
 have hNda := k₁.natR cda
 obtain ⟨hlb, hmb, cnb, cdb, _, _, _⟩ := Raw.chk_ok hcb
 have bnb : val b.ln < K128 := (canon_le_iff h₂.hlt cnb 128).1 hlb
 have bdb : b.d < K128 := by unfold Raw.d; split; exact Nat.one_lt_pow (by omega) (by omega); exact (canon_le_iff k₂.hlt cdb 128).1 hmb
 have pdb := Raw.d_pos b
 have hNnb := h₂.natR cnb
 have hNdb := k₂.natR cdb
 refine zz 4 ?_
 refine zdraw [0, 1, 2, 3] B15 ?_
 refine gz [0] ?_
 refine gw 1 3 ?_
 refine gw 3 2 ?_
 refine gp (al 7 9 pn (.cells #[.bool false, .slice none 0 0, .slice none 0 0] 28 (0, 0))) ?_
 have hc3_ := ((hc2_.trans j11).trans j14).trans j15
 refine gC 2 (fun w20 Y20 _ B20 j20 => (of_c _ _ B20.lt a.neg _ _ _ (val a.ln) (hNna.mono (hc3_.trans j20)) _ _ _ (val a.ld) (hNda.mono (hc3_.trans j20)))) ?_ (hPd := PdOk.nil.k)
 rintro v21 w20 Y21 w21 B20 j21 ⟨ad21, len21, cap21, ae21, le21, ce21, rfl, hN21, hD21⟩
 have hc4_ := hc3_.trans j21
 refine gC 4 (fun w22 Y22 _ B22 j22 => (of_c _ _ B22.lt b.neg _ _ _ (val b.ln) (hNnb.mono (hc4_.trans j22)) _ _ _ (val b.ld) (hNdb.mono (hc4_.trans j22)))) ?_ (hPd := PdOk.nil.k)
 rintro v23 w22 Y23 w23 B22 j23 ⟨ad23, len23, cap23, ae23, le23, ce23, rfl, hN23, hD23⟩
 refine gC 5 (hcall := (fun w => hcf _ w)) (fun w24 Y24 _ B24 j24 => (hop _ _ B24.lt _ _ _ (val a.ln) (hN21.mono (Le2 j23 j24)) _ _ _ a.d (hD21.mono (Le2 j23 j24)) a.neg (by assumption) (by assumption) _ _ _ (val b.ln) (hN23.mono j24) _ _ _ b.d (hD23.mono j24) b.neg (by assumption) (by assumption) (by assumption) (by assumption))) ?_ (hPd := PdOk.nil.k)
 rintro v25 w24 Y25 w25 B24 j25 ⟨sg25, m25, d25, ⟨ad25, len25, cap25, ae25, le25, ce25, rfl, hN25, hD25⟩, hm25, hd25, hp25, he25⟩
 refine gC 6 (fun w26 Y26 _ B26 j26 => (lowest_r _ _ B26.lt _ _ _ m25 (hN25.mono j26) _ _ _ d25 (hD25.mono j26) sg25 hm25 hd25 hp25 z (he25.trans hz))) ?_ (hPd := PdOk.nil.k)
 rintro v27 w26 Y27 w27 B26 j27 ⟨ad27, len27, cap27, ae27, le27, ce27, rfl, hN27, hD27⟩
 refine gs1 (fun b28 => ?_) PdOk.nil.k
 refine gX 8 0 #[.bool (decide (z.num < 0)), .slice ad27 len27 cap27, .slice ae27 le27 ce27] ?_
 intro w29 Y29 j29
 refine gend (fun w30 Y30 B30 j30 => ?_)
 refine zz 5 ?_
 refine zo 0 B30 ?_
 refine zz 3 ?_
 refine zt 31 (p := (len27 : Int) > 128) (fun ht31 => ?_) (fun ht31 => ?_)
 ·
  refine zz 11 ?_
  refine zx 2 #[.bool false, .slice none 0 0, .slice none 0 0] B30 ?_
  intro w32 B32 j32
  refine zz 5 ?_
  refine zrS [.cell 6 28, .tmp 7] (v := .tuple #[.agg #[.bool false, .slice none 0 0, .slice none 0 0], .int .i64 4]) (Res.cM B32 2 (Res.tZ Res.nil)) ?_
  obtain ⟨he1, he2⟩ := op_long (z := z) ht19 (fun hh => absurd ((hN27.len_le 128).2 hh.1) (by omega))
  exact ⟨B32.upd, _, rfl, _, by rw [he1], by rw [he2]; exact raw_zero⟩
 refine zz 1 ?_
 refine zo 0 B30 ?_
 refine zz 5 ?_
 refine zt 36 (p := (le27 : Int) > 128) (fun ht33 => ?_) (fun ht33 => ?_)
 ·
  refine zz 4 ?_
  refine zx 2 #[.bool false, .slice none 0 0, .slice none 0 0] B30 ?_
  intro w34 B34 j34
  refine zz 5 ?_
  refine zrS [.cell 6 28, .tmp 7] (v := .tuple #[.agg #[.bool false, .slice none 0 0, .slice none 0 0], .int .i64 4]) (Res.cM B34 2 (Res.tZ Res.nil)) ?_
  obtain ⟨he1, he2⟩ := op_long (z := z) ht19 (fun hh => absurd ((hD27.len_le 128).2 hh.2) (by omega))
  exact ⟨B34.upd, _, rfl, _, by rw [he1], by rw [he2]; exact raw_zero⟩
 refine zz 5 ?_
 refine zo 0 B30 ?_
 refine zx 2 #[.bool (decide (z.num < 0)), .slice ad27 len27 cap27, .slice ae27 le27 ce27] B30 ?_
 intro w35 B35 j35
 refine zz 4 ?_
 refine zrS [.cell 6 28, .tmp 7] (v := .tuple #[.agg #[.bool (decide (z.num < 0)), .slice ad27 len27 cap27, .slice ae27 le27 ce27], .int .i64 0]) (Res.cM B35 2 (Res.tZ Res.nil)) ?_
 obtain ⟨he1, he2⟩ := op_good (z := z) ht19 ⟨(hN27.len_le 128).1 (by omega), (hD27.len_le 128).1 (by omega)⟩
 exact ⟨B35.upd, _, rfl, _, by rw [he1], by rw [he2]; exact RatX.raw ⟨_, _, _, _, _, _, rfl, ((hN27.mono (Le.own B26.lt B26.upd.size (Le3 j29 j30 j35))).mono Le.orr), ((hD27.mono (Le.own B26.lt B26.upd.size (Le3 j29 j30 j35))).mono Le.orr)⟩⟩
end Go.Proofs.YtppalofalmieaaaGreat
namespace Go.Proofs.YtppalofalmieaaaGreat
open Go Go.Gv Go.RowKit
set_option maxRecDepth 100000
set_option maxHeartbeats 1000000
theorem rAdd_c (w : World) (X : Hid) (hX : ∀ k o, X k o → k < w.heap.size) (a : Raw) (ad₁ : Option Addr) (len₁ cap₁ : Nat) (h₁ : Limbs (rd w X) ad₁ len₁ cap₁ a.ln) (ae₁ : Option Addr) (le₁ ce₁ : Nat) (k₁ : Limbs (rd w X) ae₁ le₁ ce₁ a.ld) (b : Raw) (ad₂ : Option Addr) (len₂ cap₂ : Nat) (h₂ : Limbs (rd w X) ad₂ len₂ cap₂ b.ln) (ae₂ : Option Addr) (le₂ ce₂ : Nat) (k₂ : Limbs (rd w X) ae₂ le₂ ce₂ b.ld) : Calls Tryz.prog 35 #[.agg #[.bool a.neg, .slice ad₁ len₁ cap₁, .slice ae₁ le₁ ce₁], .agg #[.bool b.neg, .slice ad₂ len₂ cap₂, .slice ae₂ le₂ ce₂]] w (Ret E0 w fun w' v => ∃ u, v = .tuple #[u, .int .i64 (opE a b (a.rat + b.rat))] ∧ RawX (old w) w' u (opR a b (a.rat + b.rat))) := by
 refine zen Tryz.func35 ?_
 have B0 : St E0 w X w X [] := St.start hX
 refine zz 2 ?_
 refine zn pn (.cells #[.bool a.neg, .slice ad₁ len₁ cap₁, .slice ae₁ le₁ ce₁] 28 (0, 0)) B0 ?_
 intro b3 w3 Y3 B3 j3 hu3
 refine zn pn (.cells #[.bool b.neg, .slice ad₂ len₂ cap₂, .slice ae₂ le₂ ce₂] 28 (0, 0)) B3 ?_
 intro b5 w5 Y5 B5 j5 hu5
 refine zn pn (.cells #[.bool false, .slice none 0 0, .slice none 0 0] 28 (0, 0)) B5 ?_
 intro b7 w7 Y7 B7 j7 hu7
 refine zz 5 ?_
 refine zo 2 B7 ?_
 refine zo 1 B7 ?_
 refine zc B7 (operate_c 89 (· + ·) (fun args w => Tryz.call89 args w) sum_op _ _ B7.lt a _ _ _ (h₁.mono (Le3 j3 j5 j7)) _ _ _ (k₁.mono (Le3 j3 j5 j7)) b _ _ _ (h₂.mono (Le3 j3 j5 j7)) _ _ _ (k₂.mono (Le3 j3 j5 j7)) (a.rat + b.rat) rfl) ?_
 rintro v9 w9 B9 j9 hu9 ⟨u9, rfl, ⟨ad9, len9, cap9, ae9, le9, ce9, rfl, hN9, hD9⟩⟩
 refine zz 2 ?_
 refine zx 0 #[.bool ((opR a b (a.rat + b.rat)).neg), .slice ad9 len9 cap9, .slice ae9 le9 ce9] B9 ?_
 intro w10 B10 j10
 refine zz 4 ?_
 refine zrS [.cell 4 28, .tmp 5] (v := .tuple #[.agg #[.bool ((opR a b (a.rat + b.rat)).neg), .slice ad9 len9 cap9, .slice ae9 le9 ce9], .int .i64 (opE a b (a.rat + b.rat))]) (Res.cM B10 0 (Res.tZ Res.nil)) ?_
 exact ⟨B10.upd, _, rfl, _, rfl, ⟨_, _, _, _, _, _, rfl, ((hN9.mono (Le.own B7.lt B7.upd.size j10)).mono Le.orr), ((hD9.mono (Le.own B7.lt B7.upd.size j10)).mono Le.orr)⟩⟩
theorem rMul_c (w : World) (X : Hid) (hX : ∀ k o, X k o → k < w.heap.size) (a : Raw) (ad₁ : Option Addr) (len₁ cap₁ : Nat) (h₁ : Limbs (rd w X) ad₁ len₁ cap₁ a.ln) (ae₁ : Option Addr) (le₁ ce₁ : Nat) (k₁ : Limbs (rd w X) ae₁ le₁ ce₁ a.ld) (b : Raw) (ad₂ : Option Addr) (len₂ cap₂ : Nat) (h₂ : Limbs (rd w X) ad₂ len₂ cap₂ b.ln) (ae₂ : Option Addr) (le₂ ce₂ : Nat) (k₂ : Limbs (rd w X) ae₂ le₂ ce₂ b.ld) : Calls Tryz.prog 36 #[.agg #[.bool a.neg, .slice ad₁ len₁ cap₁, .slice ae₁ le₁ ce₁], .agg #[.bool b.neg, .slice ad₂ len₂ cap₂, .slice ae₂ le₂ ce₂]] w (Ret E0 w fun w' v => ∃ u, v = .tuple #[u, .int .i64 (opE a b (a.rat * b.rat))] ∧ RawX (old w) w' u (opR a b (a.rat * b.rat))) := by
 refine zen Tryz.func36 ?_
 have B0 : St E0 w X w X [] := St.start hX
 refine zz 2 ?_
 refine zn pn (.cells #[.bool a.neg, .slice ad₁ len₁ cap₁, .slice ae₁ le₁ ce₁] 28 (0, 0)) B0 ?_
 intro b3 w3 Y3 B3 j3 hu3
 refine zn pn (.cells #[.bool b.neg, .slice ad₂ len₂ cap₂, .slice ae₂ le₂ ce₂] 28 (0, 0)) B3 ?_
 intro b5 w5 Y5 B5 j5 hu5
 refine zn pn (.cells #[.bool false, .slice none 0 0, .slice none 0 0] 28 (0, 0)) B5 ?_
 intro b7 w7 Y7 B7 j7 hu7
 refine zz 5 ?_
 refine zo 2 B7 ?_
 refine zo 1 B7 ?_
 refine zc B7 (operate_c 90 (· * ·) (fun args w => Tryz.call90 args w) product_op _ _ B7.lt a _ _ _ (h₁.mono (Le3 j3 j5 j7)) _ _ _ (k₁.mono (Le3 j3 j5 j7)) b _ _ _ (h₂.mono (Le3 j3 j5 j7)) _ _ _ (k₂.mono (Le3 j3 j5 j7)) (a.rat * b.rat) rfl) ?_
 rintro v9 w9 B9 j9 hu9 ⟨u9, rfl, ⟨ad9, len9, cap9, ae9, le9, ce9, rfl, hN9, hD9⟩⟩
 refine zz 2 ?_
 refine zx 0 #[.bool ((opR a b (a.rat * b.rat)).neg), .slice ad9 len9 cap9, .slice ae9 le9 ce9] B9 ?_
 intro w10 B10 j10
 refine zz 4 ?_
 refine zrS [.cell 4 28, .tmp 5] (v := .tuple #[.agg #[.bool ((opR a b (a.rat * b.rat)).neg), .slice ad9 len9 cap9, .slice ae9 le9 ce9], .int .i64 (opE a b (a.rat * b.rat))]) (Res.cM B10 0 (Res.tZ Res.nil)) ?_
 exact ⟨B10.upd, _, rfl, _, rfl, ⟨_, _, _, _, _, _, rfl, ((hN9.mono (Le.own B7.lt B7.upd.size j10)).mono Le.orr), ((hD9.mono (Le.own B7.lt B7.upd.size j10)).mono Le.orr)⟩⟩
theorem rFrom_c (w : World) (X : Hid) (hX : ∀ k o, X k o → k < w.heap.size) (n : Int) (h1 : -9223372036854775808 ≤ n) (h2 : n ≤ 9223372036854775807) : Calls Tryz.prog 37 #[.int .i64 n] w (Ret E0 w fun w' v => RawX X w' v (.of (n : Rat))) := by
 refine zen Tryz.func37 ?_
 have B0 : St E0 w X w X [] := St.start hX
 refine zz 2 ?_
 refine zn pn (.cells #[.bool false, .slice none 0 0, .slice none 0 0] 28 (0, 0)) B0 ?_
 intro b3 w3 Y3 B3 j3 hu3
 refine zz 7 ?_
 refine zc B3 (natural_c _ _ B3.lt n (by omega) (by omega)) ?_
 rintro v5 w5 B5 j5 hu5 ⟨ad5, len5, cap5, rfl, hN5⟩
 refine zz 1 ?_
 refine zx 0 #[.bool (decide ((n) < 0)), .slice ad5 len5 cap5, .slice none 0 0] B5 ?_
 intro w6 B6 j6
 refine zz 3 ?_
 refine zrS [.cell 2 28] (v := .agg #[.bool (decide ((n) < 0)), .slice ad5 len5 cap5, .slice none 0 0]) (Res.cM B6 0 Res.nil) ?_
 exact ⟨B6.upd, _, rfl, (int_rat ((hN5.mono j6).mono B6.le)).raw⟩
theorem rCmp_c (w : World) (X : Hid) (hX : ∀ k o, X k o → k < w.heap.size) (a : Raw) (ad₁ : Option Addr) (len₁ cap₁ : Nat) (h₁ : Limbs (rd w X) ad₁ len₁ cap₁ a.ln) (ae₁ : Option Addr) (le₁ ce₁ : Nat) (k₁ : Limbs (rd w X) ae₁ le₁ ce₁ a.ld) (b : Raw) (ad₂ : Option Addr) (len₂ cap₂ : Nat) (h₂ : Limbs (rd w X) ad₂ len₂ cap₂ b.ln) (ae₂ : Option Addr) (le₂ ce₂ : Nat) (k₂ : Limbs (rd w X) ae₂ le₂ ce₂ b.ld) : Calls Tryz.prog 110 #[.agg #[.bool a.neg, .slice ad₁ len₁ cap₁, .slice ae₁ le₁ ce₁], .agg #[.bool b.neg, .slice ad₂ len₂ cap₂, .slice ae₂ le₂ ce₂]] w (Ret E0 w fun w' v => v = .tuple #[.int .i64 (cmpR a b), .int .i64 (cmpE a b)]) := by
 refine zen Tryz.func110 ?_
 have B0 : St E0 w X w X [] := St.start hX
 refine zz 2 ?_
 refine zn pn (.cells #[.bool a.neg, .slice ad₁ len₁ cap₁, .slice ae₁ le₁ ce₁] 28 (0, 0)) B0 ?_
 intro b3 w3 Y3 B3 j3 hu3
 refine zn pn (.cells #[.bool b.neg, .slice ad₂ len₂ cap₂, .slice ae₂ le₂ ce₂] 28 (0, 0)) B3 ?_
 intro b5 w5 Y5 B5 j5 hu5
 refine zz 6 ?_
 refine zdr B5 ?_
 refine gw 0 1 ?_
 refine gw 2 0 ?_
 refine gC 1 (fun w6 Y6 _ B6 j6 => (rcheck_c _ _ B6.lt a _ _ _ (h₁.mono (Le3 j3 j5 j6)) _ _ _ (k₁.mono (Le3 j3 j5 j6)))) ?_
 rintro v7 w6 Y7 w7 B6 j7 rfl
 have hc1_ := (Le2 j3 j5).trans j7
 refine gC 3 (fun w8 Y8 _ B8 j8 => (rcheck_c _ _ B8.lt b _ _ _ (h₂.mono (hc1_.trans j8)) _ _ _ (k₂.mono (hc1_.trans j8)))) ?_
 rintro v9 w8 Y9 w9 B8 j9 rfl
 refine gp1 (al 4 14 (fun b => .slice (some ⟨b, 0, none⟩) 2 2) (.cells #[.int .i64 a.chk, .int .i64 b.chk] 34 (0, 0))) (fun b10 => ?_)
 refine gC 5 (vs := #[.slice (some ⟨b10, 0, none⟩) 2 2]) (fun w11 Y11 _ B11 j11 => (or_c _ X0 (X0_lt _) _ _ _ _ [a.chk, b.chk] rfl (by simp) (B11.at0 0 rfl rfl))) ?_
 rintro v12 w11 Y12 w12 B11 j12 rfl
 refine gz [6] ?_
 refine gend (fun w13 Y13 B13 j13 => ?_)
 refine zz 7 ?_
 refine zb 17 (b := ((orL [a.chk, b.chk]) != 0)) (fun hc14 => ?_) (fun hc14 => ?_)
 ·
  have ht15 : (orL [a.chk, b.chk]) ≠ 0 := by simpa using hc14
  refine zz 10 ?_
  refine zr' (v := .tuple #[.int .i64 0, .int .i64 (orL [a.chk, b.chk])]) ?_
  exact ⟨B13.upd, _, rfl, by rw [cmpR, cmpE, ← orL2, if_neg ht15]⟩
 have ht16 : (orL [a.chk, b.chk]) = 0 := by simpa using hc14
 obtain ⟨hca, hcb⟩ := or2_zero ((orL2 _ _).symm.trans (by simpa using ht16))
 obtain ⟨hla, hma, cna, cda, _, _, _⟩ := Raw.chk_ok hca
 have bna : val a.ln < K128 := (canon_le_iff h₁.hlt cna 128).1 hla
 have bda : a.d < K128 := by unfold Raw.d; split; exact Nat.one_lt_pow (by omega) (by omega); exact (canon_le_iff k₁.hlt cda 128).1 hma
 have pda := Raw.d_pos a
 have hNna := h₁.natR cna
 have hNda := k₁.natR cda
 obtain ⟨hlb, hmb, cnb, cdb, _, _, _⟩ := Raw.chk_ok hcb
 have bnb : val b.ln < K128 := (canon_le_iff h₂.hlt cnb 128).1 hlb
 have bdb : b.d < K128 := by unfold Raw.d; split; exact Nat.one_lt_pow (by omega) (by omega); exact (canon_le_iff k₂.hlt cdb 128).1 hmb
 have pdb := Raw.d_pos b
 have hNnb := h₂.natR cnb
 have hNdb := k₂.natR cdb
 refine zz 4 ?_
 refine zdrs [0, 1, 2] B13 ?_
 refine gw 0 2 ?_
 refine gw 2 1 ?_
 refine gp (al 5 8 pn (.cells #[.slice none 0 0, .slice none 0 0, .bool false] 160 (0, 0))) ?_
 refine gp (al 4 7 pn (.cells #[.slice none 0 0, .slice none 0 0, .bool false] 160 (0, 0))) ?_
 have hc2_ := ((hc1_.trans j9).trans j12).trans j13
 refine gC 1 (fun w17 Y17 _ B17 j17 => (of_c _ _ B17.lt a.neg _ _ _ (val a.ln) (hNna.mono (hc2_.trans j17)) _ _ _ (val a.ld) (hNda.mono (hc2_.trans j17)))) ?_ (hPd := PdOk.nil.k.k)
 rintro v18 w17 Y18 w18 B17 j18 ⟨ad18, len18, cap18, ae18, le18, ce18, rfl, hN18, hD18⟩
 have hc3_ := hc2_.trans j18
 refine gC 3 (fun w19 Y19 _ B19 j19 => (of_c _ _ B19.lt b.neg _ _ _ (val b.ln) (hNnb.mono (hc3_.trans j19)) _ _ _ (val b.ld) (hNdb.mono (hc3_.trans j19)))) ?_ (hPd := PdOk.nil.k.k)
 rintro v20 w19 Y20 w20 B19 j20 ⟨ad20, len20, cap20, ae20, le20, ce20, rfl, hN20, hD20⟩
 refine ge (fun e21 => ?_) PdOk.nil.k.k
 refine gXs 6 0 [2, 3, 4] #[.slice ad18 len18 cap18, .slice ae18 le18 ce18, .bool a.neg] ?_
 intro w22 Y22 j22
 refine gXs 7 1 [2, 3, 4] #[.slice ad20 len20 cap20, .slice ae20 le20 ce20, .bool b.neg] ?_
 intro w23 Y23 j23
 refine gend (fun w24 Y24 B24 j24 => ?_)
 refine zz 4 ?_
 refine zo 1 B24 ?_
 refine zz 2 ?_
 refine zx 1 #[.slice ad20 len20 cap20, .slice ae20 le20 ce20, .bool (!b.neg)] B24 ?_
 intro w25 B25 j25
 refine zz 5 ?_
 refine zo 0 B25 ?_
 refine zo 1 B25 ?_
 have hc4_ := (Le4 j20 j22 j23 j24).trans j25
 have hc5_ := (Le3 j22 j23 j24).trans j25
 refine zc B25 (sum_c _ _ B25.lt _ _ _ (val a.ln) (hN18.mono hc4_) _ _ _ a.d (hD18.mono hc4_) a.neg (by assumption) (by assumption) _ _ _ (val b.ln) (hN20.mono hc5_) _ _ _ b.d (hD20.mono hc5_) (!b.neg) (by assumption) (by assumption)) ?_
 rintro v27 w27 B27 j27 hu27 ⟨sg27, m27, ⟨ad27, len27, cap27, ae27, le27, ce27, rfl, hN27, hD27⟩, hm27, he27⟩
 have hc6_ := hc4_.trans j27
 have hc7_ := hc5_.trans j27
 refine zn pn (.cells #[.slice none 0 0, .slice none 0 0, .bool false] 160 (0, 0)) B27 ?_
 intro b29 w29 Y29 B29 j29 hu29
 refine zx 0 #[.slice ad27 len27 cap27, .slice ae27 le27 ce27, .bool sg27] B29 ?_
 intro w30 B30 j30
 refine zz 7 ?_
 refine zo 0 B30 ?_
 refine zz 5 ?_
 refine zb 30 (b := ((len27 : Int) == 0)) (fun hc31 => ?_) (fun hc31 => ?_)
 ·
  have ht32 : (len27 : Int) = 0 := by simpa using hc31
  have hdf : _ = a.rat - b.rat := diff_mk (he27.trans (by rw [sgn_not])) pda pdb
  have hm0 := hN27.len0.1 (by omega)
  refine zz 10 ?_
  refine zr' (v := .tuple #[.int .i64 0, .int .i64 0]) ?_
  exact ⟨B30.upd, _, rfl, by have h0 := ht16; rw [cmpR, cmpE, ← orL2, if_pos (by simpa using h0), show orL [a.chk, b.chk] = 0 by simpa using h0, cmp_zero hdf hm0]⟩
 have ht33 : (len27 : Int) ≠ 0 := by simpa using hc31
 have hdf : _ = a.rat - b.rat := diff_mk (he27.trans (by rw [sgn_not])) pda pdb
 have hm0 : m27 ≠ 0 := fun e => absurd (hN27.len0.2 e) (by omega)
 refine zz 4 ?_
 refine zo 0 B30 ?_
 refine zz 3 ?_
 refine zb 36 (b := sg27) (fun hc34 => ?_) (fun hc34 => ?_)
 ·
  have ht35 : sg27 = true := by simpa using hc34
  rw [ht35] at hdf
  refine zz 10 ?_
  refine zr' (v := .tuple #[.int .i64 (-1), .int .i64 0]) ?_
  exact ⟨B30.upd, _, rfl, by have h0 := ht16; rw [cmpR, cmpE, ← orL2, if_pos (by simpa using h0), show orL [a.chk, b.chk] = 0 by simpa using h0, cmp_neg hdf hm0 (den_ne pda pdb)]⟩
 have ht36 : sg27 = false := by simpa using hc34
 rw [ht36] at hdf
 refine zz 11 ?_
 refine zr' (v := .tuple #[.int .i64 1, .int .i64 0]) ?_
 exact ⟨B30.upd, _, rfl, by have h0 := ht16; rw [cmpR, cmpE, ← orL2, if_pos (by simpa using h0), show orL [a.chk, b.chk] = 0 by simpa using h0, cmp_pos hdf hm0 (den_ne pda pdb)]⟩
end Go.Proofs.YtppalofalmieaaaGreat
namespace Go.Proofs.YtppalofalmieaaaGreat
open Go Go.Gv Go.RowKit
set_option maxRecDepth 100000
set_option maxHeartbeats 1000000
theorem rOf_c (w : World) (X : Hid) (hX : ∀ k o, X k o → k < w.heap.size) (p q : Int) (hp : -9223372036854775808 ≤ p) (hp2 : p ≤ 9223372036854775807) (hq : -9223372036854775808 ≤ q) (hq2 : q ≤ 9223372036854775807) (h0 : q ≠ 0) : Calls Tryz.prog 95 #[.int .i64 p, .int .i64 q] w (Ret E0 w fun w' v => ∃ u, v = .tuple #[u, .int .i64 0] ∧ RawX X w' u (.of (mkRat (sgn (!(decide (p < 0) == decide (q < 0))) p.natAbs) q.natAbs))) := by
 have hB : (18446744073709551616 : Nat) ≤ 4294967296 ^ 512 := Nat.le_trans (by decide : 18446744073709551616 ≤ 4294967296 ^ 2) (pow_fit 4294967296 2 512 (by decide) (by decide))
 refine zen Tryz.func95 ?_
 have B0 : St E0 w X w X [] := St.start hX
 refine zz 2 ?_
 refine zn pn (.cells #[.bool false, .slice none 0 0, .slice none 0 0] 28 (0, 0)) B0 ?_
 intro b3 w3 Y3 B3 j3 hu3
 refine zz 10 ?_
 refine zb 7 (b := ((q) == 0)) (fun hc4 => ?_) (fun hc4 => ?_)
 ·
  have ht5 : (q) = 0 := by simpa using hc4
  exfalso; omega
 have ht6 : (q) ≠ 0 := by simpa using hc4
 refine zz 6 ?_
 refine zc B3 (natural_c _ _ B3.lt p (by omega) (by omega)) ?_
 rintro v8 w8 B8 j8 hu8 ⟨ad8, len8, cap8, rfl, hN8⟩
 refine zz 1 ?_
 refine zc B8 (natural_c _ _ B8.lt q (by omega) (by omega)) ?_
 rintro v10 w10 B10 j10 hu10 ⟨ad10, len10, cap10, rfl, hN10⟩
 refine zz 7 ?_
 refine zc B10 (lowest_r _ _ B10.lt _ _ _ p.natAbs (hN8.mono j10) _ _ _ q.natAbs hN10 (!((decide ((p) < 0)) == (decide ((q) < 0)))) (by omega) (by omega) (by omega) (mkRat (sgn (!(decide (p < 0) == decide (q < 0))) p.natAbs) q.natAbs) rfl) ?_
 rintro v12 w12 B12 j12 hu12 ⟨ad12, len12, cap12, ae12, le12, ce12, rfl, hN12, hD12⟩
 refine zx 0 #[.bool (decide ((mkRat (sgn (!(decide (p < 0) == decide (q < 0))) p.natAbs) q.natAbs).num < 0)), .slice ad12 len12 cap12, .slice ae12 le12 ce12] B12 ?_
 intro w13 B13 j13
 refine zz 4 ?_
 refine zrS [.cell 4 28, .tmp 5] (v := .tuple #[.agg #[.bool (decide ((mkRat (sgn (!(decide (p < 0) == decide (q < 0))) p.natAbs) q.natAbs).num < 0)), .slice ad12 len12 cap12, .slice ae12 le12 ce12], .int .i64 0]) (Res.cM B13 0 (Res.tZ Res.nil)) ?_
 exact ⟨B13.upd, _, rfl, _, rfl, RatX.raw ⟨_, _, _, _, _, _, rfl, ((hN12.mono (Le.new B10.lt)).mono j13).mono B13.le, ((hD12.mono (Le.new B10.lt)).mono j13).mono B13.le⟩⟩
end Go.Proofs.YtppalofalmieaaaGreat
namespace Go.Proofs.YtppalofalmieaaaGreat
open Go Go.Gv Go.RowKit
set_option maxRecDepth 100000
set_option maxHeartbeats 1000000
theorem take_snoc {α : Type} {l : List α} {k : Nat} {x : α} (h : l[k]? = some x) : l.take (k + 1) = l.take k ++ [x] := by rw [List.take_add_one, h]; rfl
theorem take_eq {α : Type} {l l2 : List α} {k : Nat} {x : α} (h : l.take k = l2.take k) (hx : l[k]? = some x) (hy : l2[k]? = some x) : l.take (k + 1) = l2.take (k + 1) := by rw [take_snoc hx, take_snoc hy, h]
theorem take_all {α : Type} {l l2 : List α} {k : Nat} (h : l.take k = l2.take k) (hl : l.length = l2.length) (hk : l.length ≤ k) : l = l2 := by
  rwa [List.take_of_length_le hk, List.take_of_length_le (by omega)] at h
theorem ne_at {α : Type} {l l2 : List α} {k : Nat} {x y : α} (hx : l[k]? = some x) (hy : l2[k]? = some y) (h : x ≠ y) : l ≠ l2 := by
  rintro rfl; exact h (Option.some.inj (hx.symm.trans hy))
theorem getD_some {l : List Nat} {k : Nat} (h : k < l.length) : l[k]? = some (l.getD k 0) := by
  rw [List.getD_eq_getElem?_getD, List.getElem?_eq_getElem h]; rfl
theorem vboolE {x y : Bool} (h : x = y) : Value.bool x = .bool y := h ▸ rfl
theorem EqualLimbs_c (w : World) (X : Hid) (hX : ∀ k o, X k o → k < w.heap.size) (ad : Option Addr) (len cap : Nat) (l : List Nat) (h : Limbs (rd w X) ad len cap l) (ad2 : Option Addr) (len2 cap2 : Nat) (l2 : List Nat) (h2 : Limbs (rd w X) ad2 len2 cap2 l2) : Calls Tryz.prog 101 #[.slice ad len cap, .slice ad2 len2 cap2] w (Ret E0 w fun _ v => v = .bool (decide (l = l2))) := by
 obtain rfl := h.hlen
 obtain rfl := h2.hlen
 have hcap := h.hcap
 have hbig := h.hbig
 have hcap2 := h2.hcap
 have hbig2 := h2.hbig
 refine zen Tryz.func101 ?_
 have B0 : St E0 w X w X [] := St.start hX
 refine zz 15 ?_
 refine zb 10 (b := ((l.length : Int) != (l2.length : Int))) (fun hc2 => ?_) (fun hc2 => ?_)
 ·
  have ht3 : (l.length : Int) ≠ (l2.length : Int) := by simpa using hc2
  refine zz 8 ?_
  refine zr' (v := .bool false) ?_
  exact ⟨B0.upd, _, rfl, vboolE ((decide_eq_false (fun e => by rw [e] at ht3; exact ht3 rfl)).symm)⟩
 have ht4 : (l.length : Int) = (l2.length : Int) := by simpa using hc2
 have hlen : l.length = l2.length := by omega
 refine zz 10 ?_
 refine zlp Tryz.f101 [] [1, 1, 0, 1, 0] (fun (k : Nat) => [(0, .slice ad l.length cap), (1, .slice ad2 l2.length cap2), (5, .int .i64 (k : Int))]) (fun (k : Nat) w1 => ∃ (Y1 : Hid), St E0 w X w1 Y1 [] ∧ Le (rd w X) (rd w1 Y1) ∧ (l.take k = l2.take k) ∧ (k ≤ l.length)) (fun (k : Nat) => l.length - k) 0 ?_ ?_
 ·
  refine ⟨_, B0, Le.refl _, rfl, Nat.zero_le _⟩
 rintro k w5 K5 G5 ⟨Y5, B5, j5, hp5_0, hp5_1⟩
 refine zz 9 ?_
 refine zt 14 (p := (k : Int) < (l.length : Int)) (fun ht6 => ?_) (fun ht6 => ?_)
 ·
  obtain ⟨b1, off1, rfl, _⟩ := h.addr (by omega)
  have hx1 := getD_some (l := l) (k := k) (by omega)
  obtain ⟨b2, off2, rfl, _⟩ := h2.addr (by omega)
  have hx2 := getD_some (l := l2) (k := k) (by omega)
  refine zz 6 ?_
  refine zdr B5 ?_
  refine gz [0, 1] ?_
  refine gi 2 (b := b1) (off := off1) (len := l.length) (cap := cap) (kd := .i64) (i := (k : Int)) 1 (off1 + k) ?_
  refine gl 3 ((h.cell (i := k) (by omega)).mono j5) ?_
  refine gz [4, 5] ?_
  refine gi 6 (b := b2) (off := off2) (len := l2.length) (cap := cap2) (kd := .i64) (i := (k : Int)) 1 (off2 + k) ?_
  refine gl 7 ((h2.cell (i := k) (by omega)).mono j5) ?_
  refine gz [8] ?_
  refine gend (fun w7 Y7 B7 j7 => ?_)
  refine zz 1 ?_
  refine zb 25 (b := (((l.getD k 0 : Nat) : Int) != ((l2.getD k 0 : Nat) : Int))) (fun hc8 => ?_) (fun hc8 => ?_)
  ·
   have ht9 : ((l.getD k 0 : Nat) : Int) ≠ ((l2.getD k 0 : Nat) : Int) := by simpa using hc8
   refine zz 12 ?_
   refine zr' (v := .bool false) ?_
   exact ⟨B7.upd, _, rfl, vboolE ((decide_eq_false (ne_at hx1 hx2 (fun e => ht9 (by rw [e])))).symm)⟩
  have ht10 : ((l.getD k 0 : Nat) : Int) = ((l2.getD k 0 : Nat) : Int) := by simpa using hc8
  refine zz 7 ?_
  refine zw 16 (x := (k : Int) + 1) ?_
  refine zz 2 ?_
  refine znext (fun a h => G5 (k + 1) _ a h ⟨_, B7, (Le2 j5 j7), take_eq hp5_0 hx1 (by rw [show l.getD k 0 = l2.getD k 0 by omega]; exact hx2), by omega⟩ ?_)
  first | omega | (simp <;> omega)
 refine zz 12 ?_
 refine zr' (v := .bool true) ?_
 exact ⟨B5.upd, _, rfl, vboolE ((decide_eq_true (take_all hp5_0 hlen (by omega))).symm)⟩
theorem EqualNat_c (w : World) (X : Hid) (hX : ∀ k o, X k o → k < w.heap.size) (ad : Option Addr) (len cap : Nat) (l : List Nat) (h : Limbs (rd w X) ad len cap l) (ad2 : Option Addr) (len2 cap2 : Nat) (l2 : List Nat) (h2 : Limbs (rd w X) ad2 len2 cap2 l2) : Calls Tryz.prog 57 #[.slice ad len cap, .slice ad2 len2 cap2] w (Ret E0 w fun _ v => v = .bool (decide (l = l2))) := by
 obtain rfl := h.hlen
 obtain rfl := h2.hlen
 have hcap := h.hcap
 have hbig := h.hbig
 have hcap2 := h2.hcap
 have hbig2 := h2.hbig
 refine zen Tryz.func57 ?_
 have B0 : St E0 w X w X [] := St.start hX
 refine zz 9 ?_
 refine zc B0 (EqualLimbs_c _ _ B0.lt _ _ _ _ h _ _ _ _ h2) ?_
 rintro v3 w3 B3 j3 hu3 rfl
 refine zz 4 ?_
 refine zr' (v := .bool (decide (l = l2))) ?_
 exact ⟨B3.upd, _, rfl, rfl⟩
theorem raw_ext {a b : Raw} : a = b ↔ a.neg = b.neg ∧ a.ln = b.ln ∧ a.ld = b.ld := by cases a; cases b; simp
theorem EqualRat_c (w : World) (X : Hid) (hX : ∀ k o, X k o → k < w.heap.size) (a : Raw) (ad₁ : Option Addr) (len₁ cap₁ : Nat) (h₁ : Limbs (rd w X) ad₁ len₁ cap₁ a.ln) (ae₁ : Option Addr) (le₁ ce₁ : Nat) (k₁ : Limbs (rd w X) ae₁ le₁ ce₁ a.ld) (b : Raw) (ad₂ : Option Addr) (len₂ cap₂ : Nat) (h₂ : Limbs (rd w X) ad₂ len₂ cap₂ b.ln) (ae₂ : Option Addr) (le₂ ce₂ : Nat) (k₂ : Limbs (rd w X) ae₂ le₂ ce₂ b.ld) : Calls Tryz.prog 14 #[.agg #[.bool a.neg, .slice ad₁ len₁ cap₁, .slice ae₁ le₁ ce₁], .agg #[.bool b.neg, .slice ad₂ len₂ cap₂, .slice ae₂ le₂ ce₂]] w (Ret E0 w fun _ v => v = .bool (decide (a = b))) := by
 refine zen Tryz.func14 ?_
 have B0 : St E0 w X w X [] := St.start hX
 refine zz 2 ?_
 refine zn pn (.cells #[.bool a.neg, .slice ad₁ len₁ cap₁, .slice ae₁ le₁ ce₁] 28 (0, 0)) B0 ?_
 intro b3 w3 Y3 B3 j3 hu3
 refine zn pn (.cells #[.bool b.neg, .slice ad₂ len₂ cap₂, .slice ae₂ le₂ ce₂] 28 (0, 0)) B3 ?_
 intro b5 w5 Y5 B5 j5 hu5
 refine zz 6 ?_
 refine zo 1 B5 ?_
 refine zz 1 ?_
 refine zo 0 B5 ?_
 refine zz 2 ?_
 refine zb 10 (b := (a.neg == b.neg)) (fun hc6 => ?_) (fun hc6 => ?_)
 ·
  have ht7 : a.neg = b.neg := by simpa using hc6
  refine zz 1 ?_
  refine zo 1 B5 ?_
  refine zz 1 ?_
  refine zo 0 B5 ?_
  refine zc B5 (EqualNat_c _ _ B5.lt _ _ _ _ (h₁.mono (Le2 j3 j5)) _ _ _ _ (h₂.mono (Le2 j3 j5))) ?_
  rintro v9 w9 B9 j9 hu9 rfl
  refine zz 2 ?_
  refine zb 17 (b := (decide (a.ln = b.ln))) (fun hc10 => ?_) (fun hc10 => ?_)
  ·
   have ht11 : a.ln = b.ln := of_decide_eq_true hc10
   refine zz 1 ?_
   refine zo 1 B9 ?_
   refine zz 1 ?_
   refine zo 0 B9 ?_
   refine zc B9 (EqualNat_c _ _ B9.lt _ _ _ _ (k₁.mono (Le3 j3 j5 j9)) _ _ _ _ (k₂.mono (Le3 j3 j5 j9))) ?_
   rintro v13 w13 B13 j13 hu13 rfl
   refine zz 5 ?_
   refine zr' (v := .bool (decide (a.ld = b.ld))) ?_
   refine ⟨B13.upd, _, rfl, vboolE ?_⟩
   refine Bool.eq_iff_iff.2 ?_; rw [show (decide (a = b) = true) ↔ _ from decide_eq_true_iff.trans raw_ext]; simp_all
  have ht14 : ¬ (a.ln = b.ln) := of_decide_eq_false hc10
  refine zz 10 ?_
  refine zr' (v := .bool false) ?_
  refine ⟨B9.upd, _, rfl, vboolE ?_⟩
  refine Bool.eq_iff_iff.2 ?_; rw [show (decide (a = b) = true) ↔ _ from decide_eq_true_iff.trans raw_ext]; simp_all
 have ht15 : a.neg ≠ b.neg := by simpa using hc6
 refine zz 17 ?_
 refine zr' (v := .bool false) ?_
 refine ⟨B5.upd, _, rfl, vboolE ?_⟩
 refine Bool.eq_iff_iff.2 ?_; rw [show (decide (a = b) = true) ↔ _ from decide_eq_true_iff.trans raw_ext]; simp_all
end Go.Proofs.YtppalofalmieaaaGreat
namespace Go.Proofs.YtppalofalmieaaaGreat
open Go Go.Gv Go.RowKit
set_option maxRecDepth 100000
set_option maxHeartbeats 1000000
theorem cut5_c (w : World) (X : Hid) (hX : ∀ k o, X k o → k < w.heap.size) (ad : Option Addr) (len cap : Nat) (l : List Nat) (h : Limbs (rd w X) ad len cap l) :
    Calls Tryz.prog 149 #[.slice ad len cap] w (Ret E0 w fun _ v => v = .slice ad (trimN l) cap) := by
 obtain rfl := h.hlen
 have hl := h.hlen
 have hcap := h.hcap
 have hbig := h.hbig
 refine zen Tryz.func149 ?_
 have B0 : St E0 w X w X [] := St.start hX
 refine zz 7 ?_
 refine zlp Tryz.f149 [] [1, 0, 0] (fun (k : Nat) => [(0, .slice ad k cap)]) (fun (k : Nat) w1 => ∃ (Y1 : Hid), St E0 w X w1 Y1 [] ∧ Le (rd w X) (rd w1 Y1) ∧ (k ≤ l.length) ∧ (trimTo l k = trimTo l l.length)) (fun (k : Nat) => k) l.length ?_ ?_
 ·
  refine ⟨_, B0, Le.refl _, Nat.le_refl _, rfl⟩
 rintro k w2 K2 G2 ⟨Y2, B2, j2, hp2_0, hp2_1⟩
 have hk := hp2_0
 have ht := hp2_1
 refine zz 7 ?_
 refine zt 6 (p := (k : Int) > 0) (fun ht3 => ?_) (fun ht3 => ?_)
 ·
  obtain ⟨bk4, of5, rfl, _⟩ := h.addr (by omega)
  have hcell := (h.cell (i := k - 1) (by omega))
  refine zz 4 ?_
  refine zw 10 (x := (k : Int) - 1) ?_
  refine zi (b := bk4) (off := of5) (len := k) (cap := cap) (kd := .i64) (i := (k : Int) - 1) 1 (of5 + (k - 1)) ?_ (hoff := (by first | omega | (simp; done) | (simp; omega)))
  refine zl ((hcell.mono j2)).cells ?_
  refine zz 4 ?_
  refine zb 14 (b := (((l.getD (k - 1) 0 : Nat) : Int) == 0)) (fun hc6 => ?_) (fun hc6 => ?_)
  ·
   have ht7 : ((l.getD (k - 1) 0 : Nat) : Int) = 0 := by simpa using hc6
   have hk2 := trimTo_pred (l := l) (k := k) (by omega) (by omega)
   refine zz 9 ?_
   refine zw 18 (x := (k : Int) - 1) ?_
   refine zop (at1 [K2] Tryz.f149 [1, 0, 0, 0, 1, 0]) 4 (fun a8 _ C8 hz8 => zC (d := 19) (v := .slice (some ⟨bk4, of5, none⟩) (k - 1) cap) C8 kr (run_sliceTo' (t := 26) (e := 56) (ad := (some ⟨bk4, of5, none⟩)) (len := k) (cap := cap) (kd := .i64) (i := (k : Int) - 1) (h' := (k - 1)) (g := false) (m := 1) rfl kr kr kr kr (by omega) (by omega) (by first | omega | (simp; done) | (simp; omega)) _) ?_)
   intro a9 C9
   refine hz8 C9 ?_
   refine zz 3 ?_
   refine znext (fun a h => G2 (k - 1) _ a h ⟨_, B2, j2, by omega, by omega⟩ ?_)
   first | omega | (simp <;> omega)
  have ht10 : ((l.getD (k - 1) 0 : Nat) : Int) ≠ 0 := by simpa using hc6
  have hk2 := trimTo_here (l := l) (k := k) (by omega) (by omega)
  refine zz 13 ?_
  refine zr' (v := .slice (some ⟨bk4, of5, none⟩) k cap) ?_
  exact ⟨B2.upd, _, rfl, by unfold trimN; first | rw [← ht, hk2] | rw [← ht]; rfl⟩
 obtain rfl : k = 0 := by omega
 refine zz 23 ?_
 refine zr' (v := .slice ad 0 cap) ?_
 exact ⟨B2.upd, _, rfl, by unfold trimN; first | rw [← ht, hk2] | rw [← ht]; rfl⟩
theorem limb5_c (w : World) (X : Hid) (hX : ∀ k o, X k o → k < w.heap.size) (ad : Option Addr) (len cap : Nat) (l : List Nat) (h : Limbs (rd w X) ad len cap l) (i : Nat) : Calls Tryz.prog 164 #[.slice ad len cap, .int .i64 (i : Int)] w (Ret E0 w fun _ v => v = .int .u64 ((l.getD i 0 : Nat) : Int)) := by
 obtain rfl := h.hlen
 have hcap := h.hcap
 have hbig := h.hbig
 have hlt := h.getD_lt i
 refine zen Tryz.func164 ?_
 have B0 : St E0 w X w X [] := St.start hX
 refine zz 14 ?_
 refine zt 8 (p := (i : Int) < (l.length : Int)) (fun ht2 => ?_) (fun ht2 => ?_)
 ·
  obtain ⟨bk3, of4, rfl, _⟩ := h.addr (by omega)
  refine zz 5 ?_
  refine zi (b := bk3) (off := of4) (len := l.length) (cap := cap) (kd := .i64) (i := (i : Int)) 1 (of4 + i) ?_
  refine zl ((h.cell (i := i) (by omega)).mono (Le.refl _)).cells ?_
  refine zz 1 ?_
  refine zs 13 (v := .int .u64 (IntKind.u64.wrap (((l.getD i 0 : Nat) : Int)))) (v' := .int .u64 ((l.getD i 0 : Nat) : Int)) (vint (wu64 (by omega) (by omega))) ?_
  refine zz 5 ?_
  refine zr' (v := .int .u64 ((l.getD i 0 : Nat) : Int)) ?_
  exact ⟨B0.upd, _, rfl, vint (by first | rfl | (rw [List.getD_eq_getElem?_getD, List.getElem?_eq_none (by omega)]; rfl))⟩
 refine zz 9 ?_
 refine zr' (v := .int .u64 0) ?_
 exact ⟨B0.upd, _, rfl, vint (by first | rfl | (rw [List.getD_eq_getElem?_getD, List.getElem?_eq_none (by omega)]; rfl))⟩
end Go.Proofs.YtppalofalmieaaaGreat
namespace Go.Proofs.YtppalofalmieaaaGreat
open Go Go.Gv Go.RowKit
set_option maxRecDepth 100000
set_option maxHeartbeats 1000000
theorem trimN_le {len : Nat} (l : List Nat) (h : len = l.length) : trimN l ≤ len := by rw [h]; exact trimTo_le l _
theorem mx1 {l l2 : List Nat} {k c : Nat} (hc : ¬ 0 < c) (h1 : ¬ k < l.length) (h2 : ¬ k < l2.length) {v : Nat} (h : v + c * 4294967296 ^ k = val (l.take k) + val (l2.take k)) : v = val l + val l2 := by
  rw [List.take_of_length_le (by omega), List.take_of_length_le (by omega), show c = 0 by omega] at h; omega
theorem snoc_lt {ls : List Nat} {x : Nat} (h : ∀ y ∈ ls, y < 4294967296) (hx : x < 4294967296) : ∀ y ∈ ls ++ [x], y < 4294967296 := fun y hy => by
  rcases List.mem_append.1 hy with h1 | h1
  · exact h y h1
  · obtain rfl := List.mem_singleton.1 h1; exact hx
theorem getD_out {l : List Nat} {k : Nat} (h : l.length ≤ k) : l.getD k 0 = 0 := by rw [List.getD_eq_getElem?_getD, List.getElem?_eq_none h]; rfl
theorem sum5_c (w : World) (X : Hid) (hX : ∀ k o, X k o → k < w.heap.size) (ad : Option Addr) (len cap : Nat) (l : List Nat) (h : Limbs (rd w X) ad len cap l) (ad2 : Option Addr) (len2 cap2 : Nat) (l2 : List Nat) (h2 : Limbs (rd w X) ad2 len2 cap2 l2) (hm : len ≤ 1000000) (hm2 : len2 ≤ 1000000) : Calls Tryz.prog 137 #[.slice ad len cap, .slice ad2 len2 cap2] w (Ret E0 w fun w' v => NatX X w' v (val l + val l2)) := by
 obtain rfl := h.hlen
 obtain rfl := h2.hlen
 have hcap := h.hcap
 have hbig := h.hbig
 have hcap2 := h2.hcap
 have hbig2 := h2.hbig
 refine zen Tryz.func137 ?_
 have B0 : St E0 w X w X [] := St.start hX
 refine zz 22 ?_
 refine zlp Tryz.f137 [] [1, 1, 1, 0, 1, 0] (fun ((k, ad8, cap8, c) : Nat × (Option Addr) × Nat × Nat) => [(0, .slice ad l.length cap), (1, .slice ad2 l2.length cap2), (5, .slice ad8 k cap8), (6, .int .u64 (c : Int)), (7, .int .i64 (k : Int))]) (fun ((k, ad8, cap8, c) : Nat × (Option Addr) × Nat × Nat) w1 => ∃ (Y1 : Hid) (rb : List (Nat × Obj)) (ls : List Nat), St E0 w X w1 Y1 (rb) ∧ Le (rd w X) (rd w1 Y1) ∧ (TRow 56 1 rb ad8 k cap8 (U32 ls)) ∧ (ls.length = k) ∧ (∀ x ∈ ls, x < 4294967296) ∧ (val ls + c * 4294967296 ^ k = val (l.take k) + val (l2.take k)) ∧ (c ≤ 1) ∧ (k ≤ max l.length l2.length + 1) ∧ (k = max l.length l2.length + 1 → c = 0)) (fun ((k, ad8, cap8, c) : Nat × (Option Addr) × Nat × Nat) => max l.length l2.length + 1 - k) (0, none, 0, 0) ?_ ?_
 ·
  refine ⟨_, [], [], B0, Le.refl _, TRow.nil _ _, rfl, fun _ h => absurd h (by simp), by simp [val], by omega, Nat.zero_le _, fun _ => rfl⟩
 rintro ⟨k, ad8, cap8, c⟩ w2 K2 G2 ⟨Y2, rb, ls, B2, j2, hp2_0, hp2_1, hp2_2, hp2_3, hp2_4, hp2_5, hp2_6⟩
 have hrw := hp2_0
 have hrl := hp2_1
 have hrt := hp2_2
 have hv := hp2_3
 have hc := hp2_4
 have hk := hp2_5
 have hkc := hp2_6
 have hlt1 := h.getD_lt k
 have hlt2 := h2.getD_lt k
 refine zz 1 ?_
 refine zjoin (fun (bj3_22 : Bool) => [(0, .slice ad l.length cap), (1, .slice ad2 l2.length cap2), (5, .slice ad8 k cap8), (6, .int .u64 (c : Int)), (7, .int .i64 (k : Int)), (22, .bool bj3_22)]) (fun (bj3_22 : Bool) w1 => ∃ Y1 : Hid, St E0 w X w1 Y1 (rb) ∧ Le (rd w2 Y2) (rd w1 Y1) ∧ (bj3_22 = true ↔ (k < l.length ∨ k < l2.length ∨ 0 < c))) ?_ ?_
 ·
  rintro bj3_22 w3 ⟨Y3, B3, j3, hjp3⟩
  refine zb 22 (b := bj3_22) (fun hc4 => ?_) (fun hc4 => ?_)
  ·
   have ht5 : bj3_22 = true := by simpa using hc4
   have hgo := hjp3.1 ht5
   refine zz 9 ?_
   refine zc B3 (limb5_c _ X0 (X0_lt _) _ _ _ l ((h.mono (Le2 j2 j3)).mono Le.x0) k) ?_
   rintro v7 w7 B7 j7 hu7 rfl
   refine zz 2 ?_
   refine zc B7 (limb5_c _ X0 (X0_lt _) _ _ _ l2 ((h2.mono (Le3 j2 j3 j7)).mono Le.x0) k) ?_
   rintro v9 w9 B9 j9 hu9 rfl
   refine zz 1 ?_
   refine zs 31 (v := .int .u64 (IntKind.u64.wrap (((l.getD k 0 : Nat) : Int) + ((l2.getD k 0 : Nat) : Int)))) (v' := .int .u64 (((l.getD k 0 : Nat) : Int) + ((l2.getD k 0 : Nat) : Int))) (vint (wu64 (by omega) (by omega))) ?_
   refine zz 2 ?_
   refine zs 33 (v := .int .u64 (IntKind.u64.wrap ((((l.getD k 0 : Nat) : Int) + ((l2.getD k 0 : Nat) : Int)) + (c : Int)))) (v' := .int .u64 (((l.getD k 0 + l2.getD k 0 + c) : Nat) : Int)) (vint ((wu64 (by omega) (by omega)).trans (by omega))) ?_
   refine zz 8 ?_
   refine zs 36 (v := .int .u64 (Int.tmod ((((l.getD k 0 + l2.getD k 0 + c) : Nat) : Int)) (4294967296))) (v' := .int .u64 (((l.getD k 0 + l2.getD k 0 + c) % 4294967296 : Nat) : Int)) (vint (by rfl)) ?_
   refine zz 1 ?_
   refine zs 37 (v := .int .u32 (IntKind.u32.wrap ((((l.getD k 0 + l2.getD k 0 + c) % 4294967296 : Nat) : Int)))) (v' := .int .u32 (((l.getD k 0 + l2.getD k 0 + c) % 4294967296 : Nat) : Int)) (vint (wu32 (by omega) (by omega))) ?_
   refine zn (fun b => .slice (some ⟨b, 0, none⟩) 1 1) (.cells #[.int .u32 (((l.getD k 0 + l2.getD k 0 + c) % 4294967296 : Nat) : Int)] 56 (0, 0)) B9 ?_
   intro b11 w11 Y11 B11 j11 hu11
   refine zop (at1 [K2] Tryz.f137 [1, 1, 1, 0, 1, 0, 0, 1, 0, 0, 1, 0]) 5 (fun a12 _ C12 hz12 => op_appEZ (b := 4) (m := 1) (c := 1) (ad := ⟨b11, 0, none⟩) (news := [.int .u32 (((l.getD k 0 + l2.getD k 0 + c) % 4294967296 : Nat) : Int)]) (i0 := Tryz.t56) (R1 := []) 1 C12 B11 rfl hrw (B11.cells 0 rfl rfl) (by omega) (by omega) ?_)
   intro rb13 ad13 cap13 w13 Y13 hrow13 B13 j13 a14 C14
   have hrw13 : TRow 56 1 rb13 ad13 (k + 1) cap13 (U32 (ls ++ [(l.getD k 0 + l2.getD k 0 + c) % 4294967296])) := by rw [← U32_snoc]; exact hrow13
   refine hz12 C14 ?_
   refine zz 6 ?_
   refine zs 41 (v := .int .u64 (IntKind.u64.wrap (Int.tdiv ((((l.getD k 0 + l2.getD k 0 + c) : Nat) : Int)) (4294967296)))) (v' := .int .u64 (((l.getD k 0 + l2.getD k 0 + c) / 4294967296 : Nat) : Int)) (vint (u64_quo _ (by omega))) ?_
   refine zz 7 ?_
   refine zw 24 (x := (k : Int) + 1) ?_
   refine zz 2 ?_
   have hc1_ := (Le5 j2 j3 j7 j9 j11).trans j13
   refine znext (fun a h => G2 ((k + 1, ad13, cap13, (l.getD k 0 + l2.getD k 0 + c) / 4294967296)) _ a h ⟨_, rb13, (ls ++ [(l.getD k 0 + l2.getD k 0 + c) % 4294967296]), B13.tail, hc1_, hrw13, by rw [List.length_append, hrl]; rfl, snoc_lt hrt (by omega), sumstep _ _ _ _ _ hrl hv, by omega, by omega, fun hk9 => by have e1 : l.getD k 0 = 0 := getD_out (by omega); have e2 : l2.getD k 0 = 0 := getD_out (by omega); omega⟩ ?_)
   first | omega | (simp <;> omega)
  have ht15 : bj3_22 = false := by simpa using hc4
  have hno : ¬ (k < l.length ∨ k < l2.length ∨ 0 < c) := fun e => by rw [hjp3.2 e] at ht15; cases ht15
  have hend := mx1 (fun e => hno (.inr (.inr e))) (fun e => hno (.inl e)) (fun e => hno (.inr (.inl e))) hv
  refine zz 9 ?_
  obtain ⟨Y17, hSx17, j17, hL17⟩ := St.pubLimbs (A := []) (B := []) (fun rb => (rb)) B3 (fun _ => by simp only [List.append_assoc, List.cons_append, List.nil_append, List.append_nil]) hrw hrl.symm hrt
  have B17 : St E0 w X w3 Y17 [] := hSx17
  refine zc B17 (cut5_c _ _ B17.lt _ _ _ ls hL17) ?_
  rintro v18 w18 B18 j18 hu18 rfl
  refine zz 4 ?_
  refine zr' (v := .slice ad8 (trimN ls) cap8) ?_
  exact ⟨B18.upd, _, rfl, _, _, _, rfl, _, ((hL17.sub (trimN_le _ hL17.hlen)).mono (Le.trans j18 B18.le)), canon_trimmed _, by rw [show List.take (trimN ls) ls = Go.Gv.trimmed ls from rfl, val_trimmed]; exact hend⟩
 intro K19 G19
 refine zz 6 ?_
 refine zt 13 (p := (k : Int) < (l.length : Int)) (fun ht20 => ?_) (fun ht20 => ?_)
 ·
  refine zz 10 ?_
  exact znext (fun a h => G19 true _ a h ⟨_, B2, (Le.refl _), by first | exact ⟨fun _ => by omega, fun _ => rfl⟩ | exact ⟨fun e => by have := of_decide_eq_true e; omega, fun e => decide_eq_true (by omega)⟩⟩)
 refine zz 6 ?_
 refine zt 19 (p := (k : Int) < (l2.length : Int)) (fun ht21 => ?_) (fun ht21 => ?_)
 ·
  refine zz 4 ?_
  exact znext (fun a h => G19 true _ a h ⟨_, B2, (Le.refl _), by first | exact ⟨fun _ => by omega, fun _ => rfl⟩ | exact ⟨fun e => by have := of_decide_eq_true e; omega, fun e => decide_eq_true (by omega)⟩⟩)
 refine zz 4 ?_
 exact znext (fun a h => G19 (decide ((c : Int) > 0)) _ a h ⟨_, B2, (Le.refl _), by first | exact ⟨fun _ => by omega, fun _ => rfl⟩ | exact ⟨fun e => by have := of_decide_eq_true e; omega, fun e => decide_eq_true (by omega)⟩⟩)
end Go.Proofs.YtppalofalmieaaaGreat
namespace Go.Proofs.YtppalofalmieaaaGreat
open Go Go.Gv Go.RowKit
set_option maxRecDepth 100000
set_option maxHeartbeats 1000000
theorem diff5_c (w : World) (X : Hid) (hX : ∀ k o, X k o → k < w.heap.size) (ad : Option Addr) (len cap : Nat) (l : List Nat) (h : Limbs (rd w X) ad len cap l) (ad2 : Option Addr) (len2 cap2 : Nat) (l2 : List Nat) (h2 : Limbs (rd w X) ad2 len2 cap2 l2) (hm : len ≤ 1000000) (hll : l2.length ≤ l.length) (hle : val l2 ≤ val l) : Calls Tryz.prog 139 #[.slice ad len cap, .slice ad2 len2 cap2] w (Ret E0 w fun w' v => NatX X w' v (val l - val l2)) := by
 obtain rfl := h.hlen
 obtain rfl := h2.hlen
 have hcap := h.hcap
 have hbig := h.hbig
 have hcap2 := h2.hcap
 have hbig2 := h2.hbig
 refine zen Tryz.func139 ?_
 have B0 : St E0 w X w X [] := St.start hX
 refine zz 22 ?_
 refine zlp Tryz.f139 [] [1, 1, 1, 0, 1, 0] (fun ((k, ad8, cap8, c) : Nat × (Option Addr) × Nat × Nat) => [(0, .slice ad l.length cap), (1, .slice ad2 l2.length cap2), (5, .slice ad8 k cap8), (6, .int .u64 (c : Int)), (7, .int .i64 (k : Int))]) (fun ((k, ad8, cap8, c) : Nat × (Option Addr) × Nat × Nat) w1 => ∃ (Y1 : Hid) (rb : List (Nat × Obj)) (ls : List Nat), St E0 w X w1 Y1 (rb) ∧ Le (rd w X) (rd w1 Y1) ∧ (TRow 56 1 rb ad8 k cap8 (U32 ls)) ∧ (ls.length = k) ∧ (∀ x ∈ ls, x < 4294967296) ∧ (val ls + val (l2.take k) = val (l.take k) + c * 4294967296 ^ k) ∧ (c ≤ 1) ∧ (k ≤ l.length)) (fun ((k, ad8, cap8, c) : Nat × (Option Addr) × Nat × Nat) => l.length - k) (0, none, 0, 0) ?_ ?_
 ·
  refine ⟨_, [], [], B0, Le.refl _, TRow.nil _ _, rfl, fun _ h => absurd h (by simp), by simp [val], by omega, Nat.zero_le _⟩
 rintro ⟨k, ad8, cap8, c⟩ w2 K2 G2 ⟨Y2, rb, ls, B2, j2, hp2_0, hp2_1, hp2_2, hp2_3, hp2_4, hp2_5⟩
 have hrw := hp2_0
 have hrl := hp2_1
 have hrt := hp2_2
 have hv := hp2_3
 have hc := hp2_4
 have hk := hp2_5
 have hlt1 := h.getD_lt k
 have hlt2 := h2.getD_lt k
 refine zz 9 ?_
 refine zt 12 (p := (k : Int) < (l.length : Int)) (fun ht3 => ?_) (fun ht3 => ?_)
 ·
  refine zz 9 ?_
  refine zc B2 (limb5_c _ X0 (X0_lt _) _ _ _ l ((h.mono j2).mono Le.x0) k) ?_
  rintro v5 w5 B5 j5 hu5 rfl
  refine zz 1 ?_
  refine zs 18 (v := .int .u64 (IntKind.u64.wrap ((4294967296 : Int) + ((l.getD k 0 : Nat) : Int)))) (v' := .int .u64 ((4294967296 : Int) + ((l.getD k 0 : Nat) : Int))) (vint (wu64 (by omega) (by omega))) ?_
  refine zz 2 ?_
  refine zc B5 (limb5_c _ X0 (X0_lt _) _ _ _ l2 ((h2.mono (Le2 j2 j5)).mono Le.x0) k) ?_
  rintro v7 w7 B7 j7 hu7 rfl
  refine zz 1 ?_
  refine zs 22 (v := .int .u64 (IntKind.u64.wrap (((4294967296 : Int) + ((l.getD k 0 : Nat) : Int)) - ((l2.getD k 0 : Nat) : Int)))) (v' := .int .u64 (((4294967296 : Int) + ((l.getD k 0 : Nat) : Int)) - ((l2.getD k 0 : Nat) : Int))) (vint (wu64 (by omega) (by omega))) ?_
  refine zz 2 ?_
  refine zs 24 (v := .int .u64 (IntKind.u64.wrap ((((4294967296 : Int) + ((l.getD k 0 : Nat) : Int)) - ((l2.getD k 0 : Nat) : Int)) - (c : Int)))) (v' := .int .u64 (((4294967296 + l.getD k 0 - l2.getD k 0 - c) : Nat) : Int)) (vint ((wu64 (by omega) (by omega)).trans (by omega))) ?_
  refine zz 8 ?_
  refine zs 27 (v := .int .u64 (Int.tmod ((((4294967296 + l.getD k 0 - l2.getD k 0 - c) : Nat) : Int)) (4294967296))) (v' := .int .u64 (((4294967296 + l.getD k 0 - l2.getD k 0 - c) % 4294967296 : Nat) : Int)) (vint (by rfl)) ?_
  refine zz 1 ?_
  refine zs 28 (v := .int .u32 (IntKind.u32.wrap ((((4294967296 + l.getD k 0 - l2.getD k 0 - c) % 4294967296 : Nat) : Int)))) (v' := .int .u32 (((4294967296 + l.getD k 0 - l2.getD k 0 - c) % 4294967296 : Nat) : Int)) (vint (wu32 (by omega) (by omega))) ?_
  refine zn (fun b => .slice (some ⟨b, 0, none⟩) 1 1) (.cells #[.int .u32 (((4294967296 + l.getD k 0 - l2.getD k 0 - c) % 4294967296 : Nat) : Int)] 56 (0, 0)) B7 ?_
  intro b9 w9 Y9 B9 j9 hu9
  refine zop (at1 [K2] Tryz.f139 [1, 1, 1, 0, 1, 0, 0, 1, 0, 0, 1, 0]) 5 (fun a10 _ C10 hz10 => op_appEZ (b := 4) (m := 1) (c := 1) (ad := ⟨b9, 0, none⟩) (news := [.int .u32 (((4294967296 + l.getD k 0 - l2.getD k 0 - c) % 4294967296 : Nat) : Int)]) (i0 := Tryz.t56) (R1 := []) 1 C10 B9 rfl hrw (B9.cells 0 rfl rfl) (by omega) (by omega) ?_)
  intro rb11 ad11 cap11 w11 Y11 hrow11 B11 j11 a12 C12
  have hrw11 : TRow 56 1 rb11 ad11 (k + 1) cap11 (U32 (ls ++ [(4294967296 + l.getD k 0 - l2.getD k 0 - c) % 4294967296])) := by rw [← U32_snoc]; exact hrow11
  refine hz10 C12 ?_
  refine zz 6 ?_
  refine zs 32 (v := .int .u64 (IntKind.u64.wrap (Int.tdiv ((((4294967296 + l.getD k 0 - l2.getD k 0 - c) : Nat) : Int)) (4294967296)))) (v' := .int .u64 (((4294967296 + l.getD k 0 - l2.getD k 0 - c) / 4294967296 : Nat) : Int)) (vint (u64_quo _ (by omega))) ?_
  refine zz 1 ?_
  refine zs 33 (v := .int .u64 (IntKind.u64.wrap ((1 : Int) - (((4294967296 + l.getD k 0 - l2.getD k 0 - c) / 4294967296 : Nat) : Int)))) (v' := .int .u64 ((1 - (4294967296 + l.getD k 0 - l2.getD k 0 - c) / 4294967296 : Nat) : Int)) (vint ((wu64 (by omega) (by omega)).trans (by omega))) ?_
  refine zz 7 ?_
  refine zw 14 (x := (k : Int) + 1) ?_
  refine zz 2 ?_
  have hc1_ := (Le4 j2 j5 j7 j9).trans j11
  refine znext (fun a h => G2 ((k + 1, ad11, cap11, (1 - (4294967296 + l.getD k 0 - l2.getD k 0 - c) / 4294967296))) _ a h ⟨_, rb11, (ls ++ [(4294967296 + l.getD k 0 - l2.getD k 0 - c) % 4294967296]), B11.tail, hc1_, hrw11, by rw [List.length_append, hrl]; rfl, snoc_lt hrt (by omega), diffstep _ _ _ _ _ hrl hlt1 hlt2 hc hv, by omega, by omega⟩ ?_)
  first | omega | (simp <;> omega)
 have hend := diff_end hrl (by omega) hrt hll hle hc hv
 refine zz 9 ?_
 obtain ⟨Y14, hSx14, j14, hL14⟩ := St.pubLimbs (A := []) (B := []) (fun rb => (rb)) B2 (fun _ => by simp only [List.append_assoc, List.cons_append, List.nil_append, List.append_nil]) hrw hrl.symm hrt
 have B14 : St E0 w X w2 Y14 [] := hSx14
 refine zc B14 (cut5_c _ _ B14.lt _ _ _ ls hL14) ?_
 rintro v15 w15 B15 j15 hu15 rfl
 refine zz 4 ?_
 refine zr' (v := .slice ad8 (trimN ls) cap8) ?_
 exact ⟨B15.upd, _, rfl, _, _, _, rfl, _, ((hL14.sub (trimN_le _ hL14.hlen)).mono (Le.trans j15 B15.le)), canon_trimmed _, by rw [show List.take (trimN ls) ls = Go.Gv.trimmed ls from rfl, val_trimmed]; exact hend⟩
theorem order5_c (w : World) (X : Hid) (hX : ∀ k o, X k o → k < w.heap.size) (ad : Option Addr) (len cap : Nat) (l : List Nat) (h : Limbs (rd w X) ad len cap l) (ad2 : Option Addr) (len2 cap2 : Nat) (l2 : List Nat) (h2 : Limbs (rd w X) ad2 len2 cap2 l2) (hm : len ≤ 1000000) (hm2 : len2 ≤ 1000000) : Calls Tryz.prog 138 #[.slice ad len cap, .slice ad2 len2 cap2] w (Ret E0 w fun _ v => v = .int .i64 (cmpI (val l) (val l2))) := by
 obtain rfl := h.hlen
 obtain rfl := h2.hlen
 have hcap := h.hcap
 have hbig := h.hbig
 have hcap2 := h2.hcap
 have hbig2 := h2.hbig
 refine zen Tryz.func138 ?_
 have B0 : St E0 w X w X [] := St.start hX
 refine zz 13 ?_
 refine zs 10 (v := .int .i64 (if (l2.length : Int) > (l.length : Int) then (l2.length : Int) else (l.length : Int))) (v' := .int .i64 ((max l.length l2.length : Nat) : Int)) (vint (by split <;> omega)) ?_
 refine zz 1 ?_
 refine zw 11 (x := ((max l.length l2.length : Nat) : Int) - 1) ?_
 refine zz 4 ?_
 refine zlp Tryz.f138 [] [1, 0, 1, 0] (fun (k : Nat) => [(0, .slice ad l.length cap), (1, .slice ad2 l2.length cap2), (5, .int .i64 ((k : Int) - 1))]) (fun (k : Nat) w1 => ∃ (Y1 : Hid), St E0 w X w1 Y1 [] ∧ Le (rd w X) (rd w1 Y1) ∧ (k ≤ max l.length l2.length) ∧ (∀ j, k ≤ j → l.getD j 0 = l2.getD j 0)) (fun (k : Nat) => k) (max l.length l2.length) ?_ ?_
 ·
  refine ⟨_, B0, Le.refl _, Nat.le_refl _, fun j hj => (getD_out (by omega)).trans (getD_out (by omega)).symm⟩
 rintro k w2 K2 G2 ⟨Y2, B2, j2, hp2_0, hp2_1⟩
 have hk := hp2_0
 have he := hp2_1
 have hlt1 := h.getD_lt (k - 1)
 have hlt2 := h2.getD_lt (k - 1)
 refine zz 7 ?_
 refine zt 13 (p := ((k : Int) - 1) ≥ 0) (fun ht3 => ?_) (fun ht3 => ?_)
 ·
  refine zz 10 ?_
  refine zs 17 (v := .int .i64 ((k : Int) - 1)) (v' := .int .i64 ((k - 1 : Nat) : Int)) (vint (by omega)) ?_
  refine zc B2 (limb5_c _ X0 (X0_lt _) _ _ _ l ((h.mono j2).mono Le.x0) (k - 1)) ?_
  rintro v5 w5 B5 j5 hu5 rfl
  refine zz 2 ?_
  refine zs 20 (v := .int .i64 ((k : Int) - 1)) (v' := .int .i64 ((k - 1 : Nat) : Int)) (vint (by omega)) ?_
  refine zc B5 (limb5_c _ X0 (X0_lt _) _ _ _ l2 ((h2.mono (Le2 j2 j5)).mono Le.x0) (k - 1)) ?_
  rintro v7 w7 B7 j7 hu7 rfl
  refine zz 3 ?_
  refine zt 22 (p := ((l.getD (k - 1) 0 : Nat) : Int) < ((l2.getD (k - 1) 0 : Nat) : Int)) (fun ht8 => ?_) (fun ht8 => ?_)
  ·
   refine zz 13 ?_
   refine zr' (v := .int .i64 (-1)) ?_
   exact ⟨B7.upd, _, rfl, vint (Eq.symm (by have h9 := ord_lt h.hlt (k := k - 1) (fun j hj => he j (by omega)) (by omega); unfold cmpI; rw [if_pos (by omega)]))⟩
  refine zz 7 ?_
  refine zs 24 (v := .int .i64 ((k : Int) - 1)) (v' := .int .i64 ((k - 1 : Nat) : Int)) (vint (by omega)) ?_
  refine zc B7 (limb5_c _ X0 (X0_lt _) _ _ _ l ((h.mono (Le3 j2 j5 j7)).mono Le.x0) (k - 1)) ?_
  rintro v10 w10 B10 j10 hu10 rfl
  refine zz 2 ?_
  refine zs 27 (v := .int .i64 ((k : Int) - 1)) (v' := .int .i64 ((k - 1 : Nat) : Int)) (vint (by omega)) ?_
  have hc1_ := (Le3 j2 j5 j7).trans j10
  refine zc B10 (limb5_c _ X0 (X0_lt _) _ _ _ l2 ((h2.mono hc1_).mono Le.x0) (k - 1)) ?_
  rintro v12 w12 B12 j12 hu12 rfl
  refine zz 3 ?_
  refine zt 29 (p := ((l.getD (k - 1) 0 : Nat) : Int) > ((l2.getD (k - 1) 0 : Nat) : Int)) (fun ht13 => ?_) (fun ht13 => ?_)
  ·
   refine zz 12 ?_
   refine zr' (v := .int .i64 1) ?_
   exact ⟨B12.upd, _, rfl, vint (Eq.symm (by have h9 := ord_lt h2.hlt (k := k - 1) (fun j hj => (he j (by omega)).symm) (by omega); unfold cmpI; rw [if_neg (by omega), if_pos (by omega)]))⟩
  refine zz 7 ?_
  refine zs 15 (v := .int .i64 (IntKind.i64.wrap (((k : Int) - 1) - 1))) (v' := .int .i64 (((k - 1 : Nat) : Int) - 1)) (vint ((wi64 (by omega) (by omega)).trans (by omega))) ?_
  refine zz 2 ?_
  have hc2_ := hc1_.trans j12
  refine znext (fun a h => G2 (k - 1) _ a h ⟨_, B12, hc2_, by omega, fun j hj => by rcases Nat.lt_or_ge j k with h9 | h9; obtain rfl : j = k - 1 := (by omega); omega; exact he j h9⟩ ?_)
  first | omega | (simp <;> omega)
 have hend := val_ext l l2 (fun j => he j (by omega))
 refine zz 12 ?_
 refine zr' (v := .int .i64 0) ?_
 exact ⟨B2.upd, _, rfl, vint (Eq.symm (by unfold cmpI; rw [hend, if_neg (Int.lt_irrefl _), if_neg (Int.lt_irrefl _)]))⟩
end Go.Proofs.YtppalofalmieaaaGreat
namespace Go.Proofs.YtppalofalmieaaaGreat
open Go Go.Gv Go.RowKit
set_option maxRecDepth 100000
set_option maxHeartbeats 1000000
theorem from5_c (w : World) (X : Hid) (hX : ∀ k o, X k o → k < w.heap.size) (x : Nat) (hx : x < 18446744073709551616) : Calls Tryz.prog 117 #[.int .u64 (x : Int)] w (Ret E0 w fun w' v => NatX X w' v x) := by
 refine zen Tryz.func117 ?_
 have B0 : St E0 w X w X [] := St.start hX
 refine zz 9 ?_
 refine zs 4 (v := .int .u64 (Int.tmod ((x : Int)) (4294967296))) (v' := .int .u64 ((x % 4294967296 : Nat) : Int)) (vint (by rfl)) ?_
 refine zz 1 ?_
 refine zs 5 (v := .int .u32 (IntKind.u32.wrap (((x % 4294967296 : Nat) : Int)))) (v' := .int .u32 ((x % 4294967296 : Nat) : Int)) (vint (wu32 (by omega) (by omega))) ?_
 refine zz 2 ?_
 refine zs 7 (v := .int .u64 (IntKind.u64.wrap (Int.tdiv ((x : Int)) (4294967296)))) (v' := .int .u64 ((x / 4294967296 : Nat) : Int)) (vint (u64_quo _ (by omega))) ?_
 refine zz 1 ?_
 refine zs 8 (v := .int .u32 (IntKind.u32.wrap (((x / 4294967296 : Nat) : Int)))) (v' := .int .u32 ((x / 4294967296 : Nat) : Int)) (vint (wu32 (by omega) (by omega))) ?_
 refine zn (fun b => .slice (some ⟨b, 0, none⟩) 2 2) (.cells #[.int .u32 ((x % 4294967296 : Nat) : Int), .int .u32 ((x / 4294967296 : Nat) : Int)] 56 (0, 0)) B0 ?_
 intro b3 w3 Y3 B3 j3 hu3
 have hrow5 : URow 2 2 #[.int .u32 ((x % 4294967296 : Nat) : Int), .int .u32 ((x / 4294967296 : Nat) : Int)] [x % 4294967296, x / 4294967296] := URow.of [x % 4294967296, x / 4294967296] (by intro y hy; simp at hy; omega) (by simp [maxLen]) (by simp [U32]) (by simp)
 refine zc B3 (cut5_c _ X0 (X0_lt _) _ _ _ ([x % 4294967296, x / 4294967296]) (URow.limbs (Y := X0) hrow5 (B3.get 0 rfl) (fun _ h => h.elim))) ?_ (vs := #[.slice (some ⟨b3, 0, none⟩) 2 2])
 rintro v6 w6 B6 j6 hu6 rfl
 refine zz 4 ?_
 refine zr' (v := .slice (some ⟨b3, 0, none⟩) (trimN ([x % 4294967296, x / 4294967296])) 2) ?_
 exact ⟨B6.upd, _, rfl, _, _, _, rfl, _, URow.limbs (hrow5.trimmed) (B6.get 0 rfl) (fun o h9 => Nat.not_lt.2 (B6.own_ge 0 rfl) (hX _ _ h9)), canon_trimmed _, by rw [val_trimmed]; simp only [val]; omega⟩
end Go.Proofs.YtppalofalmieaaaGreat
namespace Go.Proofs.YtppalofalmieaaaGreat
open Go Go.Gv Go.RowKit
set_option maxRecDepth 100000
set_option maxHeartbeats 1000000
theorem div5_lo (w : World) (X : Hid) (hX : ∀ k o, X k o → k < w.heap.size) (ad : Option Addr) (len cap : Nat) (l : List Nat) (h : Limbs (rd w X) ad len cap l) (ad2 : Option Addr) (len2 cap2 : Nat) (l2 : List Nat) (h2 : Limbs (rd w X) ad2 len2 cap2 l2) (hm : len ≤ 100000) (hm2 : len2 ≤ 100000) (hc1 : Canon l) (hc2 : Canon l2) (hd : 0 < val l2) (hlo : l.length < l2.length) : Calls Tryz.prog 116 #[.slice ad len cap, .slice ad2 len2 cap2] w (Ret E0 w fun w' v => ∃ u u2, v = .tuple #[u, u2] ∧ NatX X w' u (val l / val l2) ∧ NatX X w' u2 (val l % val l2)) := by
 obtain rfl := h.hlen
 obtain rfl := h2.hlen
 have hcap := h.hcap
 have hbig := h.hbig
 have hcap2 := h2.hcap
 have hbig2 := h2.hbig
 have hlo2 := lo_lt h.hlt hc2 hlo
 refine zen Tryz.func116 ?_
 have B0 : St E0 w X w X [] := St.start hX
 refine zz 13 ?_
 refine zw 14 (x := (l.length : Int) - (l2.length : Int)) ?_
 refine zz 1 ?_
 refine zs 15 (v := .int .i64 (IntKind.i64.wrap (((l.length : Int) - (l2.length : Int)) + 1))) (v' := .int .i64 ((l.length : Int) - (l2.length : Int) + 1)) (vint (wi64 (by omega) (by omega))) ?_
 refine zz 10 ?_
 refine zt 17 (p := ((l.length : Int) - (l2.length : Int) + 1) ≤ 0) (fun ht2 => ?_) (fun ht2 => ?_)
 ·
  refine zz 4 ?_
  refine zop (at1 [] Tryz.f116 [1, 1, 0, 1, 0, 0]) 1 (fun a3 _ C3 hz3 => op_nilL (e := 56) (i0 := Tryz.t56) C3 B0 h (by first | omega | (simp; omega)) ?_)
  intro ad4 cap4 w4 B4 j4 hL4 a5 C5
  refine hz3 C5 ?_
  refine zz 6 ?_
  refine zr' (v := .tuple #[.slice none 0 0, .slice ad4 l.length cap4]) ?_
  exact ⟨B4.upd, _, rfl, _, _, rfl, ⟨_, _, _, rfl, [], Limbs.nil none (by omega), .inl rfl, (Nat.div_eq_of_lt hlo2).symm⟩, ⟨_, _, _, rfl, l, (hL4).mono B4.le, hc1, (Nat.mod_eq_of_lt hlo2).symm⟩⟩
 omega
theorem div5_hi (w : World) (X : Hid) (hX : ∀ k o, X k o → k < w.heap.size) (ad : Option Addr) (len cap : Nat) (l : List Nat) (h : Limbs (rd w X) ad len cap l) (ad2 : Option Addr) (len2 cap2 : Nat) (l2 : List Nat) (h2 : Limbs (rd w X) ad2 len2 cap2 l2) (hm : len ≤ 100000) (hm2 : len2 ≤ 100000) (hc1 : Canon l) (hc2 : Canon l2) (hd : 0 < val l2) (N : Nat) (hN : l.length + 1 = N + l2.length) (h0 : 0 < N) : Calls Tryz.prog 116 #[.slice ad len cap, .slice ad2 len2 cap2] w (Ret E0 w fun w' v => ∃ u u2, v = .tuple #[u, u2] ∧ NatX X w' u (val l / val l2) ∧ NatX X w' u2 (val l % val l2)) := by
 obtain rfl := h.hlen
 obtain rfl := h2.hlen
 have hcap := h.hcap
 have hbig := h.hbig
 have hcap2 := h2.hcap
 have hbig2 := h2.hbig
 have hl2 := pos_len hd
 refine zen Tryz.func116 ?_
 have B0 : St E0 w X w X [] := St.start hX
 refine zz 13 ?_
 refine zw 14 (x := (l.length : Int) - (l2.length : Int)) ?_
 refine zz 1 ?_
 refine zs 15 (v := .int .i64 (IntKind.i64.wrap (((l.length : Int) - (l2.length : Int)) + 1))) (v' := .int .i64 (N : Int)) (vint ((wi64 (by omega) (by omega)).trans (by omega))) ?_
 refine zz 10 ?_
 refine zt 17 (p := (N : Int) ≤ 0) (fun ht2 => ?_) (fun ht2 => ?_)
 ·
  omega
 refine zz 6 ?_
 refine zop (at1 [] Tryz.f116 [1, 1, 1, 0]) 1 (fun a3 _ C3 hz3 => op_makeZ (l := (N : Int)) (e := 56) (z := .int .u32 0) (i0 := Tryz.t56) N 4 C3 B0 ?_)
 intro b4 w4 Y4 B4 j4 hu4 a5 C5
 have hrow4 := URow.zeros N (by simp only [maxLen]; omega)
 refine hz3 C5 ?_
 refine zz 7 ?_
 refine zop (at1 [] Tryz.f116 [1, 1, 1, 1, 0]) 2 (fun a6 _ C6 hz6 => zC (d := 24) (v := .slice (adF ad cap N) (l.length - N) (cap - N)) C6 kr (run_sliceFrom (t := 26) (e := 56) (ad := ad) (len := l.length) (cap := cap) (k := N) (kd := .i64) (g := false) rfl kr kr kr kr (by omega) _) ?_)
 intro a7 C7
 refine hz6 C7 ?_
 refine zop (at1 [] Tryz.f116 [1, 1, 1, 1, 0]) 3 (fun a8 _ C8 hz8 => op_nilL (e := 56) (i0 := Tryz.t56) C8 B4 ((h.drop (k := N) (by omega)).mono j4) (by first | omega | (simp; omega)) ?_)
 intro ad9 cap9 w9 B9 j9 hL9 a10 C10
 refine hz8 C10 ?_
 refine zc B9 (cut5_c _ _ B9.lt _ _ _ (l.drop N) hL9) ?_
 rintro v12 w12 B12 j12 hu12 rfl
 have hT13 := ((hL9.mono j12)).sub (trimN_le _ ((hL9.mono j12)).hlen)
 refine zz 8 ?_
 refine zw 28 (x := (32 : Int) * (N : Int)) ?_
 refine zz 1 ?_
 refine zs 29 (v := .int .i64 (IntKind.i64.wrap (((32 : Int) * (N : Int)) - 1))) (v' := .int .i64 (((32 * N : Nat) : Int) - 1)) (vint ((wi64 (by omega) (by omega)).trans (by omega))) ?_
 refine zz 4 ?_
 refine zlp Tryz.f116 [] [1, 1, 1, 1, 1, 0, 1, 0] (fun ((k, adr, lenr, capr) : Nat × (Option Addr) × Nat × Nat) => [(0, .slice ad l.length cap), (1, .slice ad2 l2.length cap2), (7, .slice (some ⟨b4, 0, none⟩) N N), (8, .slice adr lenr capr), (9, .int .i64 ((k : Int) - 1))]) (fun ((k, adr, lenr, capr) : Nat × (Option Addr) × Nat × Nat) w1 => ∃ (Y1 : Hid) (curq : Array Value) (lq : List Nat) (lr : List Nat) (q : Nat), St E0 w X w1 Y1 [(b4, .cells curq 56 (0, 0))] ∧ Le (rd w12 Y4) (rd w1 Y1) ∧ (URow N N curq lq) ∧ (Limbs (rd w1 Y1) adr lenr capr lr) ∧ (Canon lr) ∧ (val lq = 2 ^ k * q) ∧ (val l / 2 ^ k = q * val l2 + val lr) ∧ (val lr < val l2) ∧ (k ≤ 32 * N)) (fun ((k, adr, lenr, capr) : Nat × (Option Addr) × Nat × Nat) => k) ((32 * N), ad9, trimN (l.drop N), cap9) ?_ ?_
 ·
  refine ⟨_, (List.replicate N (Value.int .u32 0)).toArray, (List.replicate N 0), (Go.Gv.trimmed (l.drop N)), 0, B12, Le.refl _, hrow4, hT13, canon_trimmed _, by rw [val_replicate]; simp, by rw [Nat.zero_mul, Nat.zero_add, val_trimmed]; exact val_drop l h.hlt N (by omega), by rw [val_trimmed]; exact drop_lt h.hlt hc2 hd hN, Nat.le_refl _⟩
 rintro ⟨k, adr, lenr, capr⟩ w14 K14 G14 ⟨Y14, curq, lq, lr, q, B14, j14, hp14_0, hp14_1, hp14_2, hp14_3, hp14_4, hp14_5, hp14_6⟩
 have hrowq := hp14_0
 have hr := hp14_1
 have hcanr := hp14_2
 have hvq := hp14_3
 have hdiv := hp14_4
 have hlt := hp14_5
 have hkN := hp14_6
 have hrlen := hr.hlen
 have hrl := canon_len h2.hlt hcanr (Nat.le_of_lt hlt)
 obtain rfl := hrlen
 refine zz 7 ?_
 refine zt 31 (p := ((k : Int) - 1) ≥ 0) (fun ht15 => ?_) (fun ht15 => ?_)
 ·
  obtain ⟨i, rfl⟩ : ∃ i, k = i + 1 := ⟨k - 1, by omega⟩
  obtain ⟨b1, off1, rfl, _⟩ := h.addr (by omega)
  refine zz 9 ?_
  refine zc B14 (sum5_c _ _ B14.lt _ _ _ lr hr _ _ _ lr hr (by first | omega | (simp; done) | (simp; omega)) (by first | omega | (simp; done) | (simp; omega))) ?_
  rintro v17 w17 B17 j17 hu17 ⟨ad17, len17, cap17, rfl, ls17, hL17, hcan17, hval17⟩
  have hlen17 := hL17.hlen
  have hdl17 := canon_dbl hcan17 h2.hlt hlt (by omega)
  refine zz 8 ?_
  refine zs 38 (v := .int .i64 (((i + 1 : Nat) : Int) - 1)) (v' := .int .i64 (i : Int)) (vint (by omega)) ?_
  refine zz 1 ?_
  refine zs 39 (v := .int .i64 (IntKind.i64.wrap (Int.tdiv ((i : Int)) (32)))) (v' := .int .i64 ((i / 32 : Nat) : Int)) (vint (tdiv32 _ (by omega))) ?_
  refine zi (b := b1) (off := off1) (len := l.length) (cap := cap) (kd := .i64) (i := ((i / 32 : Nat) : Int)) 1 (off1 + i / 32) ?_
  have hc1_ := (Le4 j4 j9 j12 j14).trans j17
  refine zl ((h.cell (i := i / 32) (by omega)).mono hc1_).cells ?_
  refine zz 1 ?_
  refine zs 42 (v := .int .i64 (((i + 1 : Nat) : Int) - 1)) (v' := .int .i64 (i : Int)) (vint (by omega)) ?_
  refine zz 1 ?_
  refine zs 43 (v := .int .i64 (Int.tmod ((i : Int)) (32))) (v' := .int .i64 ((i % 32 : Nat) : Int)) (vint (tmod32 _)) ?_
  refine zz 1 ?_
  refine zs 44 (v := .int .u64 (IntKind.u64.wrap (((i % 32 : Nat) : Int)))) (v' := .int .u64 ((i % 32 : Nat) : Int)) (vint (wu64 (by omega) (by omega))) ?_
  refine zop (at1 [K14] Tryz.f116 [1, 1, 1, 1, 1, 0, 1, 0, 0, 1, 0, 0, 1, 0, 0]) 8 (fun a18 _ C18 hz18 => zC (d := 45) (v := .int .u32 ((l.getD (i / 32) 0 / 2 ^ (i % 32) : Nat) : Int)) C18 kr (run_shrK rfl rfl rfl (by omega)) ?_)
  intro a19 C19
  refine hz18 C19 ?_
  refine zz 1 ?_
  refine zs 46 (v := .int .u32 (Int.tmod (((l.getD (i / 32) 0 / 2 ^ (i % 32) : Nat) : Int)) (2))) (v' := .int .u32 (((val l / 2 ^ i % 2) : Nat) : Int)) (vint (by rw [← digit_limb l h.hlt i (by omega)]; rfl)) ?_
  refine zz 3 ?_
  refine zb 47 (b := ((((val l / 2 ^ i % 2) : Nat) : Int) == 1)) (fun hc20 => ?_) (fun hc20 => ?_)
  ·
   have ht21 : (((val l / 2 ^ i % 2) : Nat) : Int) = 1 := by simpa using hc20
   have hbit : val l / 2 ^ i % 2 = 1 := Int.ofNat_inj.1 ht21
   refine zz 3 ?_
   refine zn (fun b => .slice (some ⟨b, 0, none⟩) 1 1) (.cells #[.int .u32 1] 56 (0, 0)) B17 ?_
   intro b23 w23 Y23 B23 j23 hu23
   obtain ⟨hSx25, j25, hat25⟩ := St.publish B23 (B23.own_ge 0 rfl)
   have B25 : St E0 w X w23 (show_ b23 Y23) [(b4, .cells curq 56 (0, 0))] := hSx25
   have hL25 := one_at (x := 1) hat25 (by omega)
   refine zc B25 (sum5_c _ _ B25.lt _ _ _ ls17 (hL17.mono (Le2 j23 j25)) _ _ _ ([1]) hL25 (by first | omega | (simp; done) | (simp; omega)) (by first | omega | (simp; done) | (simp; omega))) ?_
   rintro v26 w26 B26 j26 hu26 ⟨ad26, len26, cap26, rfl, ls26, hL26, hcan26, hval26⟩
   have hlen26 := hL26.hlen
   have hv126 : val [1] = 1 := rfl
   have hdl26 := canon_dbl hcan26 h2.hlt hlt (by omega)
   refine zz 7 ?_
   have hc2_ := ((hc1_.trans j23).trans j25).trans j26
   refine zc B26 (order5_c _ _ B26.lt _ _ _ ls26 hL26 _ _ _ l2 (h2.mono hc2_) (by first | omega | (simp; done) | (simp; omega)) (by first | omega | (simp; done) | (simp; omega))) ?_
   rintro v28 w28 B28 j28 hu28 rfl
   refine zz 3 ?_
   refine zt 54 (p := (cmpI (val ls26) (val l2)) ≥ 0) (fun ht29 => ?_) (fun ht29 => ?_)
   ·
    have hcmp := cmpI_ge ht29
    obtain ⟨hset1, hset2, hset3⟩ := setbit lq hrowq.lt i q (by rw [hrowq.len]; omega) hvq
    refine zz 5 ?_
    have hc3_ := hc2_.trans j28
    refine zc B28 (diff5_c _ _ B28.lt _ _ _ ls26 (hL26.mono j28) _ _ _ l2 (h2.mono hc3_) (by first | omega | (simp; done) | (simp; omega)) (canon_len ((hL26.mono j28)).hlt hc2 hcmp) (by omega)) ?_
    rintro v31 w31 B31 j31 hu31 ⟨ad31, len31, cap31, rfl, ls31, hL31, hcan31, hval31⟩
    have hlen31 := hL31.hlen
    refine zz 6 ?_
    refine zs 59 (v := .int .i64 (((i + 1 : Nat) : Int) - 1)) (v' := .int .i64 (i : Int)) (vint (by omega)) ?_
    refine zz 1 ?_
    refine zs 60 (v := .int .i64 (IntKind.i64.wrap (Int.tdiv ((i : Int)) (32)))) (v' := .int .i64 ((i / 32 : Nat) : Int)) (vint (tdiv32 _ (by omega))) ?_
    refine zz 2 ?_
    refine zs 62 (v := .int .i64 (((i + 1 : Nat) : Int) - 1)) (v' := .int .i64 (i : Int)) (vint (by omega)) ?_
    refine zz 1 ?_
    refine zs 63 (v := .int .i64 (IntKind.i64.wrap (Int.tdiv ((i : Int)) (32)))) (v' := .int .i64 ((i / 32 : Nat) : Int)) (vint (tdiv32 _ (by omega))) ?_
    refine zi (b := b4) (off := 0) (len := N) (cap := N) (kd := .i64) (i := ((i / 32 : Nat) : Int)) 1 (i / 32) ?_
    refine zl (ad := ⟨b4, i / 32, none⟩) (B31.rowCells 0 rfl hrowq (by have := hrowq.len; (try simp only [List.length_set] at *); omega)) ?_
    refine zz 1 ?_
    refine zs 66 (v := .int .i64 (((i + 1 : Nat) : Int) - 1)) (v' := .int .i64 (i : Int)) (vint (by omega)) ?_
    refine zz 1 ?_
    refine zs 67 (v := .int .i64 (Int.tmod ((i : Int)) (32))) (v' := .int .i64 ((i % 32 : Nat) : Int)) (vint (tmod32 _)) ?_
    refine zz 1 ?_
    refine zs 68 (v := .int .u64 (IntKind.u64.wrap (((i % 32 : Nat) : Int)))) (v' := .int .u64 ((i % 32 : Nat) : Int)) (vint (wu64 (by omega) (by omega))) ?_
    refine zop (at1 [K14] Tryz.f116 [1, 1, 1, 1, 1, 0, 1, 0, 0, 1, 0, 0, 1, 1, 1, 0, 1]) 11 (fun a32 _ C32 hz32 => zC (d := 69) (v := .int .u32 ((2 ^ (i % 32) : Nat) : Int)) C32 kr (run_shl1K rfl rfl rfl (by omega)) ?_)
    intro a33 C33
    refine hz32 C33 ?_
    refine zz 1 ?_
    refine zs 70 (v := .int .u32 (bor32 ((lq.getD (i / 32) 0 : Nat) : Int) ((2 ^ (i % 32) : Nat) : Int))) (v' := .int .u32 ((lq.getD (i / 32) 0 + 2 ^ (i % 32) : Nat) : Int)) (vint hset1) ?_
    refine zi (b := b4) (off := 0) (len := N) (cap := N) (kd := .i64) (i := ((i / 32 : Nat) : Int)) 1 (i / 32) ?_
    refine zop (at1 [K14] Tryz.f116 [1, 1, 1, 1, 1, 0, 1, 0, 0, 1, 0, 0, 1, 1, 1, 0, 1]) 14 (fun a34 _ C34 hz34 => op_storeUZ (y := (lq.getD (i / 32) 0 + 2 ^ (i % 32))) (k := i / 32) (e := ((lq.getD (i / 32) 0 + 2 ^ (i % 32) : Nat) : Int)) 0 C34 B31 (rfl) rfl hrowq (by have := hrowq.len; (try simp only [List.length_set] at *); omega) (hset2) ?_)
    intro cur35 w35 hrow35 B35 j35
    refine hz34 C34 ?_
    refine zz 6 ?_
    refine zs 33 (v := .int .i64 (IntKind.i64.wrap ((((i + 1 : Nat) : Int) - 1) - 1))) (v' := .int .i64 ((i : Int) - 1)) (vint ((wi64 (by omega) (by omega)).trans (by omega))) ?_
    refine zz 2 ?_
    have hc4_ := (Le7 j14 j17 j23 j25 j26 j28 j31).trans j35
    refine znext (fun a h => G14 ((i, ad31, len31, cap31)) _ a h ⟨_, cur35, (lq.set (i / 32) (lq.getD (i / 32) 0 + 2 ^ (i % 32))), ls31, (2 * q + 1), B35, hc4_, hrow35, (hL31.mono j35), hcan31, by rw [hset3, hvq, Nat.pow_succ, Nat.mul_add, Nat.mul_one]; congr 1; ac_rfl, divA hdiv (by rw [hbit]; omega) (by rw [hbit]; omega), by omega, by omega⟩ ?_)
    first | omega | (simp <;> omega)
   have hcmp := cmpI_nge ht29
   refine zz 7 ?_
   refine zs 33 (v := .int .i64 (IntKind.i64.wrap ((((i + 1 : Nat) : Int) - 1) - 1))) (v' := .int .i64 ((i : Int) - 1)) (vint ((wi64 (by omega) (by omega)).trans (by omega))) ?_
   refine zz 2 ?_
   have hc5_ := (Le5 j14 j17 j23 j25 j26).trans j28
   refine znext (fun a h => G14 ((i, ad26, len26, cap26)) _ a h ⟨_, curq, lq, ls26, (2 * q), B28, hc5_, hrowq, (hL26.mono j28), hcan26, by rw [hvq, Nat.pow_succ]; ac_rfl, divB hdiv (by rw [hbit]; omega), by omega, by omega⟩ ?_)
   first | omega | (simp <;> omega)
  have ht36 : (((val l / 2 ^ i % 2) : Nat) : Int) ≠ 1 := by simpa using hc20
  have hbit : val l / 2 ^ i % 2 = 0 := (Nat.mod_two_eq_zero_or_one _).resolve_right (fun e => ht36 (congrArg (fun x : Nat => (x : Int)) e))
  refine zz 7 ?_
  refine zc B17 (order5_c _ _ B17.lt _ _ _ ls17 hL17 _ _ _ l2 (h2.mono hc1_) (by first | omega | (simp; done) | (simp; omega)) (by first | omega | (simp; done) | (simp; omega))) ?_
  rintro v38 w38 B38 j38 hu38 rfl
  refine zz 3 ?_
  refine zt 54 (p := (cmpI (val ls17) (val l2)) ≥ 0) (fun ht39 => ?_) (fun ht39 => ?_)
  ·
   have hcmp := cmpI_ge ht39
   obtain ⟨hset1, hset2, hset3⟩ := setbit lq hrowq.lt i q (by rw [hrowq.len]; omega) hvq
   refine zz 5 ?_
   have hc6_ := hc1_.trans j38
   refine zc B38 (diff5_c _ _ B38.lt _ _ _ ls17 (hL17.mono j38) _ _ _ l2 (h2.mono hc6_) (by first | omega | (simp; done) | (simp; omega)) (canon_len ((hL17.mono j38)).hlt hc2 hcmp) (by omega)) ?_
   rintro v41 w41 B41 j41 hu41 ⟨ad41, len41, cap41, rfl, ls41, hL41, hcan41, hval41⟩
   have hlen41 := hL41.hlen
   refine zz 6 ?_
   refine zs 59 (v := .int .i64 (((i + 1 : Nat) : Int) - 1)) (v' := .int .i64 (i : Int)) (vint (by omega)) ?_
   refine zz 1 ?_
   refine zs 60 (v := .int .i64 (IntKind.i64.wrap (Int.tdiv ((i : Int)) (32)))) (v' := .int .i64 ((i / 32 : Nat) : Int)) (vint (tdiv32 _ (by omega))) ?_
   refine zz 2 ?_
   refine zs 62 (v := .int .i64 (((i + 1 : Nat) : Int) - 1)) (v' := .int .i64 (i : Int)) (vint (by omega)) ?_
   refine zz 1 ?_
   refine zs 63 (v := .int .i64 (IntKind.i64.wrap (Int.tdiv ((i : Int)) (32)))) (v' := .int .i64 ((i / 32 : Nat) : Int)) (vint (tdiv32 _ (by omega))) ?_
   refine zi (b := b4) (off := 0) (len := N) (cap := N) (kd := .i64) (i := ((i / 32 : Nat) : Int)) 1 (i / 32) ?_
   refine zl (ad := ⟨b4, i / 32, none⟩) (B41.rowCells 0 rfl hrowq (by have := hrowq.len; (try simp only [List.length_set] at *); omega)) ?_
   refine zz 1 ?_
   refine zs 66 (v := .int .i64 (((i + 1 : Nat) : Int) - 1)) (v' := .int .i64 (i : Int)) (vint (by omega)) ?_
   refine zz 1 ?_
   refine zs 67 (v := .int .i64 (Int.tmod ((i : Int)) (32))) (v' := .int .i64 ((i % 32 : Nat) : Int)) (vint (tmod32 _)) ?_
   refine zz 1 ?_
   refine zs 68 (v := .int .u64 (IntKind.u64.wrap (((i % 32 : Nat) : Int)))) (v' := .int .u64 ((i % 32 : Nat) : Int)) (vint (wu64 (by omega) (by omega))) ?_
   refine zop (at1 [K14] Tryz.f116 [1, 1, 1, 1, 1, 0, 1, 0, 0, 1, 0, 0, 1, 1, 1, 0, 1]) 11 (fun a42 _ C42 hz42 => zC (d := 69) (v := .int .u32 ((2 ^ (i % 32) : Nat) : Int)) C42 kr (run_shl1K rfl rfl rfl (by omega)) ?_)
   intro a43 C43
   refine hz42 C43 ?_
   refine zz 1 ?_
   refine zs 70 (v := .int .u32 (bor32 ((lq.getD (i / 32) 0 : Nat) : Int) ((2 ^ (i % 32) : Nat) : Int))) (v' := .int .u32 ((lq.getD (i / 32) 0 + 2 ^ (i % 32) : Nat) : Int)) (vint hset1) ?_
   refine zi (b := b4) (off := 0) (len := N) (cap := N) (kd := .i64) (i := ((i / 32 : Nat) : Int)) 1 (i / 32) ?_
   refine zop (at1 [K14] Tryz.f116 [1, 1, 1, 1, 1, 0, 1, 0, 0, 1, 0, 0, 1, 1, 1, 0, 1]) 14 (fun a44 _ C44 hz44 => op_storeUZ (y := (lq.getD (i / 32) 0 + 2 ^ (i % 32))) (k := i / 32) (e := ((lq.getD (i / 32) 0 + 2 ^ (i % 32) : Nat) : Int)) 0 C44 B41 (rfl) rfl hrowq (by have := hrowq.len; (try simp only [List.length_set] at *); omega) (hset2) ?_)
   intro cur45 w45 hrow45 B45 j45
   refine hz44 C44 ?_
   refine zz 6 ?_
   refine zs 33 (v := .int .i64 (IntKind.i64.wrap ((((i + 1 : Nat) : Int) - 1) - 1))) (v' := .int .i64 ((i : Int) - 1)) (vint ((wi64 (by omega) (by omega)).trans (by omega))) ?_
   refine zz 2 ?_
   have hc7_ := (Le4 j14 j17 j38 j41).trans j45
   refine znext (fun a h => G14 ((i, ad41, len41, cap41)) _ a h ⟨_, cur45, (lq.set (i / 32) (lq.getD (i / 32) 0 + 2 ^ (i % 32))), ls41, (2 * q + 1), B45, hc7_, hrow45, (hL41.mono j45), hcan41, by rw [hset3, hvq, Nat.pow_succ, Nat.mul_add, Nat.mul_one]; congr 1; ac_rfl, divA hdiv (by rw [hbit]; omega) (by rw [hbit]; omega), by omega, by omega⟩ ?_)
   first | omega | (simp <;> omega)
  have hcmp := cmpI_nge ht39
  refine zz 7 ?_
  refine zs 33 (v := .int .i64 (IntKind.i64.wrap ((((i + 1 : Nat) : Int) - 1) - 1))) (v' := .int .i64 ((i : Int) - 1)) (vint ((wi64 (by omega) (by omega)).trans (by omega))) ?_
  refine zz 2 ?_
  refine znext (fun a h => G14 ((i, ad17, len17, cap17)) _ a h ⟨_, curq, lq, ls17, (2 * q), B38, (Le3 j14 j17 j38), hrowq, (hL17.mono j38), hcan17, by rw [hvq, Nat.pow_succ]; ac_rfl, divB hdiv (by rw [hbit]; omega), by omega, by omega⟩ ?_)
  first | omega | (simp <;> omega)
 obtain rfl : k = 0 := by omega
 obtain ⟨he1, he2⟩ := divEnd hdiv hlt hvq
 refine zz 9 ?_
 refine zc B14 (cut5_c _ X0 (X0_lt _) _ _ _ lq (URow.limbs (Y := X0) hrowq (B14.get 0 rfl) (fun _ h => h.elim))) ?_ (vs := #[.slice (some ⟨b4, 0, none⟩) N N])
 rintro v47 w47 B47 j47 hu47 rfl
 refine zz 6 ?_
 refine zr' (v := .tuple #[.slice (some ⟨b4, 0, none⟩) (trimN lq) N, .slice adr lr.length capr]) ?_
 exact ⟨B47.upd, _, rfl, _, _, rfl, ⟨_, _, _, rfl, _, URow.limbs (hrowq.trimmed) (B47.get 0 rfl) (fun o h9 => Nat.not_lt.2 (B47.own_ge 0 rfl) (hX _ _ h9)), canon_trimmed _, by rw [val_trimmed]; exact he1⟩, ⟨_, _, _, rfl, lr, ((hr.mono j47)).mono B47.le, hcanr, he2⟩⟩
end Go.Proofs.YtppalofalmieaaaGreat
namespace Go.Proofs.YtppalofalmieaaaGreat
open Go Go.Gv Go.RowKit
set_option maxRecDepth 100000
set_option maxHeartbeats 1000000
theorem div5_c (w : World) (X : Hid) (hX : ∀ k o, X k o → k < w.heap.size) (ad : Option Addr) (len cap : Nat) (l : List Nat) (h : Limbs (rd w X) ad len cap l) (ad2 : Option Addr) (len2 cap2 : Nat) (l2 : List Nat) (h2 : Limbs (rd w X) ad2 len2 cap2 l2) (hm : len ≤ 100000) (hm2 : len2 ≤ 100000) (hc1 : Canon l) (hc2 : Canon l2) (hd : 0 < val l2)  : Calls Tryz.prog 116 #[.slice ad len cap, .slice ad2 len2 cap2] w (Ret E0 w fun w' v => ∃ u u2, v = .tuple #[u, u2] ∧ NatX X w' u (val l / val l2) ∧ NatX X w' u2 (val l % val l2)) := by
  rcases Nat.lt_or_ge l.length l2.length with h9 | h9
  · exact div5_lo w X hX ad len cap l h ad2 len2 cap2 l2 h2 hm hm2 hc1 hc2 hd h9
  · exact div5_hi w X hX ad len cap l h ad2 len2 cap2 l2 h2 hm hm2 hc1 hc2 hd (l.length + 1 - l2.length) (by omega) (by omega)
theorem canon_mod {x lr l2 : List Nat} (hc : Canon lr) (h2 : ∀ y ∈ l2, y < 4294967296) (h0 : 0 < val l2) (h : val lr = val x % val l2) : lr.length ≤ l2.length := canon_len h2 hc (by rw [h]; exact Nat.le_of_lt (Nat.mod_lt _ h0))
theorem canon_pos {l : List Nat} (hc : Canon l) (h : 0 < l.length) : 0 < val l := by
  have := canon_len0 hc
  omega
theorem gcd5_c (w : World) (X : Hid) (hX : ∀ k o, X k o → k < w.heap.size) (ad : Option Addr) (len cap : Nat) (l : List Nat) (h : Limbs (rd w X) ad len cap l) (ad2 : Option Addr) (len2 cap2 : Nat) (l2 : List Nat) (h2 : Limbs (rd w X) ad2 len2 cap2 l2) (hm : len ≤ 100000) (hm2 : len2 ≤ 100000) (hc1 : Canon l) (hc2 : Canon l2) : Calls Tryz.prog 115 #[.slice ad len cap, .slice ad2 len2 cap2] w (Ret E0 w fun w' v => NatX X w' v (Nat.gcd (val l) (val l2))) := by
 obtain rfl := h.hlen
 obtain rfl := h2.hlen
 have hcap := h.hcap
 have hbig := h.hbig
 have hcap2 := h2.hcap
 have hbig2 := h2.hbig
 refine zen Tryz.func115 ?_
 have B0 : St E0 w X w X [] := St.start hX
 refine zz 7 ?_
 refine zlp Tryz.f115 [] [1, 0, 0] (fun ((lb, ad8, la, cap8, ad9, cap9) : List Nat × (Option Addr) × (List Nat) × Nat × (Option Addr) × Nat) => [(0, .slice ad8 la.length cap8), (1, .slice ad9 lb.length cap9)]) (fun ((lb, ad8, la, cap8, ad9, cap9) : List Nat × (Option Addr) × (List Nat) × Nat × (Option Addr) × Nat) w1 => ∃ (Y1 : Hid), St E0 w X w1 Y1 [] ∧ Le (rd w X) (rd w1 Y1) ∧ (Limbs (rd w1 Y1) ad8 la.length cap8 la) ∧ (Limbs (rd w1 Y1) ad9 lb.length cap9 lb) ∧ (Canon la) ∧ (Canon lb) ∧ (la.length ≤ 100000) ∧ (lb.length ≤ 100000) ∧ (Nat.gcd (val la) (val lb) = Nat.gcd (val l) (val l2))) (fun ((lb, ad8, la, cap8, ad9, cap9) : List Nat × (Option Addr) × (List Nat) × Nat × (Option Addr) × Nat) => val lb) (l2, ad, l, cap, ad2, cap2) ?_ ?_
 ·
  refine ⟨_, B0, Le.refl _, h, h2, hc1, hc2, hm, hm2, rfl⟩
 rintro ⟨lb, ad8, la, cap8, ad9, cap9⟩ w2 K2 G2 ⟨Y2, B2, j2, hp2_0, hp2_1, hp2_2, hp2_3, hp2_4, hp2_5, hp2_6⟩
 have ha := hp2_0
 have hb := hp2_1
 have hca := hp2_2
 have hcb := hp2_3
 have hla := hp2_4
 have hlb := hp2_5
 have hg := hp2_6
 refine zz 8 ?_
 refine zt 9 (p := (lb.length : Int) > 0) (fun ht3 => ?_) (fun ht3 => ?_)
 ·
  have hpos := canon_pos hcb (by omega)
  refine zz 8 ?_
  refine zc B2 (div5_c _ _ B2.lt _ _ _ la ha _ _ _ lb hb (by first | omega | (simp; done) | (simp; omega)) (by first | omega | (simp; done) | (simp; omega)) hca hcb hpos) ?_
  rintro v5 w5 B5 j5 hu5 ⟨_, _, rfl, ⟨ad5, len5, cap5, rfl, ls5, hL5, hcan5, hval5⟩, ⟨ae5, le5, ce5, rfl, lr5, hM5, hcam5, hvam5⟩⟩
  obtain rfl := hL5.hlen
  obtain rfl := hM5.hlen
  refine zz 14 ?_
  have hmod := canon_mod hcam5 hb.hlt hpos hvam5
  have hml := Nat.mod_lt (val la) hpos
  refine znext (fun a h => G2 ((lr5, ad9, lb, cap9, ae5, ce5)) _ a h ⟨_, B5, (Le2 j2 j5), (hb.mono j5), hM5, hcb, hcam5, hlb, by omega, by rw [hvam5, ← hg]; exact (Nat.gcd_comm _ _).trans ((Nat.gcd_rec (val lb) (val la)).symm.trans (Nat.gcd_comm _ _))⟩ ?_)
  first | omega | (simp <;> omega)
 have hz : val lb = 0 := by rw [List.eq_nil_of_length_eq_zero (l := lb) (by omega)]; rfl
 rw [hz, Nat.gcd_zero_right] at hg
 refine zz 9 ?_
 refine zop (at1 [K2] Tryz.f115 [1, 1, 0]) 1 (fun a6 _ C6 hz6 => op_nilL (e := 56) (i0 := Tryz.t56) C6 B2 ha (by first | omega | (simp; omega)) ?_)
 intro ad7 cap7 w7 B7 j7 hL7 a8 C8
 refine hz6 C8 ?_
 refine zz 4 ?_
 refine zr' (v := .slice ad7 la.length cap7) ?_
 exact ⟨B7.upd, _, rfl, _, _, _, rfl, _, (hL7).mono B7.le, hca, hg⟩
end Go.Proofs.YtppalofalmieaaaGreat
namespace Go.Proofs.YtppalofalmieaaaGreat
open Go Go.Gv Go.RowKit
set_option maxRecDepth 100000
set_option maxHeartbeats 1000000
theorem one6_c (w : World) (X : Hid) (hX : ∀ k o, X k o → k < w.heap.size) : Calls Tryz.prog 86 #[] w (Ret E0 w fun w' v => ∃ ad cap, v = .slice ad 1 cap ∧ Limbs (rd w' X) ad 1 cap [1]) := by
 refine zen Tryz.func86 ?_
 have B0 : St E0 w X w X [] := St.start hX
 refine zz 7 ?_
 refine zn (fun b => .slice (some ⟨b, 0, none⟩) 1 1) (.cells #[.int .u32 1] 56 (0, 0)) B0 ?_
 intro b3 w3 Y3 B3 j3 hu3
 refine zz 4 ?_
 refine zr' (v := .slice (some ⟨b3, 0, none⟩) 1 1) ?_
 have hrow4 : URow 1 1 #[.int .u32 1] [1] := URow.of [1] (by simp) (by simp [maxLen]) (by simp [U32]) (by simp)
 exact ⟨B3.upd, _, rfl, _, _, rfl, URow.limbs hrow4 (B3.get 0 rfl) (fun o h9 => Nat.not_lt.2 (B3.own_ge 0 rfl) (hX _ _ h9))⟩
theorem canon_one : Canon [1] := .inr (by decide)
end Go.Proofs.YtppalofalmieaaaGreat
namespace Go.Proofs.YtppalofalmieaaaGreat
open Go Go.Gv Go.RowKit
set_option maxRecDepth 100000
set_option maxHeartbeats 1000000
theorem one_iff {l : List Nat} (hl : ∀ x ∈ l, x < 4294967296) (hc : Canon l) : l = [1] ↔ val l = 1 :=
  ⟨fun h => by rw [h]; rfl, fun h => canon_inj hl (by intro x hx; simp at hx; omega) hc canon_one (h.trans rfl)⟩
theorem mk6_c (w : World) (X : Hid) (hX : ∀ k o, X k o → k < w.heap.size) (ad : Option Addr) (len cap : Nat) (l : List Nat) (h : Limbs (rd w X) ad len cap l) (ad2 : Option Addr) (len2 cap2 : Nat) (l2 : List Nat) (h2 : Limbs (rd w X) ad2 len2 cap2 l2) (sg : Bool) (hm : len ≤ 100000) (hm2 : len2 ≤ 100000) (hc1 : Canon l) (hc2 : Canon l2) (hd : 0 < val l2) : Calls Tryz.prog 84 #[.bool sg, .slice ad len cap, .slice ad2 len2 cap2] w (Ret E0 w fun w' v => RatX X w' v (mkRat (sgn sg (val l)) (val l2))) := by
 obtain rfl := h.hlen
 obtain rfl := h2.hlen
 have hcap := h.hcap
 have hbig := h.hbig
 have hcap2 := h2.hcap
 have hbig2 := h2.hbig
 refine zen Tryz.func84 ?_
 have B0 : St E0 w X w X [] := St.start hX
 refine zz 2 ?_
 refine zn pn (.cells #[.bool false, .slice none 0 0, .slice none 0 0] 28 (0, 0)) B0 ?_
 intro b3 w3 Y3 B3 j3 hu3
 refine zz 10 ?_
 refine zb 10 (b := ((l.length : Int) == 0)) (fun hc4 => ?_) (fun hc4 => ?_)
 ·
  have ht5 : (l.length : Int) = 0 := by simpa using hc4
  refine zz 4 ?_
  refine zx 0 #[.bool false, .slice none 0 0, .slice none 0 0] B3 ?_
  intro w6 B6 j6
  refine zz 4 ?_
  refine zrS [.cell 6 28] (v := .agg #[.bool false, .slice none 0 0, .slice none 0 0]) (Res.cM B6 0 Res.nil) ?_
  exact ⟨B6.upd, _, rfl, by rw [(canon_len0 hc1).1 (by omega)]; exact zero_rat _⟩
 have ht7 : (l.length : Int) ≠ 0 := by simpa using hc4
 refine zz 7 ?_
 refine zc B3 (gcd5_c _ _ B3.lt _ _ _ l (h.mono j3) _ _ _ l2 (h2.mono j3) (by first | omega | (simp; done) | (simp; omega)) (by first | omega | (simp; done) | (simp; omega)) hc1 hc2) ?_
 rintro v9 w9 B9 j9 hu9 ⟨ad9, len9, cap9, rfl, ls9, hL9, hcan9, hval9⟩
 obtain rfl := hL9.hlen
 have hgp : 0 < val ls9 := by rw [hval9]; exact Nat.gcd_pos_of_pos_right _ hd
 have hgl := canon_len h2.hlt hcan9 (by rw [hval9]; exact Nat.gcd_le_right _ hd)
 refine zz 7 ?_
 refine zc B9 (div5_c _ _ B9.lt _ _ _ l (h.mono (Le2 j3 j9)) _ _ _ ls9 hL9 (by first | omega | (simp; done) | (simp; omega)) (by first | omega | (simp; done) | (simp; omega)) hc1 hcan9 hgp) ?_
 rintro v11 w11 B11 j11 hu11 ⟨_, _, rfl, ⟨ad11, len11, cap11, rfl, ls11, hL11, hcan11, hval11⟩, ⟨ae11, le11, ce11, rfl, lr11, hM11, hcam11, hvam11⟩⟩
 obtain rfl := hL11.hlen
 obtain rfl := hM11.hlen
 have hql11 := canon_pow hcan11 (k := 100000) (Nat.lt_of_le_of_lt (hval11 ▸ Nat.div_le_self _ _) ((canon_le_iff h.hlt hc1 100000).1 (by omega)))
 refine zz 10 ?_
 refine zc B11 (div5_c _ _ B11.lt _ _ _ l2 (h2.mono (Le3 j3 j9 j11)) _ _ _ ls9 (hL9.mono j11) (by first | omega | (simp; done) | (simp; omega)) (by first | omega | (simp; done) | (simp; omega)) hc2 hcan9 hgp) ?_
 rintro v13 w13 B13 j13 hu13 ⟨_, _, rfl, ⟨ad13, len13, cap13, rfl, ls13, hL13, hcan13, hval13⟩, ⟨ae13, le13, ce13, rfl, lr13, hM13, hcam13, hvam13⟩⟩
 obtain rfl := hL13.hlen
 obtain rfl := hM13.hlen
 have hql13 := canon_pow hcan13 (k := 100000) (Nat.lt_of_le_of_lt (hval13 ▸ Nat.div_le_self _ _) ((canon_le_iff h2.hlt hc2 100000).1 (by omega)))
 refine zz 10 ?_
 refine zc B13 (one6_c _ _ B13.lt) ?_
 rintro v15 w15 B15 j15 hu15 ⟨ad15, cap15, rfl, hL15⟩
 refine zc B15 (EqualNat_c _ _ B15.lt _ _ _ _ (hL13.mono j15) _ _ _ _ hL15) ?_
 rintro v17 w17 B17 j17 hu17 rfl
 refine zz 2 ?_
 refine zb 29 (b := (decide (ls13 = [1]))) (fun hc18 => ?_) (fun hc18 => ?_)
 ·
  have ht19 : ls13 = [1] := of_decide_eq_true hc18
  refine zz 11 ?_
  refine zx 0 #[.bool sg, .slice ad11 ls11.length cap11, .slice none 0 0] B17 ?_
  intro w20 B20 j20
  refine zz 3 ?_
  refine zrS [.cell 6 28] (v := .agg #[.bool sg, .slice ad11 ls11.length cap11, .slice none 0 0]) (Res.cM B20 0 Res.nil) ?_
  have hn0 : val l ≠ 0 := fun e => ht7 (by have := (canon_len0 hc1).2 e; omega)
  have hc1_ := (Le3 j13 j15 j17).trans j20
  exact ⟨B20.upd, _, rfl, low_rat hn0 hd ⟨ls11, ((hL11.mono hc1_)).mono B20.le, hcan11, by rw [← hval9]; exact hval11⟩ (by rw [← hval9, ← hval13, (one_iff hL13.hlt hcan13).1 (by simpa using ht19)]; exact NatR.nil none (by omega))⟩
 have ht21 : ¬ (ls13 = [1]) := of_decide_eq_false hc18
 refine zz 9 ?_
 refine zx 0 #[.bool sg, .slice ad11 ls11.length cap11, .slice ad13 ls13.length cap13] B17 ?_
 intro w22 B22 j22
 refine zz 3 ?_
 refine zrS [.cell 6 28] (v := .agg #[.bool sg, .slice ad11 ls11.length cap11, .slice ad13 ls13.length cap13]) (Res.cM B22 0 Res.nil) ?_
 have hn0 : val l ≠ 0 := fun e => ht7 (by have := (canon_len0 hc1).2 e; omega)
 have hc2_ := (Le3 j13 j15 j17).trans j22
 exact ⟨B22.upd, _, rfl, low_rat hn0 hd ⟨ls11, ((hL11.mono hc2_)).mono B22.le, hcan11, by rw [← hval9]; exact hval11⟩ (by rw [← hval9, ← hval13, den1, if_neg (fun e => by have := (one_iff hL13.hlt hcan13).2 e; simp [this] at ht21)]; exact ⟨ls13, ((hL13.mono (Le3 j15 j17 j22))).mono B22.le, hcan13, rfl⟩)⟩
end Go.Proofs.YtppalofalmieaaaGreat
namespace Go.Proofs.YtppalofalmieaaaGreat
open Go Go.Gv Go.RowKit
set_option maxRecDepth 100000
set_option maxHeartbeats 1000000
theorem CopyLimbs_c (w : World) (X : Hid) (hX : ∀ k o, X k o → k < w.heap.size) (ad : Option Addr) (len cap : Nat) (l : List Nat) (h : Limbs (rd w X) ad len cap l) (hm : len * 4 ≤ 140737488351232) : Calls Tryz.prog 134 #[.slice ad len cap] w (Ret E0 w fun w' v => ∃ ad len cap, v = .slice ad len cap ∧ Limbs (rd w' X) ad len cap l) := by
 obtain rfl := h.hlen
 have hcap := h.hcap
 have hbig := h.hbig
 refine zen Tryz.func134 ?_
 have B0 : St E0 w X w X [] := St.start hX
 refine zz 17 ?_
 refine zlp Tryz.f134 [] [1, 1, 0, 1, 0] (fun ((k, adr, capr) : Nat × (Option Addr) × Nat) => [(0, .slice ad l.length cap), (3, .slice adr k capr), (4, .int .i64 (k : Int))]) (fun ((k, adr, capr) : Nat × (Option Addr) × Nat) w1 => ∃ (Y1 : Hid) (rb1 : List (Nat × Obj)), St E0 w X w1 Y1 (rb1) ∧ Le (rd w X) (rd w1 Y1) ∧ (TRow 56 1 rb1 adr k capr (U32 (l.take k))) ∧ (k ≤ l.length)) (fun ((k, adr, capr) : Nat × (Option Addr) × Nat) => l.length - k) (0, none, 0) ?_ ?_
 ·
  refine ⟨_, [], B0, Le.refl _, TRow.nil _ _, Nat.zero_le _⟩
 rintro ⟨k, adr, capr⟩ w2 K2 G2 ⟨Y2, rb1, B2, j2, hp2_0, hp2_1⟩
 have hr1 := hp2_0
 have hkl := hp2_1
 refine zz 9 ?_
 refine zt 8 (p := (k : Int) < (l.length : Int)) (fun ht3 => ?_) (fun ht3 => ?_)
 ·
  obtain ⟨b1, off1, rfl, _⟩ := h.addr (by omega)
  have hx1 := getD_some (l := l) (k := k) (by omega)
  refine zz 9 ?_
  refine zi (b := b1) (off := off1) (len := l.length) (cap := cap) (kd := .i64) (i := (k : Int)) 1 (off1 + k) ?_
  refine zl ((h.cell (i := k) (by omega)).mono j2).cells ?_
  refine zn (fun b => .slice (some ⟨b, 0, none⟩) 1 1) (.cells #[.int .u32 ((l.getD k 0 : Nat) : Int)] 56 (0, 0)) B2 ?_
  intro b5 w5 Y5 B5 j5 hu5
  refine zop (at1 [K2] Tryz.f134 [1, 1, 0, 1, 0, 0, 1, 0, 0]) 6 (fun a6 _ C6 hz6 => op_appEZ (b := 4) (m := 1) (c := 1) (ad := ⟨b5, 0, none⟩) (news := [.int .u32 ((l.getD k 0 : Nat) : Int)]) (i0 := Tryz.t56) (R1 := []) 1 C6 B5 rfl hr1 (B5.cells 0 rfl rfl) (by omega) (by omega) ?_)
  intro rb7 ad7 cap7 w7 Y7 hrow7 B7 j7 a8 C8
  have hrw7 : TRow 56 1 rb7 ad7 (k + 1) cap7 (U32 (l.take k ++ [l.getD k 0])) := by rw [← U32_snoc]; exact hrow7
  refine hz6 C8 ?_
  refine zz 7 ?_
  refine zw 10 (x := (k : Int) + 1) ?_
  refine zz 2 ?_
  refine znext (fun a h => G2 ((k + 1, ad7, cap7)) _ a h ⟨_, rb7, B7.tail, (Le3 j2 j5 j7), by rw [take_snoc hx1]; exact hrw7, by omega⟩ ?_)
  first | omega | (simp <;> omega)
 refine zz 13 ?_
 refine zr' (v := .slice adr k capr) ?_
 have hlt := h.hlt
 have htk : l.take k = l := List.take_of_length_le (by omega)
 rw [htk] at hr1
 obtain ⟨Yz, hSz, hlez, hRz⟩ := St.pubLimbs (A := []) (B := []) (fun rb => rb) B2 (fun _ => by simp) hr1 (by omega) hlt
 exact ⟨hSz.upd, _, rfl, _, _, _, rfl, hRz.mono hSz.le⟩
theorem CopyNat_c (w : World) (X : Hid) (hX : ∀ k o, X k o → k < w.heap.size) (ad : Option Addr) (len cap : Nat) (l : List Nat) (h : Limbs (rd w X) ad len cap l) (hm : len * 4 ≤ 140737488351232) : Calls Tryz.prog 103 #[.slice ad len cap] w (Ret E0 w fun w' v => ∃ ad len cap, v = .slice ad len cap ∧ Limbs (rd w' X) ad len cap l) := by
 obtain rfl := h.hlen
 have hcap := h.hcap
 have hbig := h.hbig
 refine zen Tryz.func103 ?_
 have B0 : St E0 w X w X [] := St.start hX
 refine zz 8 ?_
 refine zc B0 (CopyLimbs_c _ _ B0.lt _ _ _ _ h (by omega)) ?_
 rintro v3 w3 B3 j3 hu3 ⟨ad3, len3, cap3, rfl, hN3⟩
 refine zz 4 ?_
 refine zr' (v := .slice ad3 len3 cap3) ?_
 exact ⟨B3.upd, _, rfl, _, _, _, rfl, hN3.mono B3.le⟩
theorem CopyRat_c (w : World) (X : Hid) (hX : ∀ k o, X k o → k < w.heap.size) (a : Raw) (ad₁ : Option Addr) (len₁ cap₁ : Nat) (h₁ : Limbs (rd w X) ad₁ len₁ cap₁ a.ln) (ae₁ : Option Addr) (le₁ ce₁ : Nat) (k₁ : Limbs (rd w X) ae₁ le₁ ce₁ a.ld) (hm : len₁ * 4 ≤ 140737488351232) (hm2 : le₁ * 4 ≤ 140737488351232) : Calls Tryz.prog 62 #[.agg #[.bool a.neg, .slice ad₁ len₁ cap₁, .slice ae₁ le₁ ce₁]] w (Ret E0 w fun w' v => RawX X w' v a) := by
 refine zen Tryz.func62 ?_
 have B0 : St E0 w X w X [] := St.start hX
 refine zz 2 ?_
 refine zn pn (.cells #[.bool a.neg, .slice ad₁ len₁ cap₁, .slice ae₁ le₁ ce₁] 28 (0, 0)) B0 ?_
 intro b3 w3 Y3 B3 j3 hu3
 refine zn pn (.cells #[.bool false, .slice none 0 0, .slice none 0 0] 28 (0, 0)) B3 ?_
 intro b5 w5 Y5 B5 j5 hu5
 refine zz 3 ?_
 refine zdr B5 ?_
 refine gz [0] ?_
 refine gw 1 1 ?_
 refine gz [2] ?_
 refine gw 3 1 ?_
 refine gz [5] ?_
 refine gw 6 1 ?_
 refine gC 4 (fun w6 Y6 _ B6 j6 => (CopyNat_c _ _ B6.lt _ _ _ _ (h₁.mono (Le3 j3 j5 j6)) (by omega))) ?_
 rintro v7 w6 Y7 w7 B6 j7 ⟨ad7, len7, cap7, rfl, hN7⟩
 have hc1_ := (Le2 j3 j5).trans j7
 refine gC 7 (fun w8 Y8 _ B8 j8 => (CopyNat_c _ _ B8.lt _ _ _ _ (k₁.mono (hc1_.trans j8)) (by omega))) ?_
 rintro v9 w8 Y9 w9 B8 j9 ⟨ad9, len9, cap9, rfl, hN9⟩
 refine gz [8] ?_
 refine gX 9 0 #[.bool a.neg, .slice ad7 len7 cap7, .slice ad9 len9 cap9] ?_
 intro w10 Y10 j10
 refine gend (fun w11 Y11 B11 j11 => ?_)
 refine zz 2 ?_
 refine zrS [.cell 2 28] (v := .agg #[.bool a.neg, .slice ad7 len7 cap7, .slice ad9 len9 cap9]) (Res.cM B11 0 Res.nil) ?_
 exact ⟨B11.upd, _, rfl, ⟨_, _, _, _, _, _, rfl, (hN7.mono (Le3 j9 j10 j11)).mono B11.le, (hN9.mono (Le2 j10 j11)).mono B11.le⟩⟩
end Go.Proofs.YtppalofalmieaaaGreat
namespace Go.Proofs.YtppalofalmieaaaGreat
open Go Go.Gv Go.RowKit
set_option maxRecDepth 100000
set_option maxHeartbeats 1000000
/-- A number whose parts have no leading zeros and are not long. -/
def Vr (a : Raw) : Prop := Canon a.ln ∧ Canon a.ld ∧ a.ln.length ≤ 1000 ∧ a.ld.length ≤ 1000
theorem mk6_r (w : World) (X : Hid) (hX : ∀ k o, X k o → k < w.heap.size) (ad : Option Addr) (len cap : Nat) (l : List Nat) (h : Limbs (rd w X) ad len cap l) (ad2 : Option Addr) (len2 cap2 : Nat) (l2 : List Nat) (h2 : Limbs (rd w X) ad2 len2 cap2 l2) (sg : Bool) (hm : len ≤ 100000) (hm2 : len2 ≤ 100000) (hc1 : Canon l) (hc2 : Canon l2) (hd : 0 < val l2) (z : Rat) (hz : mkRat (sgn sg (val l)) (val l2) = z) : Calls Tryz.prog 84 #[.bool sg, .slice ad len cap, .slice ad2 len2 cap2] w (Ret E0 w fun w' v => RatX X w' v z) := by
  subst hz; exact mk6_c w X hX ad len cap l h ad2 len2 cap2 l2 h2 sg hm hm2 hc1 hc2 hd
end Go.Proofs.YtppalofalmieaaaGreat
namespace Go.Proofs.YtppalofalmieaaaGreat
open Go Go.Gv Go.RowKit
set_option maxRecDepth 100000
set_option maxHeartbeats 1000000
theorem ratE_fits {z : Rat} (h : z.num.natAbs < K128 ∧ den1 z.den < K128) : ratE z = 0 := if_pos h
end Go.Proofs.YtppalofalmieaaaGreat
namespace Go.Proofs.YtppalofalmieaaaGreat
open Go Go.Gv Go.RowKit
set_option maxRecDepth 100000
set_option maxHeartbeats 1000000
/-- A number as an operation answers it. -/
def Nf (r : Raw) : Prop := r = .of r.rat ∧ ratE r.rat = 0
theorem Nf.zero : Nf .zero := by
  unfold Nf; rw [zero_rat0]; exact ⟨by decide, ratE_fits ⟨Nat.pow_pos (by omega), by show 0 < _; exact Nat.pow_pos (by omega)⟩⟩
theorem Nf.op {a b : Raw} {z : Rat} (h : opE a b z = 0) : Nf (opR a b z) := by
  have h1 : opR a b z = .of z := if_pos h
  rw [h1, Nf, Raw.of_rat]; exact ⟨rfl, (or2_zero h).2⟩
theorem Nf.chk {r : Raw} (h : Nf r) : r.chk = 0 := by rw [h.1]; exact Raw.of_chk h.2
section
variable {r x y : Raw} {xs ys : List Raw} {k : Nat}
end
theorem int6 (n : Int) : mkRat (sgn (decide (n < 0)) n.natAbs) 1 = (n : Rat) := by rw [sgn_num]; first | exact Rat.mkRat_one _ | simp [Rat.mkRat_one] | (rw [Rat.mkRat_eq_div]; simp)
theorem nat6_c (w : World) (X : Hid) (hX : ∀ k o, X k o → k < w.heap.size) (n : Int) (h1 : -9223372036854775808 ≤ n) (h2 : n ≤ 9223372036854775807) : Calls Tryz.prog 85 #[.int .i64 n] w (Ret E0 w fun w' v => NatX X w' v n.natAbs) := by
 refine zen Tryz.func85 ?_
 have B0 : St E0 w X w X [] := St.start hX
 refine zz 12 ?_
 refine zt 4 (p := (n) < 0) (fun ht2 => ?_) (fun ht2 => ?_)
 ·
  refine zz 5 ?_
  refine zs 6 (v := .int .u64 (IntKind.u64.wrap (n))) (v' := .int .u64 (n + 18446744073709551616)) (vint (by rw [wrap_u64]; omega)) ?_
  refine zz 1 ?_
  refine zs 7 (v := .int .u64 (IntKind.u64.wrap ((0 : Int) - (n + 18446744073709551616)))) (v' := .int .u64 ((n.natAbs : Nat) : Int)) (vint (by rw [wrap_u64]; omega)) ?_
  refine zc B0 (from5_c _ _ B0.lt n.natAbs (by omega)) ?_
  rintro v4 w4 B4 j4 hu4 ⟨ad4, len4, cap4, rfl, hN4⟩
  refine zz 5 ?_
  refine zr' (v := .slice ad4 len4 cap4) ?_
  exact ⟨B4.upd, _, rfl, B4.lastN hN4⟩
 refine zz 7 ?_
 refine zs 10 (v := .int .u64 (IntKind.u64.wrap (n))) (v' := .int .u64 ((n.natAbs : Nat) : Int)) (vint (by rw [wrap_u64]; omega)) ?_
 refine zc B0 (from5_c _ _ B0.lt n.natAbs (by omega)) ?_
 rintro v6 w6 B6 j6 hu6 ⟨ad6, len6, cap6, rfl, hN6⟩
 refine zz 4 ?_
 refine zr' (v := .slice ad6 len6 cap6) ?_
 exact ⟨B6.upd, _, rfl, B6.lastN hN6⟩
theorem rFrom6_c (w : World) (X : Hid) (hX : ∀ k o, X k o → k < w.heap.size) (n : Int) (h1 : -9223372036854775808 ≤ n) (h2 : n ≤ 9223372036854775807) : Calls Tryz.prog 32 #[.int .i64 n] w (Ret E0 w fun w' v => RawX X w' v (.of (n : Rat))) := by
 refine zen Tryz.func32 ?_
 have B0 : St E0 w X w X [] := St.start hX
 refine zz 2 ?_
 refine zn pn (.cells #[.bool false, .slice none 0 0, .slice none 0 0] 28 (0, 0)) B0 ?_
 intro b3 w3 Y3 B3 j3 hu3
 refine zz 7 ?_
 refine zc B3 (nat6_c _ _ B3.lt n (by omega) (by omega)) ?_
 rintro v5 w5 B5 j5 hu5 ⟨ad5, len5, cap5, rfl, ls5, hL5, hcan5, hval5⟩
 obtain rfl := hL5.hlen
 have hsh5 : ls5.length ≤ 100000 := by have := canon_pow hcan5 (k := 3) (by rw [hval5]; exact Nat.lt_of_lt_of_le (show _ < 18446744073709551616 by omega) (by decide)); omega
 refine zc B5 (one6_c _ _ B5.lt) ?_
 rintro v7 w7 B7 j7 hu7 ⟨ad7, cap7, rfl, hL7⟩
 refine zc B7 (mk6_r _ _ B7.lt _ _ _ ls5 (hL5.mono j7) _ _ _ ([1]) hL7 _ (by omega) (by simp) hcan5 canon_one (by decide) (n : Rat) (by rw [hval5]; exact int6 n)) ?_
 rintro v9 w9 B9 j9 hu9 ⟨ad9, len9, cap9, ae9, le9, ce9, rfl, hN9, hD9⟩
 refine zx 0 #[.bool (decide ((n : Rat).num < 0)), .slice ad9 len9 cap9, .slice ae9 le9 ce9] B9 ?_
 intro w10 B10 j10
 refine zz 3 ?_
 refine zrS [.cell 2 28] (v := .agg #[.bool (decide ((n : Rat).num < 0)), .slice ad9 len9 cap9, .slice ae9 le9 ce9]) (Res.cM B10 0 Res.nil) ?_
 exact ⟨B10.upd, _, rfl, RatX.raw ⟨_, _, _, _, _, _, rfl, hN9.mono (Le.trans j10 B10.le), hD9.mono (Le.trans j10 B10.le)⟩⟩
theorem rOf6_c (w : World) (X : Hid) (hX : ∀ k o, X k o → k < w.heap.size) (p q : Int) (h1 : -9223372036854775808 ≤ p) (h2 : p ≤ 9223372036854775807) (h3 : -9223372036854775808 ≤ q) (h4 : q ≤ 9223372036854775807) (hq : q ≠ 0) : Calls Tryz.prog 33 #[.int .i64 p, .int .i64 q] w (Ret E0 w fun w' v => ∃ u, v = .tuple #[u, .int .i64 0] ∧ RawX X w' u (.of (mkRat (sgn (decide (p < 0) != decide (q < 0)) p.natAbs) q.natAbs))) := by
 refine zen Tryz.func33 ?_
 have B0 : St E0 w X w X [] := St.start hX
 refine zz 2 ?_
 refine zn pn (.cells #[.bool false, .slice none 0 0, .slice none 0 0] 28 (0, 0)) B0 ?_
 intro b3 w3 Y3 B3 j3 hu3
 refine zz 10 ?_
 refine zb 7 (b := ((q) == 0)) (fun hc4 => ?_) (fun hc4 => ?_)
 ·
  have ht5 : (q) = 0 := by simpa using hc4
  omega
 have ht6 : (q) ≠ 0 := by simpa using hc4
 refine zz 11 ?_
 refine zc B3 (nat6_c _ _ B3.lt p (by omega) (by omega)) ?_
 rintro v8 w8 B8 j8 hu8 ⟨ad8, len8, cap8, rfl, ls8, hL8, hcan8, hval8⟩
 obtain rfl := hL8.hlen
 have hsh8 : ls8.length ≤ 100000 := by have := canon_pow hcan8 (k := 3) (by rw [hval8]; exact Nat.lt_of_lt_of_le (show _ < 18446744073709551616 by omega) (by decide)); omega
 refine zz 1 ?_
 refine zc B8 (nat6_c _ _ B8.lt q (by omega) (by omega)) ?_
 rintro v10 w10 B10 j10 hu10 ⟨ad10, len10, cap10, rfl, ls10, hL10, hcan10, hval10⟩
 obtain rfl := hL10.hlen
 have hsh10 : ls10.length ≤ 100000 := by have := canon_pow hcan10 (k := 3) (by rw [hval10]; exact Nat.lt_of_lt_of_le (show _ < 18446744073709551616 by omega) (by decide)); omega
 refine zc B10 (mk6_r _ _ B10.lt _ _ _ ls8 (hL8.mono j10) _ _ _ ls10 hL10 _ (by omega) (by omega) hcan8 hcan10 (by rw [hval10]; omega) (mkRat (sgn (decide (p < 0) != decide (q < 0)) p.natAbs) q.natAbs) (by rw [hval8, hval10])) ?_
 rintro v12 w12 B12 j12 hu12 ⟨ad12, len12, cap12, ae12, le12, ce12, rfl, hN12, hD12⟩
 refine zx 0 #[.bool (decide ((mkRat (sgn (decide (p < 0) != decide (q < 0)) p.natAbs) q.natAbs).num < 0)), .slice ad12 len12 cap12, .slice ae12 le12 ce12] B12 ?_
 intro w13 B13 j13
 refine zz 4 ?_
 refine zrS [.cell 4 28, .tmp 5] (v := .tuple #[.agg #[.bool (decide ((mkRat (sgn (decide (p < 0) != decide (q < 0)) p.natAbs) q.natAbs).num < 0)), .slice ad12 len12 cap12, .slice ae12 le12 ce12], .int .i64 0]) (Res.cM B13 0 (Res.tZ Res.nil)) ?_
 exact ⟨B13.upd, _, rfl, _, rfl, RatX.raw ⟨_, _, _, _, _, _, rfl, hN12.mono (Le.trans j13 B13.le), hD12.mono (Le.trans j13 B13.le)⟩⟩
end Go.Proofs.YtppalofalmieaaaGreat
/- Closures and iterators walked into where they are called. By an AI agent; over any program. -/
namespace Go.Gv
open Go.RowKit
attribute [local semireducible] Go
section
variable {r : Option Nat} {m : Nat} {P : Program} {Q : Exit → Act → World → Prop} {n : Nat} {D : List Deferred} {w : World} {c : Cf} {E : Nat → Prop} {w0 : World} {X Y : Hid} {M : List (Nat × Obj)}
/-- The call in hand, its body walked here. -/
theorem zci {f : FuncId} {vs : Array Value} {fn : Func} (hfn : P.funcs[f]? = some fn) (h : ∀ R : Ending → World → Prop, (∀ v w1, Go r m P Q n D w1 (nv c v) → R (.returned v) w1) → Go none 0 P (bodyPost P fn R) fn.ntmps [] w ⟨.code (bd fn), [], argsL 0 vs.toList⟩)
    (hb : fn.body = some (bd fn) := by rfl) (hle : Nat.ble vs.toList.length fn.ntmps = true := by kernel_rfl) (hv : clV c = some (f, vs) := by kernel_rfl) (hc : isv n c = true := by kernel_rfl) (ho : (cop c).op = .call { callee := .value (clF (cop c)), args := clA (cop c), argTypes := clT (cop c) } := by kernel_rfl)
    (hcall : ∀ w, (callFunc f vs).run P w = .ok (.enter f vs) w := by intro w; kernel_rfl) : Go r m P Q n D w c := by
  obtain ⟨cap, hf, ha⟩ := clV_spec hv
  refine z_op (isv_spec hc).1 fun _ hF => op_callF (Φ := fun w1 v => Go r m P Q n D w1 (nv c v)) hF (isv_spec hc).2 ho hf ha hcall (zen hfn (h _ fun v w1 hg => ⟨v, rfl, hg⟩) hb hle) fun v w1 h1 a1 C1 => (nv_eq c v ▸ h1 : Go r m P Q n D w1 (nv0 c v)) a1 C1
theorem zenM {f : FuncId} {args : Array Value} {R : Ending → World → Prop} {fn : Func} (hf : P.funcs[f]? = some fn) (h : Go none 0 P (bodyPostM (FF none) 0 P fn R) fn.ntmps [] w ⟨.code (bd fn), [], argsL 0 args.toList⟩) (hb : fn.body = some (bd fn) := by rfl) (hle : Nat.ble args.toList.length fn.ntmps = true := by kernel_rfl) : Calls P f args w R :=
  m_enter hf hb rfl rfl hle fun a hF => h a hF
/-! ### Yield -/
/-- The call in hand is a yield. -/
theorem zyld {l : Nat} {vs : Array Value} (h : ∀ R : Ending → World → Prop, (∀ v w1, Go none 0 P Q n D w1 (nv c v) → R (.returned v) w1) → YieldAt (FF none) 0 P l vs w R)
    (hf : evL c.L (clF (cop c)) = .func (.yield l) #[] #[] := by kernel_rfl) (hargs : (clA (cop c)).map (evL c.L) = vs := by kernel_rfl) (hc : isv n c = true := by kernel_rfl) (ho : (cop c).op = .call { callee := .value (clF (cop c)), args := clA (cop c), argTypes := clT (cop c) } := by kernel_rfl) : Go none 0 P Q n D w c := by
  intro a hF
  have hc0 := isv_spec hc
  obtain ⟨cu, k, L⟩ := c
  match cu, hc, hF, h, hf, hargs, ho, hc0 with
  | .ops o (x :: l'), hc, hF, h, hf, hargs, ho, hc0 =>
    have hck : chk o L x (cd ⟨.ops o (x :: l'), k, L⟩) n = true := by
      have h1 := hc0.1
      simp only [isop, cops, cop, Bool.and_eq_true] at h1
      have h2 := hc0.2
      simp only [opk, Bool.and_eq_true] at h2
      simp only [chk, Bool.and_eq_true]
      exact ⟨h1.2.1, h2.1, h2.2⟩
    exact wpl_yield (R := fun e w1 => ∃ v, e = .returned v ∧ Go none 0 P Q n D w1 (nv ⟨.ops o (x :: l'), k, L⟩ v)) hF hck ho hf hargs (h _ fun v w1 hg => ⟨v, rfl, hg⟩) (fun _ _ h => h.elim fun v h => ⟨v, h.1⟩) (fun v w1 h1 a1 C1 => by
      obtain ⟨v', e, hg⟩ := h1
      cases e
      exact (nv_eq (⟨.ops o (x :: l'), k, L⟩ : Cf) v ▸ hg : Go none 0 P Q n D w1 (nv0 _ v)) a1 C1)
  | .ops o [], hc, _, _, _, _, _, _ => simp [isv, isop] at hc
  | .code _, hc, _, _, _, _, _, _ => simp [isv, isop] at hc
  | .ex _, hc, _, _, _, _, _, _ => simp [isv, isop] at hc
end
section
variable {r : Option Nat} {m : Nat} {P : Program} {Q : Exit → Act → World → Prop} {n : Nat} {D : List Deferred} {w : World} {c : Cf} {E : Nat → Prop} {w0 : World} {X Y : Hid} {M : List (Nat × Obj)}
theorem zqq {e : Exit} {k : List Fm} {L : List (Nat × Value)} {a : Act} (hF : Fr n a L D) (h : Go r m P Q n D w ⟨.ex e, k, L⟩) : QQ r m P Q k e a w := h a hF
def rgX : Code → Operand
  | .rangeFunc x _ _ _ => x
  | _ => .tmp 0
def rgP : Code → Array Tmp
  | .rangeFunc _ ps _ _ => ps
  | _ => #[]
def rgA : Code → Code
  | .rangeFunc _ _ x _ => x
  | c => c
def rgB : Code → Code
  | .rangeFunc _ _ _ x => x
  | c => c
/-- A range over a function: its iterator is walked, with the round's code in the frame a. -/
theorem zrng {f : FuncId} {caps : Array Value} (hS : St E w0 X w Y M)
    (k : ∀ (a : Act) (rec : Loop) l b w1 Y1, Fr n a c.L D → RecOk rec a.tmps (rgP (cuC c)) (rgA (cuC c)) (rgB (cuC c)) → St E w0 X w1 Y1 ((l, .loop rec) :: (b, .deferred (some [])) :: M) → Le (rd w Y) (rd w1 Y1) → Upd E0 w w1 →
      Calls P f (#[.func (.yield l) #[] #[]] ++ caps) w1 (fun e w3 => (∃ v, e = .returned v) ∧ RangeEnd P (QQ none 0 P Q c.k) (Act.marked a b) l w3))
    (hg : evL c.L (rgX (cuC c)) = .func (.func f) #[] caps := by kernel_rfl) (hcov : cov c.L (rgX (cuC c)) = true := by kernel_rfl) (hx : c.cu = .code (cuC c) := by kernel_rfl) (hr : cuC c = .rangeFunc (rgX (cuC c)) (rgP (cuC c)) (rgA (cuC c)) (rgB (cuC c)) := by kernel_rfl)
    (hcall : ∀ args w, (callFunc f args).run P w = .ok (.enter f args) w) : Go none 0 P Q n D w c := by
  intro a hF
  rw [hx, hr]
  exact i_range2 hF hS hcov hg hcall fun rec l b w1 Y1 h1 h2 h3 h4 => k a rec l b w1 Y1 hF h1 h2 h3 h4
section
variable {rec : Loop} {tm : Array Value} {ps : Array Tmp} {assign body : Code} {l : Nat} {R : Ending → World → Prop} {L : List (Nat × Value)} {a : Act}
def rpost (P : Program) (l : Nat) (R : Ending → World → Prop) (body : Code) : Exit → Act → World → Prop :=
  Exit.then (fun a₁ w₁ => ∃ w₂, (Instr.beginRound l).run P w₁ = .ok () w₂ ∧ body.wpIn (FF (some l)) 0 P (roundPost P l R) a₁ w₂) (fun _ _ _ => False)
/-- A round begins: the variables are set. -/
theorem zround2 (i : Nat) {p q : Nat} {v u : Value} (hr : RecOk rec a.tmps #[p, q] assign body) (hF : Fr n a L D) (hS : St E w0 X w Y M) (h : Go (some l) 0 P (rpost P l R body) n [] w ⟨.code assign, [], (q, u) :: (p, v) :: L⟩)
    (hi : M[i]? = some (l, .loop rec) := by rfl) (hp : Nat.blt p n = true := by kernel_rfl) (hq : Nat.blt q n = true := by kernel_rfl) : YieldAt (FF none) 0 P l #[v, u] w R := by
  refine y_round i hS hi (by rw [hr.hps]; rfl) ?_
  rw [hr.ha, hr.hb, hr.hps, hr.ht]
  exact h _ (fr_round2 hF (by simpa [Nat.blt_eq] using hp) (by simpa [Nat.blt_eq] using hq))
/-- .. its body. -/
theorem zbody (i : Nat) (hr : RecOk rec tm ps assign body) (hS : St E w0 X w Y M) (h : ∀ w1, St E w0 X w1 Y (M.set i (l, .loop (busyL rec))) → Le (rd w Y) (rd w1 Y) → Go (some l) 0 P (roundPost P l R) n D w1 ⟨.code body, [], c.L⟩)
    (hi : M[i]? = some (l, .loop rec) := by rfl) (hx : c.cu = .ex .normal := by kernel_rfl) (hk : c.k = [] := by kernel_rfl) : Go (some l) 0 P (rpost P l R body) n D w c := by
  intro a hF
  rw [hx, hk]
  exact y_begin i hS hi hr.hs fun w1 h1 h2 => h w1 h1 h2 a hF
theorem busy_rec (hr : RecOk rec tm ps assign body) : ({ busyL rec with state := .ready, pending := none } : Loop) = rec := by
  obtain ⟨h1, h2, _, _, _, _⟩ := hr
  cases rec; simp only at h1 h2; subst h1; subst h2; rfl
/-- .. its end: the next one. -/
theorem zrnext (i : Nat) (hr : RecOk rec tm ps assign body) (hS : St E w0 X w Y M) (h : ∀ w1, St E w0 X w1 Y (M.set i (l, .loop rec)) → Le (rd w Y) (rd w1 Y) → R (.returned (.bool true)) w1)
    (hi : M[i]? = some (l, .loop (busyL rec)) := by rfl) (hx : c.cu = .ex .normal := by kernel_rfl) (hk : c.k = [] := by kernel_rfl) : Go (some l) 0 P (roundPost P l R) n D w c := by
  intro a hF
  rw [hx, hk]
  show roundPost P l R .normal a w
  refine y_next i hS hi fun w1 h1 h2 => h w1 ?_ h2
  rw [busy_rec hr] at h1
  exact h1
/-- .. a return out of it. -/
theorem zrret (i : Nat) (hS : St E w0 X w Y M) (h : ∀ w1, St E w0 X w1 Y (M.set i (l, .loop (retL rec))) → Le (rd w Y) (rd w1 Y) → R (.returned (.bool false)) w1)
    (hi : M[i]? = some (l, .loop (busyL rec)) := by rfl) (hx : c.cu = .ex .ret := by kernel_rfl) (hk : c.k = [] := by kernel_rfl) : Go (some l) 0 P (roundPost P l R) n D w c := by
  intro a hF
  rw [hx, hk]
  show roundPost P l R .ret a w
  exact y_ret i hS hi fun w1 h1 h2 => h w1 h1 h2
/-- The range's end: behind it. -/
theorem zrend (i b : Nat) {k : List Fm} (hr : RecOk rec tm ps assign body) (hF : Fr n a L D) (hS : St E w0 X w Y M) (h : ∀ w1, St E w0 X w1 Y (M.set i (l, .loop (exhL rec))) → Le (rd w Y) (rd w1 Y) → Go none 0 P Q n (mark b :: D) w1 ⟨.ex .normal, k, L⟩)
    (hi : M[i]? = some (l, .loop rec) := by rfl) : RangeEnd P (QQ none 0 P Q k) (Act.marked a b) l w := by
  refine ⟨rec, hS.get i hi, by rw [hr.hs]; simp, ?_⟩
  split
  · exact zqq (fr_marked b hF) (h _ (hS.putObj i hi).1 (hS.putObj (o' := .loop (exhL rec)) i hi).2)
  · rename_i c hc; rw [hr.hp] at hc; cases hc
theorem zrendR (i b : Nat) {k : List Fm} (hF : Fr n a L D) (hS : St E w0 X w Y M) (h : ∀ w1, St E w0 X w1 Y (M.set i (l, .loop (exhL (retL rec)))) → Le (rd w Y) (rd w1 Y) → Go none 0 P Q n (mark b :: D) w1 ⟨.ex .ret, k, L⟩)
    (hi : M[i]? = some (l, .loop (retL rec)) := by rfl) : RangeEnd P (QQ none 0 P Q k) (Act.marked a b) l w := by
  refine ⟨retL rec, hS.get i hi, by simp [retL], ?_⟩
  exact i_ret (zqq (fr_marked b hF) (h _ (hS.putObj i hi).1 (hS.putObj (o' := .loop (exhL (retL rec))) i hi).2))
end
/-! ### Returns -/
def finR (c : Cf) : Bool := (match c.cu with
  | .ex .ret => true
  | .ex .normal => true
  | _ => false) && c.k.isEmpty
theorem bodyM_norm {fn : Func} {R : Ending → World → Prop} {a : Act} (h : bodyPostM (FF none) 0 P fn R .ret a w) : bodyPostM (FF none) 0 P fn R .normal a w := h
/-- .. and has once. -/
theorem zrM1 (i : Nat) (rs : List ResultVar) {b : Nat} {v : Value} {fn : Func} {R : Ending → World → Prop} (hS : St E w0 X w Y M) (h : ∀ w1, St E w0 X w1 Y (M.set i (b, .deferred none)) → Le (rd w Y) (rd w1 Y) → Res P c.L w1 rs (unp rs.length v) ∧ R (.returned v) w1)
    (hi : M[i]? = some (b, .deferred (some [])) := by rfl) (hr : fn.results = rs.toArray := by kernel_rfl) (hv : pack (unp rs.length v) = v := by kernel_rfl) (hf : finR c = true := by kernel_rfl) : Go none 0 P (bodyPostM (FF none) 0 P fn R) n [mark b] w c := by
  intro a hF
  simp only [finR, Bool.and_eq_true] at hf
  obtain ⟨cu, k, L⟩ := c
  match cu, k, hf with
  | .ex .ret, [], _ => exact m_ret1 i hF hS hi hr hv h
  | .ex .normal, [], _ => exact bodyM_norm (m_ret1 i hF hS hi hr hv h)
end
/-! ### In a region that draws its order -/
theorem gci {R : Rg} {c : Array Bool × List (Nat × Value)} {M : List (Nat × Obj)} {r : Rd} (i : Nat) {f : FuncId} {vs : Array Value} {fn : Func} (hfn : R.P.funcs[f]? = some fn)
    (h : ∀ w Y, St R.E R.w0 R.X w Y M → Le r (rd w Y) → ∀ R' : Ending → World → Prop, (∀ v w1 Y1 M1, St R.E R.w0 R.X w1 Y1 M1 → Le r (rd w1 Y1) → (begun R.T (c.1.setIfInBounds i true) = true ∨ ((∀ p ∈ R.M0, p ∈ M) → ∀ p ∈ R.M0, p ∈ M1)) → Gt R [] (c.1.setIfInBounds i true, ((opAt R.ops i).dst.getD 0, v) :: c.2) M1 (rd w1 Y1) → R' (.returned v) w1) →
      Go none 0 R.P (bodyPost R.P fn R') fn.ntmps [] w ⟨.code (bd fn), [], argsL 0 vs.toList⟩)
    (hv : gV R c i = some (f, vs) := by kernel_rfl) (hb : fn.body = some (bd fn) := by rfl) (hle : Nat.ble vs.toList.length fn.ntmps = true := by kernel_rfl) (hi : R.ops[i]? = some (opAt R.ops i) := by kernel_rfl) (hr : Region.ready .any R.ops c.1 = [i] := by kernel_rfl)
    (hc : opk c.2 (opAt R.ops i) ((opAt R.ops i).dst.getD 0) R.n = true := by kernel_rfl) (hw : wantL R.ops c.2 (opAt R.ops i) true = true := by kernel_rfl)
    (ho : (opAt R.ops i).op = .call { callee := .value (clF (opAt R.ops i)), args := clA (opAt R.ops i), argTypes := clT (opAt R.ops i) } := by kernel_rfl)
    (hcall : ∀ w, (callFunc f vs).run R.P w = .ok (.enter f vs) w := by intro w; kernel_rfl) : Gt R [] c M r := by
  obtain ⟨cap, hf, ha⟩ := gV_spec hv
  refine gO i (fun a w Y hF hS hle' => ?_) hi hr hw
  refine op_callF (Φ := fun w1 v => ∃ Y1 M1, St R.E R.w0 R.X w1 Y1 M1 ∧ Le r (rd w1 Y1) ∧ (begun R.T (c.1.setIfInBounds i true) = true ∨ ((∀ p ∈ R.M0, p ∈ M) → ∀ p ∈ R.M0, p ∈ M1)) ∧ Gt R [] (c.1.setIfInBounds i true, ((opAt R.ops i).dst.getD 0, v) :: c.2) M1 (rd w1 Y1)) hF hc ho hf ha hcall (zen hfn (h w Y hS hle' _ fun v w1 Y1 M1 h1 h2 h3 h4 => ⟨v, rfl, Y1, M1, h1, h2, h3, h4⟩) hb hle) ?_
  rintro v w1 ⟨Y1, M1, h1, h2, h3, h4⟩ a1 C1
  exact ⟨_, M1, rd w1 Y1, Y1, C1, h1, Le.refl _, h3.imp id fun h3 => ⟨h3, h2⟩, h4⟩
end Go.Gv
/- Comparisons of structs; rows that are written into. By an AI agent; over any program. -/
namespace Go.Gv
open Go.RowKit
theorem eqIn_int {P : Program} {w : World} {d : Nat} {t : TypeId} {k k' : IntKind} {a b : Int} (ht : P.underlying t = some (.int k')) : (Op.equalIn (d + 1) t (.int k a) (.int k b)).run P w = .ok (a == b) w := by
  unfold Op.equalIn
  simp only [underlying, ht, Sem.run_bind, Sem.run_pure, run_program, Result.andThen_ok]
  simp
theorem part_int {P : Program} {w : World} {t : TypeId} {k' : IntKind} {cs : Array Value} {i : Nat} {v : Value} (ht : P.underlying t = some (.int k')) (h : cs[i]? = some v) : (part t cs i).run P w = .ok v w := by
  unfold part isAgg
  simp only [underlying, ht, Sem.run_bind, Sem.run_pure, run_program, Result.andThen_ok]
  simp [h]
theorem eqIn_3 {P : Program} {w : World} {d : Nat} {t : TypeId} {f1 f2 f3 : Field} {k1 k2 k3 q1 q2 q3 : IntKind} {a1 a2 a3 b1 b2 b3 : Int} (ht : P.underlying t = some (.struct #[f1, f2, f3])) (hs : P.stoodInHeld t = false) (h1 : P.underlying f1.type = some (.int q1)) (h2 : P.underlying f2.type = some (.int q2)) (h3 : P.underlying f3.type = some (.int q3))
  (n1 : f1.name ≠ "_") (n2 : f2.name ≠ "_") (n3 : f3.name ≠ "_") (p1 : f1.offset = 0) (p2 : f2.offset = 1) (p3 : f3.offset = 2)  :
  (Op.equalIn (d + 1 + 1) t (.agg #[.int k1 a1, .int k2 a2, .int k3 a3]) (.agg #[.int k1 b1, .int k2 b2, .int k3 b3])).run P w = .ok (a1 == b1 && (a2 == b2 && a3 == b3)) w := by
  unfold Op.equalIn
  simp only [underlying, ht, Sem.run_bind, Sem.run_pure, run_program, Result.andThen_ok, hs]
  simp [n1, n2, n3, p1, p2, p3]
  simp only [part_int (cs := #[Value.int k1 a1, .int k2 a2, .int k3 a3]) (i := 0) h1 rfl, part_int (cs := #[Value.int k1 b1, .int k2 b2, .int k3 b3]) (i := 0) h1 rfl, part_int (cs := #[Value.int k1 a1, .int k2 a2, .int k3 a3]) (i := 1) h2 rfl, part_int (cs := #[Value.int k1 b1, .int k2 b2, .int k3 b3]) (i := 1) h2 rfl, part_int (cs := #[Value.int k1 a1, .int k2 a2, .int k3 a3]) (i := 2) h3 rfl, part_int (cs := #[Value.int k1 b1, .int k2 b2, .int k3 b3]) (i := 2) h3 rfl, Result.andThen_ok]
  simp only [List.getElem_toArray, List.getElem_cons_succ, List.getElem_cons_zero]
  have e1 := eqIn_int (P := P) (w := w) (d := d) (a := a1) (b := b1) (k := k1) h1
  have e2 := eqIn_int (P := P) (w := w) (d := d) (a := a2) (b := b2) (k := k2) h2
  have e3 := eqIn_int (P := P) (w := w) (d := d) (a := a3) (b := b3) (k := k3) h3
  rw [e1]
  cases a1 == b1
  · simp
  simp only [Result.andThen_ok]
  rw [if_neg (by simp), e2]
  cases a2 == b2
  · simp
  simp only [Result.andThen_ok]
  rw [if_neg (by simp), e3]
  cases a3 == b3
  · simp
  simp
theorem run_neq3 {P : Program} {w : World} {ρ : Operand → Value} {o : Oper} {t t2 : TypeId} {xa xb : Operand} {f1 f2 f3 : Field} {k1 k2 k3 q1 q2 q3 : IntKind} {a1 a2 a3 b1 b2 b3 : Int} (ho : o.op = .binOp .neq t xa xb t2) (hx : ρ xa = .agg #[.int k1 a1, .int k2 a2, .int k3 a3]) (hy : ρ xb = .agg #[.int k1 b1, .int k2 b2, .int k3 b3])
    (ht : P.underlying t = some (.struct #[f1, f2, f3])) (hs : P.stoodInHeld t = false) (h1 : P.underlying f1.type = some (.int q1)) (h2 : P.underlying f2.type = some (.int q2)) (h3 : P.underlying f3.type = some (.int q3))
    (n1 : f1.name ≠ "_") (n2 : f2.name ≠ "_") (n3 : f3.name ≠ "_") (p1 : f1.offset = 0) (p2 : f2.offset = 1) (p3 : f3.offset = 2) (hg : P.eqGuardType P.depth t = false) :
    (execOp ρ o).run P w = .ok (.value (.bool (!(a1 == b1 && (a2 == b2 && a3 == b3))))) w := by
  unfold execOp
  simp only [ho, hx, hy, binOp, Op.equal, Op.maxDepth, eqGuard, Sem.run_pure, Sem.run_bind, eqIn_3 (d := 9998) ht hs h1 h2 h3 n1 n2 n3 p1 p2 p3, Result.andThen_ok]
  simp [hg, run_program, Sem.run_bind, Sem.run_pure]
def fl (P : Program) (t : TypeId) (i : Nat) : Field := match P.underlying t with
  | some (.struct fs) => (fs[i]?).getD default
  | _ => default
def ikO (P : Program) (t : TypeId) : IntKind := match P.underlying t with
  | some (.int k) => k
  | _ => .i64
def cmpX (o : Oper) : Operand := match o.op with
  | .binOp _ _ x _ _ => x
  | _ => .tmp 0
def cmpY (o : Oper) : Operand := match o.op with
  | .binOp _ _ _ y _ => y
  | _ => .tmp 0
theorem ne_of_beq {s t : String} (h : (s == t) = false) : s ≠ t := by simpa using h
theorem run_neq3Z {P : Program} {w : World} {ρ : Operand → Value} {o : Oper} (t t2 : TypeId) {k1 k2 k3 : IntKind} {a1 a2 a3 b1 b2 b3 : Int} (ho : o.op = .binOp .neq t (cmpX o) (cmpY o) t2 := by kernel_rfl) (hx : ρ (cmpX o) = .agg #[.int k1 a1, .int k2 a2, .int k3 a3] := by kernel_rfl) (hy : ρ (cmpY o) = .agg #[.int k1 b1, .int k2 b2, .int k3 b3] := by kernel_rfl)
    (ht : P.underlying t = some (.struct #[fl P t 0, fl P t 1, fl P t 2]) := by kernel_rfl) (hs : P.stoodInHeld t = false := by kernel_rfl) (h1 : P.underlying (fl P t 0).type = some (.int (ikO P (fl P t 0).type)) := by kernel_rfl) (h2 : P.underlying (fl P t 1).type = some (.int (ikO P (fl P t 1).type)) := by kernel_rfl) (h3 : P.underlying (fl P t 2).type = some (.int (ikO P (fl P t 2).type)) := by kernel_rfl)
    (n1 : ((fl P t 0).name == "_") = false := by kernel_rfl) (n2 : ((fl P t 1).name == "_") = false := by kernel_rfl) (n3 : ((fl P t 2).name == "_") = false := by kernel_rfl) (p1 : (fl P t 0).offset = 0 := by kernel_rfl) (p2 : (fl P t 1).offset = 1 := by kernel_rfl) (p3 : (fl P t 2).offset = 2 := by kernel_rfl) (hg : P.eqGuardType P.depth t = false := by kernel_rfl) :
    (execOp ρ o).run P w = .ok (.value (.bool (!(a1 == b1 && (a2 == b2 && a3 == b3))))) w := run_neq3 ho hx hy ht hs h1 h2 h3 (ne_of_beq n1) (ne_of_beq n2) (ne_of_beq n3) p1 p2 p3 hg
/-! ### Rows that are written into -/
theorem getElem?_setCells : ∀ (vs : List Value) (c : Array Value) (o p : Nat), o + vs.length ≤ c.size → (setCells c o vs)[p]? = if o ≤ p ∧ p < o + vs.length then vs[p - o]? else c[p]?
  | [], c, o, p, _ => by simp [setCells]; intro h; omega
  | v :: vs, c, o, p, h => by
    rw [setCells, getElem?_setCells vs _ (o + 1) p (by simp at h ⊢; omega)]
    simp only [List.length_cons] at h ⊢
    by_cases h1 : o = p
    · subst h1
      rw [if_neg (by omega), if_pos (by omega), Nat.sub_self]
      have hlt : o < c.size := by omega
      simp [hlt]
    · by_cases h2 : o + 1 ≤ p ∧ p < o + 1 + vs.length
      · rw [if_pos h2, if_pos (by omega)]
        have : p - o = (p - (o + 1)) + 1 := by omega
        rw [this, List.getElem?_cons_succ]
      · rw [if_neg h2, if_neg (by omega), Array.getElem?_setIfInBounds_ne h1]
section
variable {α : Type} {Cl : Rd → List Value → α → Prop} {T : TypeId} {size : Nat} {r : Rd} {rb : List (Nat × Obj)} {ad : Option Addr} {m cap : Nat} {L : List α} {x : α} {i : Nat}
theorem flatG_len {es : List (GE α)} (h : ∀ e ∈ es, e.cs.length = size) : (flatG es).length = es.length * size := by
  induction es with
  | nil => simp [flatG]
  | cons e es ih => rw [flatG, List.length_append, ih fun e he => h e (List.mem_cons_of_mem _ he), h e List.mem_cons_self, List.length_cons, Nat.add_mul]; omega
/-- An element of a row of the call's own. -/
theorem GRow.opn (h : GRow Cl T size r rb ad m cap L) (hx : L[i]? = some x) : ∃ g cur cs, rb = [(g, .cells cur T (0, 0))] ∧ ad = some ⟨g, 0, none⟩ ∧ i < m ∧ (cs.length = size ∧ ∀ r', Le r r' → Cl r' cs x) ∧ ∀ j v, cs[j]? = some v → cur[i * size + j]? = some v := by
  obtain ⟨es, h1, h2, h3, h4⟩ := h
  subst h2
  rw [List.getElem?_map] at hx
  cases he : es[i]? with
  | none => rw [he] at hx; cases hx
  | some e =>
    rw [he] at hx
    obtain rfl : e.x = x := by simpa using hx
    have hlt := (List.getElem?_eq_some_iff.1 he).1
    rcases h1 with ⟨_, _, h5, _, _⟩ | ⟨g, cur, rfl, rfl, hr⟩
    · omega
    · refine ⟨g, cur, e.cs, rfl, rfl, by omega, h3 e (List.mem_of_getElem? he), fun j v hj => ?_⟩
      have h5 := flatG_get es i e (fun e he => (h3 e he).1) he j v hj
      rw [← hr.hxs, List.getElem?_take] at h5
      split at h5
      · simpa using h5
      · cases h5
theorem GRow.set {g : Nat} {cur : Array Value} {cs : List Value} (h : GRow Cl T size r [(g, .cells cur T (0, 0))] (some ⟨g, 0, none⟩) m cap L) (hi : i < m) (hc : cs.length = size ∧ ∀ r', Le r r' → Cl r' cs x) :
    GRow Cl T size r [(g, .cells (setCells cur (i * size) cs) T (0, 0))] (some ⟨g, 0, none⟩) m cap (L.set i x) ∧ i * size + cs.length ≤ cur.size := by
  obtain ⟨es, h1, h2, h3, h4⟩ := h
  rcases h1 with ⟨h5, _⟩ | ⟨g', cur', e1, _, hr⟩
  · cases h5
  cases e1
  have hlt : i < es.length := by omega
  have hsz := hr.hsz
  have hn := hr.hn
  have hb : i * size + cs.length ≤ m * size := by
    rw [hc.1]
    calc i * size + size = (i + 1) * size := by rw [Nat.add_mul, Nat.one_mul]
      _ ≤ m * size := Nat.mul_le_mul_right _ (by omega)
  have hb2 : m * size ≤ cap * size := Nat.mul_le_mul_right _ hn
  have hb3 : i * size + cs.length ≤ cur.size := by omega
  refine ⟨⟨es.set i ⟨x, cs⟩, .inr ⟨g, _, rfl, rfl, ⟨hn, hr.hcap, by rw [size_setCells]; exact hsz, ?_⟩⟩, by rw [List.map_set, h2], fun e he => ?_, by rw [List.length_set]; exact h4⟩, hb3⟩
  · have hx := hr.hxs
    have hes : ∀ e ∈ es.set i ⟨x, cs⟩, e.cs.length = size := fun e he => by
      rcases List.mem_or_eq_of_mem_set he with h6 | h6
      · exact (h3 e h6).1
      · rw [h6]; exact hc.1
    apply List.ext_getElem?
    intro p
    by_cases hp : p < m * size
    · have hs0 : 0 < size := by
        rcases Nat.eq_zero_or_pos size with h0 | h0
        · rw [h0] at hp; simp at hp
        · exact h0
      have hq : p / size < m := Nat.div_lt_of_lt_mul (by rw [Nat.mul_comm]; exact hp)
      have hpe : p / size * size + p % size = p := by rw [Nat.mul_comm]; exact Nat.div_add_mod p size
      have hmod : p % size < size := Nat.mod_lt _ hs0
      rw [List.getElem?_take, if_pos hp]
      rw [show (setCells cur (i * size) cs).toList[p]? = (setCells cur (i * size) cs)[p]? by simp, getElem?_setCells _ _ _ _ hb3]
      by_cases hqi : p / size = i
      · subst hqi
        have hj : p % size < cs.length := by rw [hc.1]; exact hmod
        rw [if_pos (by rw [hc.1]; omega)]
        have h7 := flatG_get (es.set (p / size) ⟨x, cs⟩) (p / size) ⟨x, cs⟩ hes (by rw [List.getElem?_set_self (by omega)]) (p % size) cs[p % size] (by simp [hj])
        rw [hpe] at h7
        rw [h7, show p - p / size * size = p % size by omega]
        simp [hj]
      · have hne : ¬ (i * size ≤ p ∧ p < i * size + cs.length) := by
          rintro ⟨h8, h9⟩
          rw [hc.1] at h9
          refine hqi (Nat.div_eq_of_lt_le h8 ?_)
          rw [Nat.add_mul, Nat.one_mul]; exact h9
        rw [if_neg hne]
        obtain ⟨e, he⟩ : ∃ e, es[p / size]? = some e := ⟨es[p / size]'(by omega), by simp⟩
        have hj : p % size < e.cs.length := by rw [(h3 e (List.mem_of_getElem? he)).1]; exact hmod
        have h7 := flatG_get es (p / size) e (fun e he => (h3 e he).1) he (p % size) e.cs[p % size] (by simp [hj])
        have h8 := flatG_get (es.set i ⟨x, cs⟩) (p / size) e hes (by rw [List.getElem?_set_ne (by omega)]; exact he) (p % size) e.cs[p % size] (by simp [hj])
        rw [hpe] at h7 h8
        rw [h8, ← h7, ← hx, List.getElem?_take, if_pos hp]
        simp
    · rw [List.getElem?_take, if_neg hp, List.getElem?_eq_none]
      rw [flatG_len hes, List.length_set, ← h4]; omega
  · rcases List.mem_or_eq_of_mem_set he with h6 | h6
    · exact h3 e h6
    · rw [h6]; exact hc
end
section
variable {P : Program} {Q : Exit → Act → World → Prop} {K : Act → World → Prop} {a : Act} {o : Oper} {n d : Nat} {L : List (Nat × Value)} {D : List Deferred} {E : Nat → Prop} {w0 w : World} {X Y : Hid}
/-- A store into a row of the call's own. -/
theorem op_storeG {t T : TypeId} {xa xv : Operand} {g k k' : Nat} {cur : Array Value} {vs : List Value} {q : Bool} {A B : List (Nat × Obj)} (F : List (Nat × Obj) → List (Nat × Obj)) (hF : Fr n a L D) (hc : (okOp L o && o.dst.isNone) = true) (hS : St E w0 X w Y (F [(g, .cells cur T (0, 0))])) (hM : ∀ rb, F rb = A ++ (rb ++ B))
    (ho : o.op = .store t xa xv) (ha : evL L xa = .pointer (some ⟨g, k, none⟩)) (hv : (evL L xv).cells.toList = vs) (ht : ldT P t = some (q, vs.length)) (h1 : vs.all Value.oneCell' = true) (hk : k = k') (hle : k' + vs.length ≤ cur.size)
    (kont : ∀ w1, St E w0 X w1 Y (F [(g, .cells (setCells cur k' vs) T (0, 0))]) → Le (rd w Y) (rd w1 Y) → K a w1) : o.wp P a w K Q := by
  subst hk hv
  have hS' := hS
  rw [hM] at hS'
  have hi' : (A ++ ([(g, Obj.cells cur T (0, 0))] ++ B))[A.length]? = some (g, .cells cur T (0, 0)) := by simp
  refine zF A.length _ hF hc hS' ho ha rfl ht (by simp) h1 hi' (by simpa using hle) rfl rfl (fun w1 h2 h3 => kont w1 ?_ h3)
  rw [hM]
  simpa [List.set_append] using h2
theorem madeCells_size (z : Array Value) (n : Nat) : (madeCells z n).size = n := by simp [madeCells]
theorem made_get (z : Array Value) (n p : Nat) (h : p < n) (hz : 0 < z.size) : (madeCells z n)[p]? = z[p % z.size]? := by
  have h1 : p % z.size < z.size := Nat.mod_lt _ hz
  simp [madeCells, h, h1]
theorem made_flat {α : Type} {z : Array Value} {size : Nat} {z0 : α} (hz : z.size = size) (m : Nat) : (madeCells z (m * size)).toList.take (m * size) = flatG (List.replicate m (⟨z0, z.toList⟩ : GE α)) := by
  subst hz
  have hes : ∀ e ∈ List.replicate m (⟨z0, z.toList⟩ : GE α), e.cs.length = z.size := fun e he => by rw [List.eq_of_mem_replicate he]; simp
  apply List.ext_getElem?
  intro p
  by_cases hp : p < m * z.size
  · have hs0 : 0 < z.size := by
      rcases Nat.eq_zero_or_pos z.size with h0 | h0
      · rw [h0] at hp; simp at hp
      · exact h0
    have hq : p / z.size < m := Nat.div_lt_of_lt_mul (by rw [Nat.mul_comm]; exact hp)
    have hpe : p / z.size * z.size + p % z.size = p := by rw [Nat.mul_comm]; exact Nat.div_add_mod p z.size
    have hmod : p % z.size < z.size := Nat.mod_lt _ hs0
    have h8 := flatG_get (List.replicate m (⟨z0, z.toList⟩ : GE α)) (p / z.size) ⟨z0, z.toList⟩ hes (by simp [hq]) (p % z.size) z[p % z.size] (by simp [hmod])
    rw [hpe] at h8
    rw [h8, List.getElem?_take, if_pos hp, show (madeCells z (m * z.size)).toList[p]? = (madeCells z (m * z.size))[p]? by simp, made_get z _ p hp hs0]
    simp [hmod]
  · rw [List.getElem?_take, if_neg hp, List.getElem?_eq_none]
    rw [flatG_len hes, List.length_replicate]; omega
/-- A new row. -/
theorem op_makeG {α : Type} {Cl : Rd → List Value → α → Prop} {t e : TypeId} {xl : Operand} {l : Int} {m size b : Nat} {i0 : TypeInfo} {z0 : α} {A B : List (Nat × Obj)} {r : World → Hid → Rd} (F : List (Nat × Obj) → List (Nat × Obj)) (hF : Fr n a L D) (hc : opk L o d n = true) (hS : St E w0 X w Y (F [])) (hM : ∀ rb, F rb = A ++ (rb ++ B))
    (ho : o.op = .makeSlice t xl xl) (hl : evL L xl = .int .i64 l) (hm : l = (m : Int)) (ht : P.underlying t = some (.slice e)) (hi : P.info? e = some i0) (hz : i0.zero = some (zI i0)) (hs : i0.size = size) (hzs : (zI i0).cells.size = size) (hb : i0.bytes = b) (hby : b * m ≤ 281474976710656) (h63 : m ≤ 140737488355328)
    (hz0 : ∀ r, Cl r (zI i0).cells.toList z0)
    (k : ∀ rb ad w1 Y1, GRow Cl e size (r w1 Y1) rb ad m m (List.replicate m z0) → St E w0 X w1 Y1 (F rb) → Le (rd w Y) (rd w1 Y1) → ∀ a1, Fr n a1 ((d, .slice ad m m) :: L) D → K a1 w1) : o.wp P a w K Q := by
  refine op_new (fun b => .slice (some ⟨b, 0, none⟩) m m) (.cells (madeCells (zI i0).cells (m * i0.size)) e (0, 0)) hF hc hS (fun w => ?_) (fun b w1 Y1 h1 h2 _ a1 C1 => ?_)
  · have hb' : (i0.bytes : Int) * (m : Int) ≤ 281474976710656 := by
      have h : ((i0.bytes * m : Nat) : Int) ≤ 281474976710656 := by rw [hb]; omega
      rwa [Int.natCast_mul] at h
    have hr := run_make (P := P) w t e i0 (zI i0) ht hi hz .i64 .i64 (m : Int) (m : Int) (by omega) (Int.le_refl _) hb' (by omega)
    simp only [Int.toNat_natCast] at hr
    unfold execOp
    simp only [ho, hl, hm, hr, Sem.run_bind, Sem.run_pure, Result.andThen_ok]
  · have B2 : St E w0 X w1 Y1 (F [(b, .cells (madeCells (zI i0).cells (m * i0.size)) e (0, 0))]) := by
      rw [hM] at h1 ⊢
      exact h1.perm (by simp)
    have hrow : Row m m size (madeCells (zI i0).cells (m * i0.size)) (flatG (List.replicate m (⟨z0, (zI i0).cells.toList⟩ : GE α))) := by
      rw [hs]
      exact ⟨Nat.le_refl _, by simp only [maxLen]; omega, madeCells_size _ _, made_flat hzs m⟩
    refine k _ _ w1 Y1 ⟨List.replicate m ⟨z0, (zI i0).cells.toList⟩, .inr ⟨b, _, rfl, rfl, hrow⟩, by simp, fun x hx => ?_, by simp⟩ B2 h2 a1 C1
    rw [List.eq_of_mem_replicate hx]
    exact ⟨by simpa using hzs, fun r' _ => hz0 r'⟩
end
theorem GRow.opn2 {α : Type} {Cl : Rd → List Value → α → Prop} {T : TypeId} {size : Nat} {r : Rd} {g m cap i : Nat} {cur : Array Value} {L : List α} {x : α} (h : GRow Cl T size r [(g, .cells cur T (0, 0))] (some ⟨g, 0, none⟩) m cap L) (hx : L[i]? = some x) : ∃ cs, i < m ∧ (cs.length = size ∧ ∀ r', Le r r' → Cl r' cs x) ∧ ∀ j v, cs[j]? = some v → cur[i * size + j]? = some v := by
  obtain ⟨g', cur', cs, e1, _, h1, h2, h3⟩ := h.opn hx
  cases e1
  exact ⟨cs, h1, h2, h3⟩
theorem CellsAt.sub {w : World} {b off : Nat} {vs : List Value} (h : CellsAt w ⟨b, off, none⟩ vs) (n m : Nat) : CellsAt w ⟨b, off + n, none⟩ ((vs.drop n).take m) := fun j v hj => by
  rw [List.getElem?_take] at hj
  split at hj
  · rw [List.getElem?_drop] at hj
    have := h (n + j) v hj
    rw [add_mk] at *
    rwa [← Nat.add_assoc] at this
  · cases hj
end Go.Gv
/- Maps from ints to data, that a call owns. By an AI agent; over any program. -/
namespace Go.Gv
open Go Go.Instr
inductive All2 {β γ : Type} (R : β → γ → Prop) : List β → List γ → Prop
  | nil : All2 R [] []
  | cons {a b l m} : R a b → All2 R l m → All2 R (a :: l) (b :: m)
theorem All2.imp {β γ : Type} {R S : β → γ → Prop} {l : List β} {m : List γ} (h : All2 R l m) (k : ∀ a b, R a b → S a b) : All2 S l m := by
  induction h with
  | nil => exact .nil
  | cons h _ ih => exact .cons (k _ _ h) ih
section
variable {α : Type} {V : Rd → Value → α → Prop} {r r' : Rd} {es : List (Int × Value)} {l : List (Int × α)} {z : Int} {zero : Value} {z0 : α}
def getP (z : Int) (z0 : α) : List (Int × α) → α
  | [] => z0
  | p :: l => bif z == p.1 then p.2 else getP z z0 l
def putP (z : Int) (v : α) : List (Int × α) → List (Int × α)
  | [] => [(z, v)]
  | p :: l => bif z == p.1 then (z, v) :: l else p :: putP z v l
/-- The entries say the datum. -/
structure MapR (V : Rd → Value → α → Prop) (r : Rd) (es : List (Int × Value)) (l : List (Int × α)) : Prop where
  all : All2 (fun e x => e.1 = x.1 ∧ V r e.2 x.2) es l
  nd : (es.map Prod.fst).Nodup
  rng : ∀ x ∈ es, -9223372036854775808 ≤ x.1 ∧ x.1 ≤ 9223372036854775807
theorem MapR.nil : MapR V r [] [] := ⟨.nil, List.nodup_nil, fun _ h => by cases h⟩
theorem MapR.mono (hV : ∀ {r r' : Rd} {v : Value} {x : α}, V r v x → Le r r' → V r' v x) (h : MapR V r es l) (k : Le r r') : MapR V r' es l :=
  ⟨h.all.imp fun _ _ h => ⟨h.1, hV h.2 k⟩, h.nd, h.rng⟩
theorem All2.len {β γ : Type} {R : β → γ → Prop} {l : List β} {m : List γ} (h : All2 R l m) : l.length = m.length := by
  induction h with
  | nil => rfl
  | cons _ _ ih => simp [ih]
theorem MapR.len (h : MapR V r es l) : es.length = l.length := All2.len h.all
theorem MapR.keys (h : MapR V r es l) : es.map Prod.fst = l.map Prod.fst := by
  have h1 := h.all
  clear h
  induction h1 with
  | nil => rfl
  | cons h _ ih => simp [h.1, ih]
theorem fnd_val (z : Int) : ∀ (l : List (Int × Value)) (i j : Nat), (fnd z l i).map Prod.snd = (fnd z l j).map Prod.snd
  | [], _, _ => rfl
  | p :: l, i, j => by
    simp only [fnd]
    cases z == p.1
    · exact fnd_val z l (i + 1) (j + 1)
    · rfl
theorem getM_eq (z : Int) (l : List (Int × Value)) (zero : Value) (i : Nat) : getM z l zero = ((fnd z l i).map Prod.snd).getD zero := by
  rw [fnd_val z l i 0]
  unfold getM
  cases fnd z l 0 <;> rfl
theorem getM_cons (z : Int) (p : Int × Value) (l : List (Int × Value)) (zero : Value) : getM z (p :: l) zero = bif z == p.1 then p.2 else getM z l zero := by
  rw [getM_eq z (p :: l) zero 0, getM_eq z l zero 1]
  simp only [fnd]
  cases z == p.1 <;> rfl
theorem MapR.get (h : MapR V r es l) (hz : V r zero z0) : V r (getM z es zero) (getP z z0 l) := by
  have h1 := h.all
  clear h
  induction h1 with
  | nil => exact hz
  | @cons e x es l h _ ih =>
    rw [getM_cons, getP, ← h.1]
    cases z == e.1
    · exact ih
    · exact h.2
theorem putM_keys (z : Int) (v : Value) : ∀ (es : List (Int × Value)), (putM z v es).map Prod.fst = if z ∈ es.map Prod.fst then es.map Prod.fst else es.map Prod.fst ++ [z]
  | [] => rfl
  | p :: es => by
    have ih := putM_keys z v es
    simp only [putM, List.map_cons, List.mem_cons]
    cases hz : z == p.1
    · have hne : z ≠ p.1 := by simpa using hz
      simp only [cond_false, List.map_cons, ih, hne, false_or]
      split <;> rfl
    · have he : z = p.1 := by simpa using hz
      simp [he]
theorem MapR.put {v : Value} {x : α} (h : MapR V r es l) (hz : -9223372036854775808 ≤ z ∧ z ≤ 9223372036854775807) (hv : V r v x) : MapR V r (putM z v es) (putP z x l) := by
  refine ⟨?_, ?_, ?_⟩
  · have h1 := h.all
    clear h
    induction h1 with
    | nil => exact .cons ⟨rfl, hv⟩ .nil
    | @cons e y es l h ht ih =>
      rw [putM, putP, ← h.1]
      cases z == e.1
      · exact .cons h ih
      · exact .cons ⟨rfl, hv⟩ ht
  · rw [putM_keys]
    split
    · exact h.nd
    · rename_i hn
      rw [List.nodup_append]
      exact ⟨h.nd, by simp, fun a ha b hb => by
        rw [List.mem_singleton] at hb
        rintro rfl
        exact hn (hb ▸ ha)⟩
  · intro y hy
    have hk : y.1 ∈ (putM z v es).map Prod.fst := List.mem_map_of_mem hy
    rw [putM_keys] at hk
    have hold : y.1 ∈ es.map Prod.fst → -9223372036854775808 ≤ y.1 ∧ y.1 ≤ 9223372036854775807 := fun hm => by
      obtain ⟨x, hx, e⟩ := List.mem_map.1 hm
      exact e ▸ h.rng x hx
    split at hk
    · exact hold hk
    · rcases List.mem_append.1 hk with hm | hm
      · exact hold hm
      · rw [List.mem_singleton] at hm; exact hm ▸ hz
/-- Ascending. -/
def insZ (x : Int) : List Int → List Int
  | [] => [x]
  | y :: l => if x ≤ y then x :: y :: l else y :: insZ x l
def sortZ : List Int → List Int
  | [] => []
  | x :: l => insZ x (sortZ l)
theorem insZ_perm (x : Int) : ∀ l : List Int, (insZ x l).Perm (x :: l)
  | [] => .refl _
  | y :: l => by
    unfold insZ
    split
    · exact .refl _
    · exact ((insZ_perm x l).cons y).trans (.swap x y l)
theorem sortZ_perm : ∀ l : List Int, (sortZ l).Perm l
  | [] => .refl _
  | x :: l => (insZ_perm x (sortZ l)).trans ((sortZ_perm l).cons x)
theorem insZ_sorted (x : Int) : ∀ l : List Int, l.Pairwise (· ≤ ·) → (insZ x l).Pairwise (· ≤ ·)
  | [], _ => by simp [insZ]
  | y :: l, h => by
    have h1 := List.pairwise_cons.1 h
    unfold insZ
    split
    · rename_i hxy
      exact .cons (fun a ha => by
        rcases List.mem_cons.1 ha with rfl | ha
        · exact hxy
        · exact Int.le_trans hxy (h1.1 a ha)) h
    · rename_i hxy
      refine .cons (fun a ha => ?_) (insZ_sorted x l h1.2)
      rcases List.mem_cons.1 ((insZ_perm x l).mem_iff.1 ha) with rfl | ha
      · omega
      · exact h1.1 a ha
theorem sortZ_sorted : ∀ l : List Int, (sortZ l).Pairwise (· ≤ ·)
  | [] => .nil
  | x :: l => insZ_sorted x _ (sortZ_sorted l)
theorem sorted_unique {l m : List Int} (h : l.Perm m) (hl : l.Pairwise (· ≤ ·)) (hm : m.Pairwise (· ≤ ·)) : l = m :=
  List.Perm.eq_of_pairwise (le := (· ≤ ·)) (fun _ _ _ _ h1 h2 => Int.le_antisymm h1 h2) hl hm h
end
section
variable {α : Type} {V : Rd → Value → α → Prop} {P : Program} {K : Act → World → Prop} {a : Act} {w w0 : World} {o : Oper} {n d : Nat} {L : List (Nat × Value)} {D : List Deferred} {E : Nat → Prop} {X Y : Hid} {M : List (Nat × Obj)} {Q : Exit → Act → World → Prop}
theorem op_lookR {T TK TV : TypeId} {xm xk : Operand} {b : Nat} {es : List (Int × Value)} {l : List (Int × α)} {z : Int} {zero : Value} {z0 : α} {r : Rd} (i : Nat) (hF : Fr n a L D) (hc : opk L o d n = true) (hS : St E w0 X w Y M)
    (ho : o.op = .lookup T xm xk false) (hm : evL L xm = .map (some b)) (hk : evL L xk = .int .i64 z) (hT : P.underlying T = some (.map TK TV)) (hK : P.underlying TK = some (.int .i64)) (hz : ∀ w, (zeroValue TV).run P w = .ok zero w)
    (hck : ∀ c w, (checkKey c 10000 TK (.int .i64 z)).run P w = .ok () w) (hM : M[i]? = some (b, mapO es)) (hR : MapR V r es l) (h0 : V r zero z0)
    (k : ∀ v, V r v (getP z z0 l) → ∀ a1, Fr n a1 ((d, v) :: L) D → K a1 w) : o.wp P a w K Q :=
  op_lookup i hF hc hS ho hm hk hT ⟨_, hK⟩ hz hck hM (k _ (hR.get h0))
theorem op_mapUpdR {T TK TV : TypeId} {xm xk xv : Operand} {b : Nat} {l : List (Int × Value)} {z : Int} {v : Value} (i : Nat) (hF : Fr n a L D) (hc : (okOp L o && o.dst.isNone) = true) (hS : St E w0 X w Y M)
    (ho : o.op = .mapUpdate T xm xk xv) (hm : evL L xm = .map (some b)) (hk : evL L xk = .int .i64 z) (hv : evL L xv = v) (hT : P.underlying T = some (.map TK TV)) (hK : P.underlying TK = some (.int .i64))
    (hck : ∀ c w, (checkKey c 10000 TK (.int .i64 z)).run P w = .ok () w) (hM : M[i]? = some (b, mapO l))
    (k : ∀ es', es' = putM z v l → ∀ w1, St E w0 X w1 Y (M.set i (b, mapO es')) → Le (rd w Y) (rd w1 Y) → K a w1) : o.wp P a w K Q :=
  op_mapUpd i hF hc hS ho hm hk hv hT ⟨_, hK⟩ hck hM (k _ rfl)
end
/-- The address of an element of an array behind a pointer. -/
theorem run_indexArr {P : Program} {w : World} {ρ : Operand → Value} {o : Oper} {t e : TypeId} {x ix : Operand} {b off nn : Nat} {kd : IntKind} {i : Int} {g : Bool} {m off' : Nat} (ho : o.op = .indexAddr t x ix) (ht : P.underlying t = some (.array nn e))
    (hx : ρ x = .pointer (some ⟨b, off, none⟩)) (hi : ρ ix = .int kd i) (he : ldT P e = some (g, m)) (h0 : 0 ≤ i) (h1 : i < nn) (hoff : off + i.toNat * m = off') :
    (execOp ρ o).run P w = .ok (.value (.pointer (some ⟨b, off', none⟩))) w := by
  unfold execOp
  simp only [ho, hx, hi, Instr.indexAt, asIntOf, underlying, sureAddr, ht, Sem.run_bind, Sem.run_pure, run_program, Result.andThen_ok, h0, h1, and_self, if_true, run_sizeOf he, add_mk, hoff]
/-! ### With the kernel's reckoning -/
def lkM (o : Oper) : Operand := match o.op with
  | .lookup _ x _ _ => x
  | .mapUpdate _ x _ _ => x
  | .call c => c.args.getD 0 (.tmp 0)
  | _ => .tmp 0
def lkK (o : Oper) : Operand := match o.op with
  | .lookup _ _ x _ => x
  | .mapUpdate _ _ x _ => x
  | _ => .tmp 0
def lkV (o : Oper) : Operand := match o.op with
  | .mapUpdate _ _ _ x => x
  | _ => .tmp 0
section
variable {α : Type} {V : Rd → Value → α → Prop} {P : Program} {K : Act → World → Prop} {a : Act} {w w0 : World} {o : Oper} {n d : Nat} {L : List (Nat × Value)} {D : List Deferred} {E : Nat → Prop} {X Y : Hid} {M : List (Nat × Obj)} {Q : Exit → Act → World → Prop}
theorem op_lookRZ (T TK TV : TypeId) {b : Nat} {es : List (Int × Value)} {l : List (Int × α)} (z : Int) (zero : Value) (z0 : α) {r : Rd} (i : Nat) (hF : Fr n a L D) (hc : opk L o d n = true) (hS : St E w0 X w Y M)
    (ho : o.op = .lookup T (lkM o) (lkK o) false) (hm : evL L (lkM o) = .map (some b)) (hk : evL L (lkK o) = .int .i64 z) (hT : P.underlying T = some (.map TK TV)) (hK : P.underlying TK = some (.int .i64)) (hz : ∀ w, (zeroValue TV).run P w = .ok zero w)
    (hck : ∀ c w, (checkKey c 10000 TK (.int .i64 z)).run P w = .ok () w) (hM : M[i]? = some (b, mapO es)) (hR : MapR V r es l) (h0 : V r zero z0)
    (k : ∀ v, V r v (getP z z0 l) → ∀ a1, Fr n a1 ((d, v) :: L) D → K a1 w) : o.wp P a w K Q :=
  op_lookR i hF hc hS ho hm hk hT hK hz hck hM hR h0 k
theorem op_mapUpdRZ (T TK TV : TypeId) {b : Nat} (l : List (Int × Value)) (z : Int) (v : Value) (i : Nat) (hF : Fr n a L D) (hc : (okOp L o && o.dst.isNone) = true) (hS : St E w0 X w Y M)
    (ho : o.op = .mapUpdate T (lkM o) (lkK o) (lkV o)) (hm : evL L (lkM o) = .map (some b)) (hk : evL L (lkK o) = .int .i64 z) (hv : evL L (lkV o) = v) (hT : P.underlying T = some (.map TK TV)) (hK : P.underlying TK = some (.int .i64))
    (hck : ∀ c w, (checkKey c 10000 TK (.int .i64 z)).run P w = .ok () w) (hM : M[i]? = some (b, mapO l))
    (k : ∀ es', es' = putM z v l → ∀ w1, St E w0 X w1 Y (M.set i (b, mapO es')) → Le (rd w Y) (rd w1 Y) → K a w1) : o.wp P a w K Q :=
  op_mapUpdR i hF hc hS ho hm hk hv hT hK hck hM k
theorem op_lenMZ (T TK TV : TypeId) {b : Nat} (l : List (Int × Value)) (i : Nat) (hF : Fr n a L D) (hc : opk L o d n = true) (hS : St E w0 X w Y M)
    (ho : o.op = .call { callee := .builtin .len, args := #[lkM o], argTypes := #[T] }) (hm : evL L (lkM o) = .map (some b)) (hT : P.underlying T = some (.map TK TV)) (hM : M[i]? = some (b, mapO l))
    (k : ∀ a1, Fr n a1 ((d, .int .i64 (l.length : Int)) :: L) D → K a1 w) : o.wp P a w K Q :=
  op_lenM i hF hc hS ho hm hT hM k
end
section
attribute [local semireducible] Go
/-- What is known, written out. -/
theorem zN {r : Option Nat} {m : Nat} {P : Program} {Q : Exit → Act → World → Prop} {n : Nat} {D : List Deferred} {w : World} {c : Cf} (c' : Cf) (h : Go r m P Q n D w c') (hcu : c.cu = c'.cu := by kernel_rfl) (hk : c.k = c'.k := by kernel_rfl)
    (hs : hasAll c.L (c'.L.map (·.1)) = true := by kernel_rfl) (hl : keep c.L (c'.L.map (·.1)) = c'.L := by kernel_rfl) : Go r m P Q n D w c := by
  intro a hF
  rw [hcu, hk]
  exact h a (hF.as _ hs hl)
end
/-- A store into a row of the call's own, with the kernel's reckoning. -/
theorem op_storeGZ {P : Program} {Q : Exit → Act → World → Prop} {K : Act → World → Prop} {a : Act} {o : Oper} {n : Nat} {L : List (Nat × Value)} {D : List Deferred} {E : Nat → Prop} {w0 w : World} {X Y : Hid} {T : TypeId} {g k k' : Nat} {cur : Array Value} {vs : List Value} {q : Bool} {A B : List (Nat × Obj)} (F : List (Nat × Obj) → List (Nat × Obj)) (hF : Fr n a L D) (hc : (okOp L o && o.dst.isNone) = true) (hS : St E w0 X w Y (F [(g, .cells cur T (0, 0))])) (hM : ∀ rb, F rb = A ++ (rb ++ B))
    (ho : o.op = .store (stT o) (stA o) (stV o)) (ha : evL L (stA o) = .pointer (some ⟨g, k, none⟩)) (hv : (evL L (stV o)).cells.toList = vs) (ht : ldT P (stT o) = some (q, vs.length)) (h1 : vs.all Value.oneCell' = true) (hk : k = k') (hle : k' + vs.length ≤ cur.size)
    (kont : ∀ w1, St E w0 X w1 Y (F [(g, .cells (setCells cur k' vs) T (0, 0))]) → Le (rd w Y) (rd w1 Y) → K a w1) : o.wp P a w K Q :=
  op_storeG F hF hc hS hM ho ha hv ht h1 hk hle kont
/-- The one or the other of two truth values, integers. -/
theorem run_pickB {P : Program} {w : World} {ρ : Operand → Value} {o : Oper} {c x y : Operand} {b u v : Bool} (ho : o.op = .pick c x y) (hc : ρ c = .bool b) (hx : ρ x = .bool u) (hy : ρ y = .bool v) : (execOp ρ o).run P w = .ok (.value (.bool (bif b then u else v))) w := by
  unfold execOp
  cases b <;> simp [ho, hc, hx, hy, asBool, Sem.run_bind, Sem.run_pure, Result.andThen_ok]
theorem run_pickT {P : Program} {w : World} {ρ : Operand → Value} {o : Oper} {c x y : Operand} {b : Bool} (ho : o.op = .pick c x y) (hc : ρ c = .bool b) (hx : ρ x = .bool true) (hy : ρ y = .bool false) : (execOp ρ o).run P w = .ok (.value (.bool b)) w := by
  have h := run_pickB (P := P) (w := w) ho hc hx hy
  cases b <;> simpa using h
section
variable {R : Rg} {Pd : List Pn} {c : Array Bool × List (Nat × Value)} {M : List (Nat × Obj)} {r : Rd}
/-- A store into another block than those that are loaded, while something floats. -/
theorem gXsB (i j : Nat) (is : List Nat) (c' : Array Value) (k : ∀ w1 Y, Le r (rd w1 Y) → Gt R Pd (gv R i undef c) (wrM M j c') (rd w1 Y)) (hPd : PdOk R c Pd Pd)
    (hst : sel (wrM M j c') is = R.M0 := by kernel_rfl) (hc : (okOp c.2 (opAt R.ops i) && (opAt R.ops i).dst.isNone) = true := by kernel_rfl) (ho : (opAt R.ops i).op = .store (stT (opAt R.ops i)) (stA (opAt R.ops i)) (stV (opAt R.ops i)) := by kernel_rfl)
    (ha : evL c.2 (stA (opAt R.ops i)) = .pointer (some ⟨bO M j, pOff (evL c.2 (stA (opAt R.ops i))), none⟩) := by kernel_rfl)
    (ht : ldT R.P (stT (opAt R.ops i)) = some (ldG' R.P (stT (opAt R.ops i)), (evL c.2 (stV (opAt R.ops i))).cells.size) := by kernel_rfl) (h1 : (evL c.2 (stV (opAt R.ops i))).cells.toList.all Value.oneCell' = true := by kernel_rfl)
    (hM : M[j]? = some (bO M j, .cells (cO M j) (tO M j) (0, 0)) := by kernel_rfl) (hle : Nat.ble (pOff (evL c.2 (stA (opAt R.ops i))) + (evL c.2 (stV (opAt R.ops i))).cells.size) (cO M j).size = true := by kernel_rfl)
    (hw : setCells (cO M j) (pOff (evL c.2 (stA (opAt R.ops i)))) (evL c.2 (stV (opAt R.ops i))).cells.toList = c' := by kernel_rfl)
    (hdis : (pDis Pd && topo R c.1 [] Pd.reverse) = true := by kernel_rfl) (hi : R.ops[i]? = some (opAt R.ops i) := by kernel_rfl) (hr : Region.ready .any R.ops (pAll Pd c.1) = [i] := by kernel_rfl) (hwt : (wantL R.ops c.2 (opAt R.ops i) true && pNe Pd i (opAt R.ops i).dst) = true := by kernel_rfl) : Gt R Pd c M r := by
  have hlt : j < M.length := (List.getElem?_eq_some_iff.1 hM).1
  refine g_op i (fun a w Y B hF hS hle' => zF j _ hF hc hS ho ha rfl ht rfl h1 ((List.getElem?_append_left hlt).trans hM) (Nat.le_of_ble_eq_true hle) hw rfl fun w1 h2 h3 => ?_) hPd hdis hi hr hwt
  refine ⟨c.2, wrM M j c', rd w1 Y, Y, hF, (by rw [wrM_eq hM, ← List.set_append_left _ _ hlt]; exact h2), Le.refl _, .inr ⟨fun _ => selm is hst, hle'.trans h3⟩, ?_⟩
  have := k w1 Y (hle'.trans h3)
  have hd : (opAt R.ops i).dst = none := by have h9 := hc; rw [Bool.and_eq_true] at h9; exact Option.isNone_iff_eq_none.1 h9.2
  simpa only [gv, hd] using this
end
theorem run_pickL1 {P : Program} {w : World} {ρ : Operand → Value} {o : Oper} {c x y : Operand} {v : Value} (ho : o.op = .pick c x y) (hc : ρ c = .bool true) (hx : ρ x = v) : (execOp ρ o).run P w = .ok (.value v) w := by
  unfold execOp
  simp [ho, hc, hx, asBool, Sem.run_bind, Sem.run_pure, Result.andThen_ok]
theorem run_pickL0 {P : Program} {w : World} {ρ : Operand → Value} {o : Oper} {c x y : Operand} {v : Value} (ho : o.op = .pick c x y) (hc : ρ c = .bool false) (hx : ρ y = v) : (execOp ρ o).run P w = .ok (.value v) w := by
  unfold execOp
  simp [ho, hc, hx, asBool, Sem.run_bind, Sem.run_pure, Result.andThen_ok]
theorem ltd13 {T0 T1 T2 T3 T4 T5 T6 T7 T8 T9 T10 T11 T12 T13 R : Type} {y : R} {f : T0 → T1 → T2 → T3 → T4 → T5 → T6 → T7 → T8 → T9 → T10 → T11 → T12 → T13} {g : (T0 → T1 → T2 → T3 → T4 → T5 → T6 → T7 → T8 → T9 → T10 → T11 → T12 → T13) → R} (h : lt f g = y) : ∃ J, (∀ a0 a1 a2 a3 a4 a5 a6 a7 a8 a9 a10 a11 a12, J a0 a1 a2 a3 a4 a5 a6 a7 a8 a9 a10 a11 a12 = f a0 a1 a2 a3 a4 a5 a6 a7 a8 a9 a10 a11 a12) ∧ g J = y := ⟨f, fun _ _ _ _ _ _ _ _ _ _ _ _ _ => rfl, h⟩
theorem GRow.bnd {α : Type} {Cl : Rd → List Value → α → Prop} {T : TypeId} {size : Nat} {r : Rd} {rb : List (Nat × Obj)} {ad : Option Addr} {m cap : Nat} {L : List α} (h : GRow Cl T size r rb ad m cap L) : (L.length : Int) ≤ 9223372036854775807 := by
  have h0 := h.len
  obtain ⟨es, h1, h2, h3, h4⟩ := h
  rcases h1 with ⟨_, _, h5, _, _⟩ | ⟨g, cur, _, _, hr⟩
  · omega
  · have h6 := hr.hn
    have h7 := hr.hcap
    simp only [maxLen] at h7
    omega
end Go.Gv
/- Data as they are read, printed by a program of this repo. By an AI agent. -/
namespace Go.Gv
open Go.RowKit
def RawV (r : Rd) (v : Value) (x : Raw) : Prop := ∃ a1 a2 a3 a4 a5 a6, v = .agg #[.bool x.neg, .slice a1 a2 a3, .slice a4 a5 a6] ∧ Limbs r a1 a2 a3 x.ln ∧ Limbs r a4 a5 a6 x.ld
theorem RawV.mono {r r' : Rd} {v : Value} {x : Raw} (h : RawV r v x) (k : Le r r') : RawV r' v x := by
  obtain ⟨a1, a2, a3, a4, a5, a6, h0, h1, h2⟩ := h
  exact ⟨a1, a2, a3, a4, a5, a6, h0, h1.mono k, h2.mono k⟩
def IntsAt (r : Rd) (a : Addr) (x : List Int) : Prop := ∃ a1 a3, At r a [.slice a1 x.length a3] ∧ Ints r a1 x.length a3 x
theorem IntsAt.mono (r r' : Rd) (a : Addr) (x : List Int) (k : Le r r') (h : IntsAt r a x) : IntsAt r' a x := by
  obtain ⟨a1, a3, h1, h2⟩ := h
  exact ⟨a1, a3, h1.mono k, h2.mono k⟩
def IntsCs (r : Rd) (cs : List Value) (x : List Int) : Prop := ∃ a1 a3, cs = [.slice a1 x.length a3] ∧ Ints r a1 x.length a3 x
theorem IntsCs.at (r : Rd) (a : Addr) (cs : List Value) (x : List Int) (h : IntsCs r cs x) (k : At r a cs) : IntsAt r a x := by
  obtain ⟨a1, a3, rfl, h2⟩ := h
  exact ⟨a1, a3, k, h2⟩
def IntsS := SlR IntsAt 1
theorem IntsS.mono {r r' : Rd} {ad : Option Addr} {len cap : Nat} {xs : List (List Int)} (h : IntsS r ad len cap xs) (k : Le r r') : IntsS r' ad len cap xs := SlR.mono IntsAt.mono h k
structure BoundsD where
  sense : Int
  lo : Int
  hi : Int
deriving DecidableEq
def BoundsDAt (r : Rd) (a : Addr) (x : BoundsD) : Prop := At r a [.int .u8 x.sense, .int .i64 x.lo, .int .i64 x.hi]
theorem BoundsDAt.mono (r r' : Rd) (a : Addr) (x : BoundsD) (k : Le r r') (h : BoundsDAt r a x) : BoundsDAt r' a x := At.mono k h
def BoundsDV (r : Rd) (v : Value) (x : BoundsD) : Prop := v = .agg #[.int .u8 x.sense, .int .i64 x.lo, .int .i64 x.hi]
theorem BoundsDV.mono {r r' : Rd} {v : Value} {x : BoundsD} (h : BoundsDV r v x) (_ : Le r r') : BoundsDV r' v x := h
def BoundsDCs (r : Rd) (cs : List Value) (x : BoundsD) : Prop := cs = [.int .u8 x.sense, .int .i64 x.lo, .int .i64 x.hi]
theorem BoundsDCs.at (r : Rd) (a : Addr) (cs : List Value) (x : BoundsD) (h : BoundsDCs r cs x) (k : At r a cs) : BoundsDAt r a x := by subst h; exact k
def BoundsDS := SlR BoundsDAt 3
theorem BoundsDS.mono {r r' : Rd} {ad : Option Addr} {len cap : Nat} {xs : List BoundsD} (h : BoundsDS r ad len cap xs) (k : Le r r') : BoundsDS r' ad len cap xs := SlR.mono BoundsDAt.mono h k
structure NoiseD where
  delta : Int
  p : Raw
deriving DecidableEq
def NoiseDAt (r : Rd) (a : Addr) (x : NoiseD) : Prop := ∃ a1 a2 a3 a4, At r a [.int .i64 x.delta, .bool x.p.neg, .slice a1 x.p.ln.length a2, .slice a3 x.p.ld.length a4] ∧ Limbs r a1 x.p.ln.length a2 x.p.ln ∧ Limbs r a3 x.p.ld.length a4 x.p.ld
theorem NoiseDAt.mono (r r' : Rd) (a : Addr) (x : NoiseD) (k : Le r r') (h : NoiseDAt r a x) : NoiseDAt r' a x := by
  obtain ⟨a1, a2, a3, a4, h0, h1, h2⟩ := h
  exact ⟨a1, a2, a3, a4, h0.mono k, h1.mono k, h2.mono k⟩
def NoiseDV (r : Rd) (v : Value) (x : NoiseD) : Prop := ∃ a1 a2 a3 a4, v = .agg #[.int .i64 x.delta, .bool x.p.neg, .slice a1 x.p.ln.length a2, .slice a3 x.p.ld.length a4] ∧ Limbs r a1 x.p.ln.length a2 x.p.ln ∧ Limbs r a3 x.p.ld.length a4 x.p.ld
theorem NoiseDV.mono {r r' : Rd} {v : Value} {x : NoiseD} (h : NoiseDV r v x) (k : Le r r') : NoiseDV r' v x := by
  obtain ⟨a1, a2, a3, a4, h0, h1, h2⟩ := h
  exact ⟨a1, a2, a3, a4, h0, h1.mono k, h2.mono k⟩
def NoiseDCs (r : Rd) (cs : List Value) (x : NoiseD) : Prop := ∃ a1 a2 a3 a4, cs = [.int .i64 x.delta, .bool x.p.neg, .slice a1 x.p.ln.length a2, .slice a3 x.p.ld.length a4] ∧ Limbs r a1 x.p.ln.length a2 x.p.ln ∧ Limbs r a3 x.p.ld.length a4 x.p.ld
theorem NoiseDCs.at (r : Rd) (a : Addr) (cs : List Value) (x : NoiseD) (h : NoiseDCs r cs x) (k : At r a cs) : NoiseDAt r a x := by
  obtain ⟨a1, a2, a3, a4, rfl, h0, h1⟩ := h
  exact ⟨a1, a2, a3, a4, k, h0, h1⟩
def NoiseDS := SlR NoiseDAt 4
theorem NoiseDS.mono {r r' : Rd} {ad : Option Addr} {len cap : Nat} {xs : List NoiseD} (h : NoiseDS r ad len cap xs) (k : Le r r') : NoiseDS r' ad len cap xs := SlR.mono NoiseDAt.mono h k
structure ModelD where
  height : List Int
  own : List Int
  other : List Int
  advisories : List BoundsD
  pull : Int
  near : Int
  steps : Int
  ownNoise : List NoiseD
  otherNoise : List NoiseD
  alert : Raw
  strengthen : Raw
  reversal : Raw
deriving DecidableEq
def ModelDAt (r : Rd) (a : Addr) (x : ModelD) : Prop := ∃ a1 a2 a3 a4 a5 a6 a7 a8 a9 a10 a11 a12 a13 a14 a15 a16 a17 a18 a19 a20 a21 a22 a23 a24, At r a [.slice a1 x.height.length a2, .slice a3 x.own.length a4, .slice a5 x.other.length a6, .slice a7 x.advisories.length a8, .int .i64 x.pull, .int .i64 x.near, .int .i64 x.steps, .slice a9 x.ownNoise.length a10, .slice a11 x.otherNoise.length a12, .bool x.alert.neg, .slice a13 x.alert.ln.length a14, .slice a15 x.alert.ld.length a16, .bool x.strengthen.neg, .slice a17 x.strengthen.ln.length a18, .slice a19 x.strengthen.ld.length a20, .bool x.reversal.neg, .slice a21 x.reversal.ln.length a22, .slice a23 x.reversal.ld.length a24] ∧ Ints r a1 x.height.length a2 x.height ∧ Ints r a3 x.own.length a4 x.own ∧ Ints r a5 x.other.length a6 x.other ∧ BoundsDS r a7 x.advisories.length a8 x.advisories ∧ NoiseDS r a9 x.ownNoise.length a10 x.ownNoise ∧ NoiseDS r a11 x.otherNoise.length a12 x.otherNoise ∧ Limbs r a13 x.alert.ln.length a14 x.alert.ln ∧ Limbs r a15 x.alert.ld.length a16 x.alert.ld ∧ Limbs r a17 x.strengthen.ln.length a18 x.strengthen.ln ∧ Limbs r a19 x.strengthen.ld.length a20 x.strengthen.ld ∧ Limbs r a21 x.reversal.ln.length a22 x.reversal.ln ∧ Limbs r a23 x.reversal.ld.length a24 x.reversal.ld
theorem ModelDAt.mono (r r' : Rd) (a : Addr) (x : ModelD) (k : Le r r') (h : ModelDAt r a x) : ModelDAt r' a x := by
  obtain ⟨a1, a2, a3, a4, a5, a6, a7, a8, a9, a10, a11, a12, a13, a14, a15, a16, a17, a18, a19, a20, a21, a22, a23, a24, h0, h1, h2, h3, h4, h5, h6, h7, h8, h9, h10, h11, h12⟩ := h
  exact ⟨a1, a2, a3, a4, a5, a6, a7, a8, a9, a10, a11, a12, a13, a14, a15, a16, a17, a18, a19, a20, a21, a22, a23, a24, h0.mono k, h1.mono k, h2.mono k, h3.mono k, h4.mono k, h5.mono k, h6.mono k, h7.mono k, h8.mono k, h9.mono k, h10.mono k, h11.mono k, h12.mono k⟩
def ModelDV (r : Rd) (v : Value) (x : ModelD) : Prop := ∃ a1 a2 a3 a4 a5 a6 a7 a8 a9 a10 a11 a12 a13 a14 a15 a16 a17 a18 a19 a20 a21 a22 a23 a24, v = .agg #[.slice a1 x.height.length a2, .slice a3 x.own.length a4, .slice a5 x.other.length a6, .slice a7 x.advisories.length a8, .int .i64 x.pull, .int .i64 x.near, .int .i64 x.steps, .slice a9 x.ownNoise.length a10, .slice a11 x.otherNoise.length a12, .bool x.alert.neg, .slice a13 x.alert.ln.length a14, .slice a15 x.alert.ld.length a16, .bool x.strengthen.neg, .slice a17 x.strengthen.ln.length a18, .slice a19 x.strengthen.ld.length a20, .bool x.reversal.neg, .slice a21 x.reversal.ln.length a22, .slice a23 x.reversal.ld.length a24] ∧ Ints r a1 x.height.length a2 x.height ∧ Ints r a3 x.own.length a4 x.own ∧ Ints r a5 x.other.length a6 x.other ∧ BoundsDS r a7 x.advisories.length a8 x.advisories ∧ NoiseDS r a9 x.ownNoise.length a10 x.ownNoise ∧ NoiseDS r a11 x.otherNoise.length a12 x.otherNoise ∧ Limbs r a13 x.alert.ln.length a14 x.alert.ln ∧ Limbs r a15 x.alert.ld.length a16 x.alert.ld ∧ Limbs r a17 x.strengthen.ln.length a18 x.strengthen.ln ∧ Limbs r a19 x.strengthen.ld.length a20 x.strengthen.ld ∧ Limbs r a21 x.reversal.ln.length a22 x.reversal.ln ∧ Limbs r a23 x.reversal.ld.length a24 x.reversal.ld
theorem ModelDV.op {r : Rd} {v : Value} {x : ModelD} {C : Prop} (h : ModelDV r v x) (k : ∀ (a1 : Option Addr) (a2 : Nat) (a3 : Option Addr) (a4 : Nat) (a5 : Option Addr) (a6 : Nat) (a7 : Option Addr) (a8 : Nat) (a9 : Option Addr) (a10 : Nat) (a11 : Option Addr) (a12 : Nat) (a13 : Option Addr) (a14 : Nat) (a15 : Option Addr) (a16 : Nat) (a17 : Option Addr) (a18 : Nat) (a19 : Option Addr) (a20 : Nat) (a21 : Option Addr) (a22 : Nat) (a23 : Option Addr) (a24 : Nat), v = .agg #[.slice a1 x.height.length a2, .slice a3 x.own.length a4, .slice a5 x.other.length a6, .slice a7 x.advisories.length a8, .int .i64 x.pull, .int .i64 x.near, .int .i64 x.steps, .slice a9 x.ownNoise.length a10, .slice a11 x.otherNoise.length a12, .bool x.alert.neg, .slice a13 x.alert.ln.length a14, .slice a15 x.alert.ld.length a16, .bool x.strengthen.neg, .slice a17 x.strengthen.ln.length a18, .slice a19 x.strengthen.ld.length a20, .bool x.reversal.neg, .slice a21 x.reversal.ln.length a22, .slice a23 x.reversal.ld.length a24] → Ints r a1 x.height.length a2 x.height → Ints r a3 x.own.length a4 x.own → Ints r a5 x.other.length a6 x.other → BoundsDS r a7 x.advisories.length a8 x.advisories → NoiseDS r a9 x.ownNoise.length a10 x.ownNoise → NoiseDS r a11 x.otherNoise.length a12 x.otherNoise → Limbs r a13 x.alert.ln.length a14 x.alert.ln → Limbs r a15 x.alert.ld.length a16 x.alert.ld → Limbs r a17 x.strengthen.ln.length a18 x.strengthen.ln → Limbs r a19 x.strengthen.ld.length a20 x.strengthen.ld → Limbs r a21 x.reversal.ln.length a22 x.reversal.ln → Limbs r a23 x.reversal.ld.length a24 x.reversal.ld → C) : C := by
  obtain ⟨a1, a2, a3, a4, a5, a6, a7, a8, a9, a10, a11, a12, a13, a14, a15, a16, a17, a18, a19, a20, a21, a22, a23, a24, h0, h1, h2, h3, h4, h5, h6, h7, h8, h9, h10, h11, h12⟩ := h
  exact k a1 a2 a3 a4 a5 a6 a7 a8 a9 a10 a11 a12 a13 a14 a15 a16 a17 a18 a19 a20 a21 a22 a23 a24 h0 h1 h2 h3 h4 h5 h6 h7 h8 h9 h10 h11 h12
theorem ModelDAt.op {r : Rd} {a : Addr} {x : ModelD} {C : Prop} (h : ModelDAt r a x) (k : ∀ (a1 : Option Addr) (a2 : Nat) (a3 : Option Addr) (a4 : Nat) (a5 : Option Addr) (a6 : Nat) (a7 : Option Addr) (a8 : Nat) (a9 : Option Addr) (a10 : Nat) (a11 : Option Addr) (a12 : Nat) (a13 : Option Addr) (a14 : Nat) (a15 : Option Addr) (a16 : Nat) (a17 : Option Addr) (a18 : Nat) (a19 : Option Addr) (a20 : Nat) (a21 : Option Addr) (a22 : Nat) (a23 : Option Addr) (a24 : Nat), At r a [.slice a1 x.height.length a2, .slice a3 x.own.length a4, .slice a5 x.other.length a6, .slice a7 x.advisories.length a8, .int .i64 x.pull, .int .i64 x.near, .int .i64 x.steps, .slice a9 x.ownNoise.length a10, .slice a11 x.otherNoise.length a12, .bool x.alert.neg, .slice a13 x.alert.ln.length a14, .slice a15 x.alert.ld.length a16, .bool x.strengthen.neg, .slice a17 x.strengthen.ln.length a18, .slice a19 x.strengthen.ld.length a20, .bool x.reversal.neg, .slice a21 x.reversal.ln.length a22, .slice a23 x.reversal.ld.length a24] → Ints r a1 x.height.length a2 x.height → Ints r a3 x.own.length a4 x.own → Ints r a5 x.other.length a6 x.other → BoundsDS r a7 x.advisories.length a8 x.advisories → NoiseDS r a9 x.ownNoise.length a10 x.ownNoise → NoiseDS r a11 x.otherNoise.length a12 x.otherNoise → Limbs r a13 x.alert.ln.length a14 x.alert.ln → Limbs r a15 x.alert.ld.length a16 x.alert.ld → Limbs r a17 x.strengthen.ln.length a18 x.strengthen.ln → Limbs r a19 x.strengthen.ld.length a20 x.strengthen.ld → Limbs r a21 x.reversal.ln.length a22 x.reversal.ln → Limbs r a23 x.reversal.ld.length a24 x.reversal.ld → C) : C := by
  obtain ⟨a1, a2, a3, a4, a5, a6, a7, a8, a9, a10, a11, a12, a13, a14, a15, a16, a17, a18, a19, a20, a21, a22, a23, a24, h0, h1, h2, h3, h4, h5, h6, h7, h8, h9, h10, h11, h12⟩ := h
  exact k a1 a2 a3 a4 a5 a6 a7 a8 a9 a10 a11 a12 a13 a14 a15 a16 a17 a18 a19 a20 a21 a22 a23 a24 h0 h1 h2 h3 h4 h5 h6 h7 h8 h9 h10 h11 h12
theorem ModelDV.mono {r r' : Rd} {v : Value} {x : ModelD} (h : ModelDV r v x) (k : Le r r') : ModelDV r' v x := by
  obtain ⟨a1, a2, a3, a4, a5, a6, a7, a8, a9, a10, a11, a12, a13, a14, a15, a16, a17, a18, a19, a20, a21, a22, a23, a24, h0, h1, h2, h3, h4, h5, h6, h7, h8, h9, h10, h11, h12⟩ := h
  exact ⟨a1, a2, a3, a4, a5, a6, a7, a8, a9, a10, a11, a12, a13, a14, a15, a16, a17, a18, a19, a20, a21, a22, a23, a24, h0, h1.mono k, h2.mono k, h3.mono k, h4.mono k, h5.mono k, h6.mono k, h7.mono k, h8.mono k, h9.mono k, h10.mono k, h11.mono k, h12.mono k⟩
structure SpanD where
  lo : Int
  hi : Int
deriving DecidableEq
def SpanDAt (r : Rd) (a : Addr) (x : SpanD) : Prop := At r a [.int .i64 x.lo, .int .i64 x.hi]
theorem SpanDAt.mono (r r' : Rd) (a : Addr) (x : SpanD) (k : Le r r') (h : SpanDAt r a x) : SpanDAt r' a x := At.mono k h
def SpanDV (r : Rd) (v : Value) (x : SpanD) : Prop := v = .agg #[.int .i64 x.lo, .int .i64 x.hi]
theorem SpanDV.mono {r r' : Rd} {v : Value} {x : SpanD} (h : SpanDV r v x) (_ : Le r r') : SpanDV r' v x := h
def NoiseDSAt (r : Rd) (a : Addr) (x : List NoiseD) : Prop := ∃ a1 a3, At r a [.slice a1 x.length a3] ∧ NoiseDS r a1 x.length a3 x
theorem NoiseDSAt.mono (r r' : Rd) (a : Addr) (x : List NoiseD) (k : Le r r') (h : NoiseDSAt r a x) : NoiseDSAt r' a x := by
  obtain ⟨a1, a3, h1, h2⟩ := h
  exact ⟨a1, a3, h1.mono k, h2.mono k⟩
def NoiseDSCs (r : Rd) (cs : List Value) (x : List NoiseD) : Prop := ∃ a1 a3, cs = [.slice a1 x.length a3] ∧ NoiseDS r a1 x.length a3 x
theorem NoiseDSCs.at (r : Rd) (a : Addr) (cs : List Value) (x : List NoiseD) (h : NoiseDSCs r cs x) (k : At r a cs) : NoiseDSAt r a x := by
  obtain ⟨a1, a3, rfl, h2⟩ := h
  exact ⟨a1, a3, k, h2⟩
def NoiseDSS := SlR NoiseDSAt 1
theorem NoiseDSS.mono {r r' : Rd} {ad : Option Addr} {len cap : Nat} {xs : List (List NoiseD)} (h : NoiseDSS r ad len cap xs) (k : Le r r') : NoiseDSS r' ad len cap xs := SlR.mono NoiseDSAt.mono h k
def RatCs (r : Rd) (cs : List Value) (x : Raw) : Prop := ∃ a1 a2 a3 a4 a5 a6, cs = [.bool x.neg, .slice a1 a2 a3, .slice a4 a5 a6] ∧ Limbs r a1 a2 a3 x.ln ∧ Limbs r a4 a5 a6 x.ld
theorem RatCs.at (r : Rd) (a : Addr) (cs : List Value) (x : Raw) (h : RatCs r cs x) (k : At r a cs) : RatAt r a x := by
  obtain ⟨a1, a2, a3, a4, a5, a6, rfl, h0, h1⟩ := h
  exact ⟨a1, a2, a3, a4, a5, a6, k, h0, h1⟩
structure ShareD where
  index : Int
  w : Raw
deriving DecidableEq
def ShareDAt (r : Rd) (a : Addr) (x : ShareD) : Prop := ∃ a1 a2 a3 a4, At r a [.int .i64 x.index, .bool x.w.neg, .slice a1 x.w.ln.length a2, .slice a3 x.w.ld.length a4] ∧ Limbs r a1 x.w.ln.length a2 x.w.ln ∧ Limbs r a3 x.w.ld.length a4 x.w.ld
theorem ShareDAt.mono (r r' : Rd) (a : Addr) (x : ShareD) (k : Le r r') (h : ShareDAt r a x) : ShareDAt r' a x := by
  obtain ⟨a1, a2, a3, a4, h0, h1, h2⟩ := h
  exact ⟨a1, a2, a3, a4, h0.mono k, h1.mono k, h2.mono k⟩
def ShareDV (r : Rd) (v : Value) (x : ShareD) : Prop := ∃ a1 a2 a3 a4, v = .agg #[.int .i64 x.index, .bool x.w.neg, .slice a1 x.w.ln.length a2, .slice a3 x.w.ld.length a4] ∧ Limbs r a1 x.w.ln.length a2 x.w.ln ∧ Limbs r a3 x.w.ld.length a4 x.w.ld
theorem ShareDV.mono {r r' : Rd} {v : Value} {x : ShareD} (h : ShareDV r v x) (k : Le r r') : ShareDV r' v x := by
  obtain ⟨a1, a2, a3, a4, h0, h1, h2⟩ := h
  exact ⟨a1, a2, a3, a4, h0, h1.mono k, h2.mono k⟩
def ShareDCs (r : Rd) (cs : List Value) (x : ShareD) : Prop := ∃ a1 a2 a3 a4, cs = [.int .i64 x.index, .bool x.w.neg, .slice a1 x.w.ln.length a2, .slice a3 x.w.ld.length a4] ∧ Limbs r a1 x.w.ln.length a2 x.w.ln ∧ Limbs r a3 x.w.ld.length a4 x.w.ld
theorem ShareDCs.at (r : Rd) (a : Addr) (cs : List Value) (x : ShareD) (h : ShareDCs r cs x) (k : At r a cs) : ShareDAt r a x := by
  obtain ⟨a1, a2, a3, a4, rfl, h0, h1⟩ := h
  exact ⟨a1, a2, a3, a4, k, h0, h1⟩
def ShareDS := SlR ShareDAt 4
theorem ShareDS.mono {r r' : Rd} {ad : Option Addr} {len cap : Nat} {xs : List ShareD} (h : ShareDS r ad len cap xs) (k : Le r r') : ShareDS r' ad len cap xs := SlR.mono ShareDAt.mono h k
structure WeightD where
  vertex : Int
  w : Raw
deriving DecidableEq
def WeightDAt (r : Rd) (a : Addr) (x : WeightD) : Prop := ∃ a1 a2 a3 a4, At r a [.int .i64 x.vertex, .bool x.w.neg, .slice a1 x.w.ln.length a2, .slice a3 x.w.ld.length a4] ∧ Limbs r a1 x.w.ln.length a2 x.w.ln ∧ Limbs r a3 x.w.ld.length a4 x.w.ld
theorem WeightDAt.mono (r r' : Rd) (a : Addr) (x : WeightD) (k : Le r r') (h : WeightDAt r a x) : WeightDAt r' a x := by
  obtain ⟨a1, a2, a3, a4, h0, h1, h2⟩ := h
  exact ⟨a1, a2, a3, a4, h0.mono k, h1.mono k, h2.mono k⟩
def WeightDV (r : Rd) (v : Value) (x : WeightD) : Prop := ∃ a1 a2 a3 a4, v = .agg #[.int .i64 x.vertex, .bool x.w.neg, .slice a1 x.w.ln.length a2, .slice a3 x.w.ld.length a4] ∧ Limbs r a1 x.w.ln.length a2 x.w.ln ∧ Limbs r a3 x.w.ld.length a4 x.w.ld
theorem WeightDV.mono {r r' : Rd} {v : Value} {x : WeightD} (h : WeightDV r v x) (k : Le r r') : WeightDV r' v x := by
  obtain ⟨a1, a2, a3, a4, h0, h1, h2⟩ := h
  exact ⟨a1, a2, a3, a4, h0, h1.mono k, h2.mono k⟩
def WeightDCs (r : Rd) (cs : List Value) (x : WeightD) : Prop := ∃ a1 a2 a3 a4, cs = [.int .i64 x.vertex, .bool x.w.neg, .slice a1 x.w.ln.length a2, .slice a3 x.w.ld.length a4] ∧ Limbs r a1 x.w.ln.length a2 x.w.ln ∧ Limbs r a3 x.w.ld.length a4 x.w.ld
theorem WeightDCs.at (r : Rd) (a : Addr) (cs : List Value) (x : WeightD) (h : WeightDCs r cs x) (k : At r a cs) : WeightDAt r a x := by
  obtain ⟨a1, a2, a3, a4, rfl, h0, h1⟩ := h
  exact ⟨a1, a2, a3, a4, k, h0, h1⟩
def WeightDS := SlR WeightDAt 4
theorem WeightDS.mono {r r' : Rd} {ad : Option Addr} {len cap : Nat} {xs : List WeightD} (h : WeightDS r ad len cap xs) (k : Le r r') : WeightDS r' ad len cap xs := SlR.mono WeightDAt.mono h k
def OutV (r : Rd) (v : Value) (x : Out) : Prop := ∃ a1 a2 a3 a4 a5 a6, v = .agg #[.int .i64 x.to, .bool x.p.neg, .slice a1 a2 a3, .slice a4 a5 a6] ∧ Limbs r a1 a2 a3 x.p.ln ∧ Limbs r a4 a5 a6 x.p.ld
theorem OutV.mono {r r' : Rd} {v : Value} {x : Out} (h : OutV r v x) (k : Le r r') : OutV r' v x := by
  obtain ⟨a1, a2, a3, a4, a5, a6, h0, h1, h2⟩ := h
  exact ⟨a1, a2, a3, a4, a5, a6, h0, h1.mono k, h2.mono k⟩
def OutCs (r : Rd) (cs : List Value) (x : Out) : Prop := ∃ a1 a2 a3 a4 a5 a6, cs = [.int .i64 x.to, .bool x.p.neg, .slice a1 a2 a3, .slice a4 a5 a6] ∧ Limbs r a1 a2 a3 x.p.ln ∧ Limbs r a4 a5 a6 x.p.ld
theorem OutCs.at (r : Rd) (a : Addr) (cs : List Value) (x : Out) (h : OutCs r cs x) (k : At r a cs) : OutAt r a x := by
  obtain ⟨a1, a2, a3, a4, a5, a6, rfl, h0, h1⟩ := h
  exact ⟨a1, a2, a3, a4, a5, a6, k, h0, h1⟩
end Go.Gv
namespace Go.Proofs.YtppalofalmieaaaGreat
open Go Go.Gv Go.RowKit
set_option maxRecDepth 100000
set_option maxHeartbeats 1000000
noncomputable def rat_Check_p (p0 : Raw) : Option (Int) :=
  some p0.chk
theorem rat_Check_c (w : World) (X : Hid) (hX : ∀ k o, X k o → k < w.heap.size) (p0 : Raw) (vp0 : Value) (hp0 : RawV (rd w X) vp0 p0) (y : Int) (hp : rat_Check_p p0 = some y) : Calls Tryz.prog 111 #[vp0] w (Ret E0 w fun _ v => v = .int .i64 y) := by
  obtain ⟨a01, a02, a03, a04, a05, a06, rfl, h01, h02⟩ := hp0
  obtain rfl := Option.some.inj hp
  exact rcheck_c w X hX p0 _ _ _ h01 _ _ _ h02
noncomputable def rat_Add_p (p0 : Raw) (p1 : Raw) : Option (Raw × Int) :=
  some (opR p0 p1 (p0.rat + p1.rat), opE p0 p1 (p0.rat + p1.rat))
theorem rat_Add_c (w : World) (X : Hid) (hX : ∀ k o, X k o → k < w.heap.size) (p0 : Raw) (vp0 : Value) (hp0 : RawV (rd w X) vp0 p0) (p1 : Raw) (vp1 : Value) (hp1 : RawV (rd w X) vp1 p1) (y : Raw × Int) (hp : rat_Add_p p0 p1 = some y) : Calls Tryz.prog 35 #[vp0, vp1] w (Ret E0 w fun w' v => ∃ uu0, v = .tuple #[uu0, .int .i64 y.2] ∧ RawV (rd w' (old w)) uu0 y.1) := by
  obtain ⟨a01, a02, a03, a04, a05, a06, rfl, h01, h02⟩ := hp0
  obtain ⟨a11, a12, a13, a14, a15, a16, rfl, h11, h12⟩ := hp1
  obtain rfl := Option.some.inj hp
  exact rAdd_c w X hX p0 _ _ _ h01 _ _ _ h02 p1 _ _ _ h11 _ _ _ h12
noncomputable def rat_Mul_p (p0 : Raw) (p1 : Raw) : Option (Raw × Int) :=
  some (opR p0 p1 (p0.rat * p1.rat), opE p0 p1 (p0.rat * p1.rat))
theorem rat_Mul_c (w : World) (X : Hid) (hX : ∀ k o, X k o → k < w.heap.size) (p0 : Raw) (vp0 : Value) (hp0 : RawV (rd w X) vp0 p0) (p1 : Raw) (vp1 : Value) (hp1 : RawV (rd w X) vp1 p1) (y : Raw × Int) (hp : rat_Mul_p p0 p1 = some y) : Calls Tryz.prog 36 #[vp0, vp1] w (Ret E0 w fun w' v => ∃ uu0, v = .tuple #[uu0, .int .i64 y.2] ∧ RawV (rd w' (old w)) uu0 y.1) := by
  obtain ⟨a01, a02, a03, a04, a05, a06, rfl, h01, h02⟩ := hp0
  obtain ⟨a11, a12, a13, a14, a15, a16, rfl, h11, h12⟩ := hp1
  obtain rfl := Option.some.inj hp
  exact rMul_c w X hX p0 _ _ _ h01 _ _ _ h02 p1 _ _ _ h11 _ _ _ h12
noncomputable def rat_Cmp_p (p0 : Raw) (p1 : Raw) : Option (Int × Int) :=
  some (cmpR p0 p1, cmpE p0 p1)
theorem rat_Cmp_c (w : World) (X : Hid) (hX : ∀ k o, X k o → k < w.heap.size) (p0 : Raw) (vp0 : Value) (hp0 : RawV (rd w X) vp0 p0) (p1 : Raw) (vp1 : Value) (hp1 : RawV (rd w X) vp1 p1) (y : Int × Int) (hp : rat_Cmp_p p0 p1 = some y) : Calls Tryz.prog 110 #[vp0, vp1] w (Ret E0 w fun _ v => v = .tuple #[.int .i64 y.1, .int .i64 y.2]) := by
  obtain ⟨a01, a02, a03, a04, a05, a06, rfl, h01, h02⟩ := hp0
  obtain ⟨a11, a12, a13, a14, a15, a16, rfl, h11, h12⟩ := hp1
  obtain rfl := Option.some.inj hp
  exact rCmp_c w X hX p0 _ _ _ h01 _ _ _ h02 p1 _ _ _ h11 _ _ _ h12
noncomputable def rat_From_p (p0 : Int) : Option (Raw) :=
  grd (-9223372036854775808 ≤ p0 ∧ p0 ≤ 9223372036854775807) (some (Raw.of (p0 : Rat)))
theorem rat_From_c (w : World) (X : Hid) (hX : ∀ k o, X k o → k < w.heap.size) (p0 : Int) (y : Raw) (hp : rat_From_p p0 = some y) : Calls Tryz.prog 37 #[.int .i64 p0] w (Ret E0 w fun w' v => RawV (rd w' (old w)) v y) := by
  obtain ⟨⟨h1, h2⟩, hp⟩ := grdp hp
  obtain rfl := Option.some.inj hp
  exact rFrom_c w (old w) (fun k _ h => h) p0 h1 h2
noncomputable def clearwayref06_From_p (p0 : Int) : Option (Raw) :=
  grd (-9223372036854775808 ≤ p0 ∧ p0 ≤ 9223372036854775807) (some (Raw.of (p0 : Rat)))
theorem clearwayref06_From_c (w : World) (X : Hid) (hX : ∀ k o, X k o → k < w.heap.size) (p0 : Int) (y : Raw) (hp : clearwayref06_From_p p0 = some y) : Calls Tryz.prog 32 #[.int .i64 p0] w (Ret E0 w fun w' v => RawV (rd w' (old w)) v y) := by
  obtain ⟨⟨h1, h2⟩, hp⟩ := grdp hp
  obtain rfl := Option.some.inj hp
  exact rFrom6_c w (old w) (fun k _ h => h) p0 h1 h2
noncomputable def rat_Of_p (p0 : Int) (p1 : Int) : Option (Raw × Int) :=
  grd ((-9223372036854775808 ≤ p0 ∧ p0 ≤ 9223372036854775807) ∧ (-9223372036854775808 ≤ p1 ∧ p1 ≤ 9223372036854775807) ∧ p1 ≠ 0) (some (Raw.of (mkRat (sgn (!(decide (p0 < 0) == decide (p1 < 0))) p0.natAbs) p1.natAbs), 0))
theorem rat_Of_c (w : World) (X : Hid) (hX : ∀ k o, X k o → k < w.heap.size) (p0 : Int) (p1 : Int) (y : Raw × Int) (hp : rat_Of_p p0 p1 = some y) : Calls Tryz.prog 95 #[.int .i64 p0, .int .i64 p1] w (Ret E0 w fun w' v => ∃ uu0, v = .tuple #[uu0, .int .i64 y.2] ∧ RawV (rd w' (old w)) uu0 y.1) := by
  obtain ⟨⟨⟨h1, h2⟩, ⟨h3, h4⟩, h5⟩, hp⟩ := grdp hp
  obtain rfl := Option.some.inj hp
  exact rOf_c w (old w) (fun k _ h => h) p0 p1 h1 h2 h3 h4 h5
noncomputable def clearwayref06_Of_p (p0 : Int) (p1 : Int) : Option (Raw × Int) :=
  grd ((-9223372036854775808 ≤ p0 ∧ p0 ≤ 9223372036854775807) ∧ (-9223372036854775808 ≤ p1 ∧ p1 ≤ 9223372036854775807) ∧ p1 ≠ 0) (some (Raw.of (mkRat (sgn (decide (p0 < 0) != decide (p1 < 0)) p0.natAbs) p1.natAbs), 0))
theorem clearwayref06_Of_c (w : World) (X : Hid) (hX : ∀ k o, X k o → k < w.heap.size) (p0 : Int) (p1 : Int) (y : Raw × Int) (hp : clearwayref06_Of_p p0 p1 = some y) : Calls Tryz.prog 33 #[.int .i64 p0, .int .i64 p1] w (Ret E0 w fun w' v => ∃ uu0, v = .tuple #[uu0, .int .i64 y.2] ∧ RawV (rd w' (old w)) uu0 y.1) := by
  obtain ⟨⟨⟨h1, h2⟩, ⟨h3, h4⟩, h5⟩, hp⟩ := grdp hp
  obtain rfl := Option.some.inj hp
  exact rOf6_c w (old w) (fun k _ h => h) p0 p1 h1 h2 h3 h4 h5
instance (l : List Nat) : Decidable (Canon l) := by unfold Canon; infer_instance
instance (a : Raw) : Decidable (Vr a) := by unfold Vr; infer_instance
noncomputable def clearwaykit_EqualRat_p (p0 : Raw) (p1 : Raw) : Option (Bool) :=
  some (decide (p0 = p1))
theorem clearwaykit_EqualRat_c (w : World) (X : Hid) (hX : ∀ k o, X k o → k < w.heap.size) (p0 : Raw) (vp0 : Value) (hp0 : RawV (rd w X) vp0 p0) (p1 : Raw) (vp1 : Value) (hp1 : RawV (rd w X) vp1 p1) (y : Bool) (hp : clearwaykit_EqualRat_p p0 p1 = some y) : Calls Tryz.prog 14 #[vp0, vp1] w (Ret E0 w fun _ v => v = .bool y) := by
  obtain ⟨a01, a02, a03, a04, a05, a06, rfl, h01, h02⟩ := hp0
  obtain ⟨a11, a12, a13, a14, a15, a16, rfl, h11, h12⟩ := hp1
  obtain rfl := Option.some.inj hp
  exact EqualRat_c w X hX p0 _ _ _ h01 _ _ _ h02 p1 _ _ _ h11 _ _ _ h12
end Go.Proofs.YtppalofalmieaaaGreat

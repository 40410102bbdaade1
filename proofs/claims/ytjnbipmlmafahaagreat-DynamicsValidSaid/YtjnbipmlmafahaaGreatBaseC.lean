/- Parts of the proof: F17 F18 F19 F20 F21 F22 F23 F24 F25 F28 F40 R7 R12 R16 R17 HxB HxC HxD T1 A1 A2. By an AI agent. -/
import Derived.Test.YtjnbipmlmafahaaGreatBaseA
import Derived.Test.YtjnbipmlmafahaaGreatBaseB
set_option linter.unusedVariables false
set_option linter.unusedSimpArgs false
set_option linter.unnecessarySimpa false
namespace Go.Proofs.YtjnbipmlmafahaaGreat
open Go Go.Gv Go.RowKit
set_option maxRecDepth 100000
set_option maxHeartbeats 1000000
theorem cmpI_ge {x y : Nat} (h : cmpI (x : Int) (y : Int) ≥ 0) : y ≤ x := cmpI_ge0 (by omega)
theorem cmpI_nge {x y : Nat} (h : ¬ cmpI (x : Int) (y : Int) ≥ 0) : x < y := cmpI_lt0 (by omega)
theorem divide_c (w : World) (X : Hid) (hX : ∀ k o, X k o → k < w.heap.size) (ad : Option Addr) (len cap : Nat) (l : List Nat) (h : Limbs (rd w X) ad len cap l) (ad2 : Option Addr) (len2 cap2 : Nat) (l2 : List Nat) (h2 : Limbs (rd w X) ad2 len2 cap2 l2) (hc1 : Canon l) (hc2 : Canon l2) (hl1 : len ≤ 512) (hl2 : len2 ≤ 512) (hd : 0 < val l2) : Calls Tryz.prog 170 #[.slice ad len cap, .slice ad2 len2 cap2] w (Ret E0 w fun w' v => ∃ u u2 lq lr ad len cap ad2 len2 cap2, v = .tuple #[u, u2] ∧ OwnN 179 w w' u lq ad len cap (val l / val l2) ∧ OwnN 179 w w' u2 lr ad2 len2 cap2 (val l % val l2)) := by
 obtain rfl := h.hlen
 obtain rfl := h2.hlen
 have hcap := h.hcap
 have hbig := h.hbig
 have hcap2 := h2.hcap
 have hbig2 := h2.hbig
 refine m_enter (n := 38) (vs := [.slice ad l.length cap, .slice ad2 l2.length cap2]) Tryz.func170 rfl rfl rfl kr (fun a0 G0 => ?_)
 have G0 : Fr 38 a0 [(0, .slice ad l.length cap), (1, .slice ad2 l2.length cap2)] := G0
 have C0 : St E0 w X w X [] := St.start hX
 refine zG (fun K1 H1 => ?_)
 refine zC ?_
 refine wplI G0 kr (op_new (d := 3) (fun b => .pointer (some ⟨b, 0, none⟩)) (.cells #[.slice ad2 l2.length cap2] 26 (0, 0)) G0 kr C0 kw ?_)
 intro b2 w2 Y2 C2 B2 hu2 a3 G3
 refine wplI G3 kr (op_new (d := 4) (fun b => .pointer (some ⟨b, 0, none⟩)) (.cells #[.slice none 0 0] 26 (0, 0)) G3 kr C2 kw ?_)
 intro b4 w4 Y4 C4 B4 hu4 a5 G5
 refine wplI G5 kr (op_new (d := 5) (fun b => .pointer (some ⟨b, 0, none⟩)) (.cells #[.slice none 0 0] 26 (0, 0)) G5 kr C4 kw ?_)
 intro b6 w6 Y6 C6 B6 hu6 a7 G7
 refine zH ?_
 refine zA (H1 _ _ ?_)
 refine zG (fun K8 H8 => ?_)
 refine zC ?_
 refine zD 2 [(9, .int .i64 (l.length : Int)), (8, .slice ad l.length cap)] G7 kr kr (fun a9 G9 => ?_)
 refine wplI G9 kr (op_make (d := 10) (t := 26) (e := 179) (m := l.length) (l := (l.length : Int)) (z := .int .u32 0) (i0 := Tryz.t179) G9 kr C6 rfl kr (by first | rfl | omega) kr kr kr kr kr (by show 4 * _ ≤ _; omega) (by omega) ?_)
 intro b10 w10 Y10 C10 B10 hu10 a11 G11
 have hrow10 := URow.zeros l.length (by simp only [maxLen]; omega)
 refine wplI G11 kr (zE (t := 26) (b := b4) (off := 0) (c' := #[.slice (some ⟨b10, 0, none⟩) l.length l.length]) (g := false) (m := 1) 2 _ G11 kr C10 rfl kr rfl kr kr kr rfl (by first | decide | (simp; done)) kr rfl ?_)
 intro w12 C12 B12
 refine zH ?_
 refine zA (H8 _ _ ?_)
 refine zG (fun K13 H13 => ?_)
 refine zG (fun K14 H14 => ?_)
 refine zC ?_
 refine zD 1 [(11, .slice ad l.length cap)] G11 kr kr (fun a15 G15 => ?_)
 refine wplI G15 kr (op_call (d := 12) (f := 187) (cap := #[]) (vs := #[.slice ad l.length cap]) G15 kr C12 rfl kr kr (fun w => Tryz.call187 _ w) (digits_c _ _ C12.lt ad l.length cap) ?_)
 rintro v16 w16 C16 B16 hu16 ⟨bx16, rfl, hge16, hget16⟩ a17 G17
 have C18 := St.adopt C16 (fun o h => Nat.not_lt.2 hge16 (C12.lt _ _ h)) (Nat.le_trans C12.upd.size hge16) hget16
 have B18 := Le.adopt B16 hge16
 refine zH ?_
 refine zA (H14 _ _ ?_)
 refine i_block ?_
 refine i_range2 (f := 195) (caps := #[.pointer (some ⟨bx16, 0, none⟩)]) G17 C18 kr kr (fun args w => Tryz.call195 args w) ?_
 intro rec19 l19 b19 w19 Y19 hr19 C19 B19 hu19
 have G20 := fr_marked b19 G17
 refine digits1_c l19 bx16 ad l.length cap l (by omega) (fun k w' => ∃ (Y' : Hid) (curq : Array Value) (lq : List Nat) (rb : List (Nat × Obj)) (adr : Option Addr) (capr : Nat) (lr : List Nat) (q : Nat), St E0 w X w' Y' ((l19, .loop rec19) :: (b19, .deferred (some [])) :: (bx16, .cells #[.slice ad l.length cap] 26 (0, 0)) :: (b10, .cells curq 179 (0, 0)) :: (b6, .cells #[.slice adr lr.length capr] 26 (0, 0)) :: (b4, .cells #[.slice (some ⟨b10, 0, none⟩) l.length l.length] 26 (0, 0)) :: (b2, .cells #[.slice ad2 l2.length cap2] 26 (0, 0)) :: rb) ∧ Le (rd w19 Y19) (rd w' Y') ∧ (URow l.length l.length curq lq) ∧ (RSt 179 rb adr capr lr) ∧ (Canon lr) ∧ (val lq = 2 ^ k * q) ∧ (val l / 2 ^ k = q * val l2 + val lr) ∧ (val lr < val l2)) _ _ ((h.mono (Le7 B2 B4 B6 B10 B12 B18 B19)).mono Le.x0) ?_ ?_ ?_ ?_ (C19.at0 2 rfl rfl) ?_
 ·
  rintro k w21 ⟨Y21, curq, lq, rb, adr, capr, lr, q, C21, B21, hp21_0, hp21_1, hp21_2, hp21_3, hp21_4, hp21_5⟩
  exact C21.at0 2 rfl rfl
 ·
  rintro k w22 ⟨Y22, curq, lq, rb, adr, capr, lr, q, C22, B22, hp22_0, hp22_1, hp22_2, hp22_3, hp22_4, hp22_5⟩
  intro hk
  obtain ⟨b, off, rfl, _⟩ := h.addr (by omega)
  exact ⟨b, off, rfl, ((h.cell (i := k / 32) (by omega)).mono (Le8 B2 B4 B6 B10 B12 B18 B19 B22)).mono Le.x0⟩
 ·
  intro k w23 hk
  rintro ⟨Y23, curq, lq, rb, adr, capr, lr, q, C23, B23, hp23_0, hp23_1, hp23_2, hp23_3, hp23_4, hp23_5⟩
  refine y_round2 (p := 13) (q := 14) hr19 G17 C23 kr kr (fun a24 G24 => ?_)
  have hkl : k / 32 < l.length := by omega
  have hrowq := hp23_0
  have hrst := hp23_1
  have hcanlr := hp23_2
  have hvq := hp23_3
  have hdiv := hp23_4
  have hlt := hp23_5
  rcases hrst with ⟨rfl, rfl, rfl, rfl⟩ | ⟨gr, curr, rfl, rfl, hrowr⟩
  ·
   refine zG (fun K25 H25 => ?_)
   refine zC ?_
   refine zD 1 [(6, .int .i64 (k : Int))] G24 kr kr (fun a26 G26 => ?_)
   refine zH ?_
   refine zA (H25 _ _ ?_)
   refine zC ?_
   refine zD 1 [(7, .int .u32 ((val l / 2 ^ k % 2 : Nat) : Int))] G26 kr kr (fun a27 G27 => ?_)
   refine zH ?_
   refine zA ?_
   refine y_begin2 hr19 C23 (fun w28 C28 B28 => ?_)
   refine i_block ?_
   refine zG (fun K29 H29 => ?_)
   refine zC ?_
   refine wplI G27 kr (zF (d := 15) (v := .slice none 0 0) G27 kr (zB (t := 26) (g := false) (vs := [.slice none 0 0]) (ad := ⟨b6, 0, none⟩) rfl kr kr ir (C28.cells 4 rfl rfl)) ?_)
   intro a30 G30
   refine zD 1 [(16, .int .u32 ((val l / 2 ^ k % 2 : Nat) : Int))] G30 kr kr (fun a31 G31 => ?_)
   refine wplI G31 kr (op_call (d := 17) (f := 150) (cap := #[]) (vs := #[.slice none 0 0, .int .u32 ((val l / 2 ^ k % 2 : Nat) : Int)]) G31 kr C28 rfl kr kr (fun w => Tryz.call150 _ w) (double_nil _ X0 (X0_lt _) (val l / 2 ^ k % 2) (by omega)) ?_)
   rintro v32 w32 C32 B32 hu32 ⟨ls32, ad32, len32, cap32, ⟨⟨rfl, hl32, hlt32, ho32⟩, hcan32, hval32⟩, hlen32⟩ a33 G33
   have hx32 : val ls32 = 2 * val ([] : List Nat) + val l / 2 ^ k % 2 := by simp only [val]; omega
   rcases ho32 with ⟨rfl, rfl, rfl⟩ | ⟨g32, cur32, rfl, hge32, hget32, hrow32⟩
   ·
    have hn32 : ls32 = [] := List.eq_nil_of_length_eq_zero hl32.symm
    subst hn32
    refine wplI G33 kr (zE (t := 26) (b := b6) (off := 0) (c' := #[.slice none 0 0]) (g := false) (m := 1) 4 _ G33 kr C32 rfl kr rfl kr kr kr rfl (by first | decide | (simp; done)) kr rfl ?_)
    intro w36 C36 B36
    refine zH ?_
    refine zA (H29 _ _ ?_)
    refine zG (fun K37 H37 => ?_)
    refine zC ?_
    refine wplI G33 kr (zF (d := 18) (v := .slice none 0 0) G33 kr (zB (t := 26) (g := false) (vs := [.slice none 0 0]) (ad := ⟨b6, 0, none⟩) rfl kr kr ir (C36.cells 4 rfl rfl)) ?_)
    intro a38 G38
    refine wplI G38 kr (zF (d := 19) (v := .slice ad2 l2.length cap2) G38 kr (zB (t := 26) (g := false) (vs := [.slice ad2 l2.length cap2]) (ad := ⟨b2, 0, none⟩) rfl kr kr ir (C36.cells 6 rfl rfl)) ?_)
    intro a39 G39
    refine wplI G39 kr (op_call (d := 20) (f := 148) (cap := #[]) (vs := #[.slice none 0 0, .slice ad2 l2.length cap2]) G39 kr C36 rfl kr kr (fun w => Tryz.call148 _ w) (order_c _ X0 (X0_lt _) _ _ _ ([]) (Limbs.nil none (by omega)) _ _ _ l2 ((h2.mono (Le11 B2 B4 B6 B10 B12 B18 B19 B23 B28 B32 B36)).mono Le.x0) (.inl rfl) hc2 (by omega)) ?_)
    rintro v40 w40 C40 B40 hu40 rfl a41 G41
    refine zD 1 [(21, .bool (decide ((cmpI (val ([])) (val l2)) ≥ 0)))] G41 kr kr (fun a42 G42 => ?_)
    refine zH ?_
    refine zA (H37 _ _ ?_)
    refine i_cond (decide ((cmpI (val ([])) (val l2)) ≥ 0)) G42 kr kr (fun hc43 => ?_) (fun hc43 => ?_)
    ·
     have G44 := G42.set 21 (v' := .bool true) kr rfl (zJ hc43)
     have ht45 : (cmpI (val ([])) (val l2)) ≥ 0 := of_decide_eq_true hc43
     have hcmp := cmpI_ge ht45
     simp only [val] at hcmp; omega
    have G46 := G42.set 21 (v' := .bool false) kr rfl (zJ hc43)
    have ht47 : ¬ ((cmpI (val ([])) (val l2)) ≥ 0) := of_decide_eq_false hc43
    have hcmp := cmpI_nge ht47
    refine i_skip ?_
    refine blk_norm ?_
    refine y_next2 hr19 C40 (fun w48 C48 B48 => Rounds.next ?_)
    exact ⟨_, curq, lq, [], none, 0, [], (2 * q), C48, (Le6 B23 B28 B32 B36 B40 B48), hrowq, .inl ⟨rfl, rfl, rfl, rfl⟩, (.inl rfl), by rw [hvq, Nat.pow_succ]; ac_rfl, divB hdiv hx32, hcmp⟩
   ·
    subst hl32
    have C34 := St.adopt C32 (fun o h => Nat.not_lt.2 hge32 (C28.lt _ _ h)) (Nat.le_trans C28.upd.size hge32) hget32
    have B34 := Le.adopt B32 hge32
    have C35 := St.mid (B := []) [(l19, .loop (busyL rec19)), (b19, .deferred (some [])), (bx16, .cells #[.slice ad l.length cap] 26 (0, 0)), (b10, .cells curq 179 (0, 0)), (b6, .cells #[.slice none 0 0] 26 (0, 0)), (b4, .cells #[.slice (some ⟨b10, 0, none⟩) l.length l.length] 26 (0, 0)), (b2, .cells #[.slice ad2 l2.length cap2] 26 (0, 0))] C34
    have B35 : Le (rd w32 (hide g32 Y23)) (rd w32 (hide g32 Y23)) := Le.refl _
    refine wplI G33 kr (zE (t := 26) (b := b6) (off := 0) (c' := #[.slice (some ⟨g32, 0, none⟩) ls32.length cap32]) (g := false) (m := 1) 4 _ G33 kr C35 rfl kr rfl kr kr kr rfl (by first | decide | (simp; done)) kr rfl ?_)
    intro w49 C49 B49
    refine zH ?_
    refine zA (H29 _ _ ?_)
    refine zG (fun K50 H50 => ?_)
    refine zC ?_
    refine wplI G33 kr (zF (d := 18) (v := .slice (some ⟨g32, 0, none⟩) ls32.length cap32) G33 kr (zB (t := 26) (g := false) (vs := [.slice (some ⟨g32, 0, none⟩) ls32.length cap32]) (ad := ⟨b6, 0, none⟩) rfl kr kr ir (C49.cells 4 rfl rfl)) ?_)
    intro a51 G51
    refine wplI G51 kr (zF (d := 19) (v := .slice ad2 l2.length cap2) G51 kr (zB (t := 26) (g := false) (vs := [.slice ad2 l2.length cap2]) (ad := ⟨b2, 0, none⟩) rfl kr kr ir (C49.cells 6 rfl rfl)) ?_)
    intro a52 G52
    refine wplI G52 kr (op_call (d := 20) (f := 148) (cap := #[]) (vs := #[.slice (some ⟨g32, 0, none⟩) ls32.length cap32, .slice ad2 l2.length cap2]) G52 kr C49 rfl kr kr (fun w => Tryz.call148 _ w) (order_c _ X0 (X0_lt _) _ _ _ ls32 (URow.limbs (Y := X0) hrow32 (C49.get 7 rfl) (fun _ h => h.elim)) _ _ _ l2 ((h2.mono (Le12 B2 B4 B6 B10 B12 B18 B19 B23 B28 B34 B35 B49)).mono Le.x0) hcan32 hc2 (by omega)) ?_)
    rintro v53 w53 C53 B53 hu53 rfl a54 G54
    refine zD 1 [(21, .bool (decide ((cmpI (val ls32) (val l2)) ≥ 0)))] G54 kr kr (fun a55 G55 => ?_)
    refine zH ?_
    refine zA (H50 _ _ ?_)
    refine i_cond (decide ((cmpI (val ls32) (val l2)) ≥ 0)) G55 kr kr (fun hc56 => ?_) (fun hc56 => ?_)
    ·
     have G57 := G55.set 21 (v' := .bool true) kr rfl (zJ hc56)
     have ht58 : (cmpI (val ls32) (val l2)) ≥ 0 := of_decide_eq_true hc56
     have hcmp := cmpI_ge ht58
     obtain ⟨hset1, hset2, hset3⟩ := setbit lq hrowq.lt k q (by rw [hrowq.len]; exact hkl) hvq
     refine zG (fun K59 H59 => ?_)
     refine zC ?_
     refine wplI G57 kr (zF (d := 22) (v := .slice (some ⟨g32, 0, none⟩) ls32.length cap32) G57 kr (zB (t := 26) (g := false) (vs := [.slice (some ⟨g32, 0, none⟩) ls32.length cap32]) (ad := ⟨b6, 0, none⟩) rfl kr kr ir (C53.cells 4 rfl rfl)) ?_)
     intro a60 G60
     refine wplI G60 kr (zF (d := 23) (v := .slice ad2 l2.length cap2) G60 kr (zB (t := 26) (g := false) (vs := [.slice ad2 l2.length cap2]) (ad := ⟨b2, 0, none⟩) rfl kr kr ir (C53.cells 6 rfl rfl)) ?_)
     intro a61 G61
     refine wplI G61 kr (op_callE (d := 24) (f := 149) (cap := #[]) (vs := #[.slice (some ⟨g32, 0, none⟩) ls32.length cap32, .slice ad2 l2.length cap2]) 7 G61 kr C53 rfl kr kr (fun w => Tryz.call149 _ w) rfl (subtract_c _ g32 ls32.length cap32 _ ls32 (C53.get 7 rfl) hrow32 (by omega) _ _ _ l2 ((h2.mono (Le13 B2 B4 B6 B10 B12 B18 B19 B23 B28 B34 B35 B49 B53)).mono (C53.leHG 7 rfl)) (canon_len hrow32.lt hc2 (by omega)) (by omega)) ?_)
     rintro v62 w62 ob62 ⟨cur62, ls62, rfl, hg62, hrow62, hcan62, hval62⟩ hob62 C62 B62 a63 G63
     obtain rfl := Option.some.inj (hob62.symm.trans hg62)
     refine wplI G63 kr (zE (t := 26) (b := b6) (off := 0) (c' := #[.slice (some ⟨g32, 0, none⟩) ls62.length cap32]) (g := false) (m := 1) 4 _ G63 kr C62 rfl kr rfl kr kr kr rfl (by first | decide | (simp; done)) kr rfl ?_)
     intro w64 C64 B64
     refine zH ?_
     refine zA (H59 _ _ ?_)
     refine i_drawN (N := 11) (Held [(⟨b4, 0, none⟩, [.slice (some ⟨b10, 0, none⟩) l.length l.length]), (⟨b10, k / 32, none⟩, [.int .u32 ((lq.getD (k / 32) 0 : Nat) : Int)])]) [10] kr kr kr C64 ?_
     intro w65 C65 B65 hu65
     refine with_held (Held.cons (C65.cells 5 rfl rfl) (Held.cons (C65.rowCells 3 rfl hrowq (by have := hrowq.len; (try simp only [List.length_set] at *); omega)) (Held.nil _))) (fun hH65 => ?_)
     refine t_load (d := 25) (v := .slice (some ⟨b10, 0, none⟩) l.length l.length) 0 G63 rfl kr kr kr (fun w hw => zB (t := 26) (g := false) (vs := [.slice (some ⟨b10, 0, none⟩) l.length l.length]) (ad := ⟨b4, 0, none⟩) rfl kr kr ir (hw.get 0 kr)) hH65 ?_
     intro a66 G66
     refine zK (d := 26) (v := .int .i64 (k : Int)) 1 G66 rfl kr kr kw (fun _ => hH65) ?_
     intro a67 G67
     refine zK (d := 27) (v := .int .i64 (IntKind.i64.wrap (Int.tdiv ((k : Int)) (32)))) 2 G67 rfl kr kr kw (fun _ => hH65) ?_
     intro a68 G68
     have G69 := G68.set 27 (v' := .int .i64 ((k / 32 : Nat) : Int)) kr rfl (vint (tdiv32 _ (by omega)))
     refine zK (d := 28) (v := .pointer (some ⟨b10, k / 32, none⟩)) 3 G69 rfl kr kr (fun w => run_indexOp (t := 26) (e := 179) (b := b10) (off := 0) (len := l.length) (cap := l.length) (kd := .i64) (i := ((k / 32 : Nat) : Int)) (g := false) (m := 1) (off' := k / 32) rfl kr kr kr kr (by omega) (by omega) (by first | rfl | omega | (simp; done) | (simp; omega)) w) (fun _ => hH65) ?_
     intro a70 G70
     refine t_load (d := 29) (v := .int .u32 ((lq.getD (k / 32) 0 : Nat) : Int)) 4 G70 rfl kr kr kr (fun w hw => zB (t := 179) (g := false) (vs := [.int .u32 ((lq.getD (k / 32) 0 : Nat) : Int)]) (ad := ⟨b10, k / 32, none⟩) rfl kr kr ir (hw.get 1 kr)) hH65 ?_
     intro a71 G71
     refine zK (d := 30) (v := .int .i64 (k : Int)) 5 G71 rfl kr kr kw (fun _ => hH65) ?_
     intro a72 G72
     refine zK (d := 31) (v := .int .i64 (Int.tmod ((k : Int)) (32))) 6 G72 rfl kr kr kw (fun _ => hH65) ?_
     intro a73 G73
     have G74 := G73.set 31 (v' := .int .i64 ((k % 32 : Nat) : Int)) kr rfl (vint (tmod32 _))
     refine zK (d := 32) (v := .int .u32 ((2 ^ (k % 32) : Nat) : Int)) 7 G74 rfl kr kr (fun w => run_shl1 rfl rfl rfl (by omega)) (fun _ => hH65) ?_
     intro a75 G75
     refine zK (d := 33) (v := .int .u32 (bor32 ((lq.getD (k / 32) 0 : Nat) : Int) ((2 ^ (k % 32) : Nat) : Int))) 8 G75 rfl kr kr kw (fun _ => hH65) ?_
     intro a76 G76
     have G77 := G76.set 33 (v' := .int .u32 ((lq.getD (k / 32) 0 + 2 ^ (k % 32) : Nat) : Int)) kr rfl (vint hset1)
     refine zK (d := 34) (v := .pointer (some ⟨b10, k / 32, none⟩)) 9 G77 rfl kr kr (fun w => run_indexOp (t := 26) (e := 179) (b := b10) (off := 0) (len := l.length) (cap := l.length) (kd := .i64) (i := ((k / 32 : Nat) : Int)) (g := false) (m := 1) (off' := k / 32) rfl kr kr kr kr (by omega) (by omega) (by first | rfl | omega | (simp; done) | (simp; omega)) w) (fun _ => hH65) ?_
     intro a78 G78
     refine t_fork [10] kr rfl ?_
     refine ForkT.cons (i := 10) G78 rfl kr (op_storeU (t := 179) (y := (lq.getD (k / 32) 0 + 2 ^ (k % 32))) (k := k / 32) (e := ((lq.getD (k / 32) 0 + 2 ^ (k % 32) : Nat) : Int)) 3 G78 kr C65 rfl rfl rfl (rfl) kr rfl hrowq (by have := hrowq.len; (try simp only [List.length_set] at *); omega) (hset2) ?_) ForkT.nil
     intro cur79 w79 hrow79 C79 B79
     refine ⟨begun_tt kr, ?_⟩
     refine t_done kr (nrm ?_)
     refine blk_norm ?_
     refine y_next2 hr19 C79 (fun w80 C80 B80 => Rounds.next ?_)
     exact ⟨_, cur79, (lq.set (k / 32) (lq.getD (k / 32) 0 + 2 ^ (k % 32))), [(g32, .cells cur62 179 (0, 0))], (some ⟨g32, 0, none⟩), cap32, ls62, (2 * q + 1), C80, (Le11 B23 B28 B34 B35 B49 B53 B62 B64 B65 B79 B80), hrow79, .inr ⟨_, _, rfl, rfl, hrow62⟩, hcan62, by rw [hset3, hvq, Nat.pow_succ, Nat.mul_add, Nat.mul_one]; congr 1; ac_rfl, divA hdiv (hval62.trans (by rw [hx32])) (by omega), by have := hval62; omega⟩
    have G81 := G55.set 21 (v' := .bool false) kr rfl (zJ hc56)
    have ht82 : ¬ ((cmpI (val ls32) (val l2)) ≥ 0) := of_decide_eq_false hc56
    have hcmp := cmpI_nge ht82
    refine i_skip ?_
    refine blk_norm ?_
    refine y_next2 hr19 C53 (fun w83 C83 B83 => Rounds.next ?_)
    exact ⟨_, curq, lq, [(g32, .cells cur32 179 (0, 0))], (some ⟨g32, 0, none⟩), cap32, ls32, (2 * q), C83, (Le7 B23 B28 B34 B35 B49 B53 B83), hrowq, .inr ⟨_, _, rfl, rfl, hrow32⟩, hcan32, by rw [hvq, Nat.pow_succ]; ac_rfl, divB hdiv hx32, hcmp⟩
  ·
   refine zG (fun K84 H84 => ?_)
   refine zC ?_
   refine zD 1 [(6, .int .i64 (k : Int))] G24 kr kr (fun a85 G85 => ?_)
   refine zH ?_
   refine zA (H84 _ _ ?_)
   refine zC ?_
   refine zD 1 [(7, .int .u32 ((val l / 2 ^ k % 2 : Nat) : Int))] G85 kr kr (fun a86 G86 => ?_)
   refine zH ?_
   refine zA ?_
   refine y_begin2 hr19 C23 (fun w87 C87 B87 => ?_)
   refine i_block ?_
   refine zG (fun K88 H88 => ?_)
   refine zC ?_
   refine wplI G86 kr (zF (d := 15) (v := .slice (some ⟨gr, 0, none⟩) lr.length capr) G86 kr (zB (t := 26) (g := false) (vs := [.slice (some ⟨gr, 0, none⟩) lr.length capr]) (ad := ⟨b6, 0, none⟩) rfl kr kr ir (C87.cells 4 rfl rfl)) ?_)
   intro a89 G89
   refine zD 1 [(16, .int .u32 ((val l / 2 ^ k % 2 : Nat) : Int))] G89 kr kr (fun a90 G90 => ?_)
   have hlnr := canon_len h2.hlt hcanlr (Nat.le_of_lt hlt)
   refine wplI G90 kr (op_callG (d := 17) (f := 150) (cap := #[]) (vs := #[.slice (some ⟨gr, 0, none⟩) lr.length capr, .int .u32 ((val l / 2 ^ k % 2 : Nat) : Int)]) 7 G90 kr C87 rfl kr kr (fun w => Tryz.call150 _ w) rfl (double_c _ gr lr.length capr _ lr (C87.get 7 rfl) hrowr (by omega) hcanlr (val l / 2 ^ k % 2) (by omega)) ?_)
   rintro v91 w91 Y91 g91 o91 ⟨cur91, cap91, ls91, rfl, rfl, hrow91, hlen91, hcan91, hval91⟩ C91 B91 a92 G92
   refine wplI G92 kr (zE (t := 26) (b := b6) (off := 0) (c' := #[.slice (some ⟨g91, 0, none⟩) ls91.length cap91]) (g := false) (m := 1) 4 _ G92 kr C91 rfl kr rfl kr kr kr rfl (by first | decide | (simp; done)) kr rfl ?_)
   intro w93 C93 B93
   refine zH ?_
   refine zA (H88 _ _ ?_)
   refine zG (fun K94 H94 => ?_)
   refine zC ?_
   refine wplI G92 kr (zF (d := 18) (v := .slice (some ⟨g91, 0, none⟩) ls91.length cap91) G92 kr (zB (t := 26) (g := false) (vs := [.slice (some ⟨g91, 0, none⟩) ls91.length cap91]) (ad := ⟨b6, 0, none⟩) rfl kr kr ir (C93.cells 4 rfl rfl)) ?_)
   intro a95 G95
   refine wplI G95 kr (zF (d := 19) (v := .slice ad2 l2.length cap2) G95 kr (zB (t := 26) (g := false) (vs := [.slice ad2 l2.length cap2]) (ad := ⟨b2, 0, none⟩) rfl kr kr ir (C93.cells 6 rfl rfl)) ?_)
   intro a96 G96
   refine wplI G96 kr (op_call (d := 20) (f := 148) (cap := #[]) (vs := #[.slice (some ⟨g91, 0, none⟩) ls91.length cap91, .slice ad2 l2.length cap2]) G96 kr C93 rfl kr kr (fun w => Tryz.call148 _ w) (order_c _ X0 (X0_lt _) _ _ _ ls91 (URow.limbs (Y := X0) hrow91 (C93.get 7 rfl) (fun _ h => h.elim)) _ _ _ l2 ((h2.mono (Le11 B2 B4 B6 B10 B12 B18 B19 B23 B87 B91 B93)).mono Le.x0) hcan91 hc2 (by omega)) ?_)
   rintro v97 w97 C97 B97 hu97 rfl a98 G98
   refine zD 1 [(21, .bool (decide ((cmpI (val ls91) (val l2)) ≥ 0)))] G98 kr kr (fun a99 G99 => ?_)
   refine zH ?_
   refine zA (H94 _ _ ?_)
   refine i_cond (decide ((cmpI (val ls91) (val l2)) ≥ 0)) G99 kr kr (fun hc100 => ?_) (fun hc100 => ?_)
   ·
    have G101 := G99.set 21 (v' := .bool true) kr rfl (zJ hc100)
    have ht102 : (cmpI (val ls91) (val l2)) ≥ 0 := of_decide_eq_true hc100
    have hcmp := cmpI_ge ht102
    obtain ⟨hset1, hset2, hset3⟩ := setbit lq hrowq.lt k q (by rw [hrowq.len]; exact hkl) hvq
    refine zG (fun K103 H103 => ?_)
    refine zC ?_
    refine wplI G101 kr (zF (d := 22) (v := .slice (some ⟨g91, 0, none⟩) ls91.length cap91) G101 kr (zB (t := 26) (g := false) (vs := [.slice (some ⟨g91, 0, none⟩) ls91.length cap91]) (ad := ⟨b6, 0, none⟩) rfl kr kr ir (C97.cells 4 rfl rfl)) ?_)
    intro a104 G104
    refine wplI G104 kr (zF (d := 23) (v := .slice ad2 l2.length cap2) G104 kr (zB (t := 26) (g := false) (vs := [.slice ad2 l2.length cap2]) (ad := ⟨b2, 0, none⟩) rfl kr kr ir (C97.cells 6 rfl rfl)) ?_)
    intro a105 G105
    refine wplI G105 kr (op_callE (d := 24) (f := 149) (cap := #[]) (vs := #[.slice (some ⟨g91, 0, none⟩) ls91.length cap91, .slice ad2 l2.length cap2]) 7 G105 kr C97 rfl kr kr (fun w => Tryz.call149 _ w) rfl (subtract_c _ g91 ls91.length cap91 _ ls91 (C97.get 7 rfl) hrow91 (by omega) _ _ _ l2 ((h2.mono (Le12 B2 B4 B6 B10 B12 B18 B19 B23 B87 B91 B93 B97)).mono (C97.leHG 7 rfl)) (canon_len hrow91.lt hc2 (by omega)) (by omega)) ?_)
    rintro v106 w106 ob106 ⟨cur106, ls106, rfl, hg106, hrow106, hcan106, hval106⟩ hob106 C106 B106 a107 G107
    obtain rfl := Option.some.inj (hob106.symm.trans hg106)
    refine wplI G107 kr (zE (t := 26) (b := b6) (off := 0) (c' := #[.slice (some ⟨g91, 0, none⟩) ls106.length cap91]) (g := false) (m := 1) 4 _ G107 kr C106 rfl kr rfl kr kr kr rfl (by first | decide | (simp; done)) kr rfl ?_)
    intro w108 C108 B108
    refine zH ?_
    refine zA (H103 _ _ ?_)
    refine i_drawN (N := 11) (Held [(⟨b4, 0, none⟩, [.slice (some ⟨b10, 0, none⟩) l.length l.length]), (⟨b10, k / 32, none⟩, [.int .u32 ((lq.getD (k / 32) 0 : Nat) : Int)])]) [10] kr kr kr C108 ?_
    intro w109 C109 B109 hu109
    refine with_held (Held.cons (C109.cells 5 rfl rfl) (Held.cons (C109.rowCells 3 rfl hrowq (by have := hrowq.len; (try simp only [List.length_set] at *); omega)) (Held.nil _))) (fun hH109 => ?_)
    refine t_load (d := 25) (v := .slice (some ⟨b10, 0, none⟩) l.length l.length) 0 G107 rfl kr kr kr (fun w hw => zB (t := 26) (g := false) (vs := [.slice (some ⟨b10, 0, none⟩) l.length l.length]) (ad := ⟨b4, 0, none⟩) rfl kr kr ir (hw.get 0 kr)) hH109 ?_
    intro a110 G110
    refine zK (d := 26) (v := .int .i64 (k : Int)) 1 G110 rfl kr kr kw (fun _ => hH109) ?_
    intro a111 G111
    refine zK (d := 27) (v := .int .i64 (IntKind.i64.wrap (Int.tdiv ((k : Int)) (32)))) 2 G111 rfl kr kr kw (fun _ => hH109) ?_
    intro a112 G112
    have G113 := G112.set 27 (v' := .int .i64 ((k / 32 : Nat) : Int)) kr rfl (vint (tdiv32 _ (by omega)))
    refine zK (d := 28) (v := .pointer (some ⟨b10, k / 32, none⟩)) 3 G113 rfl kr kr (fun w => run_indexOp (t := 26) (e := 179) (b := b10) (off := 0) (len := l.length) (cap := l.length) (kd := .i64) (i := ((k / 32 : Nat) : Int)) (g := false) (m := 1) (off' := k / 32) rfl kr kr kr kr (by omega) (by omega) (by first | rfl | omega | (simp; done) | (simp; omega)) w) (fun _ => hH109) ?_
    intro a114 G114
    refine t_load (d := 29) (v := .int .u32 ((lq.getD (k / 32) 0 : Nat) : Int)) 4 G114 rfl kr kr kr (fun w hw => zB (t := 179) (g := false) (vs := [.int .u32 ((lq.getD (k / 32) 0 : Nat) : Int)]) (ad := ⟨b10, k / 32, none⟩) rfl kr kr ir (hw.get 1 kr)) hH109 ?_
    intro a115 G115
    refine zK (d := 30) (v := .int .i64 (k : Int)) 5 G115 rfl kr kr kw (fun _ => hH109) ?_
    intro a116 G116
    refine zK (d := 31) (v := .int .i64 (Int.tmod ((k : Int)) (32))) 6 G116 rfl kr kr kw (fun _ => hH109) ?_
    intro a117 G117
    have G118 := G117.set 31 (v' := .int .i64 ((k % 32 : Nat) : Int)) kr rfl (vint (tmod32 _))
    refine zK (d := 32) (v := .int .u32 ((2 ^ (k % 32) : Nat) : Int)) 7 G118 rfl kr kr (fun w => run_shl1 rfl rfl rfl (by omega)) (fun _ => hH109) ?_
    intro a119 G119
    refine zK (d := 33) (v := .int .u32 (bor32 ((lq.getD (k / 32) 0 : Nat) : Int) ((2 ^ (k % 32) : Nat) : Int))) 8 G119 rfl kr kr kw (fun _ => hH109) ?_
    intro a120 G120
    have G121 := G120.set 33 (v' := .int .u32 ((lq.getD (k / 32) 0 + 2 ^ (k % 32) : Nat) : Int)) kr rfl (vint hset1)
    refine zK (d := 34) (v := .pointer (some ⟨b10, k / 32, none⟩)) 9 G121 rfl kr kr (fun w => run_indexOp (t := 26) (e := 179) (b := b10) (off := 0) (len := l.length) (cap := l.length) (kd := .i64) (i := ((k / 32 : Nat) : Int)) (g := false) (m := 1) (off' := k / 32) rfl kr kr kr kr (by omega) (by omega) (by first | rfl | omega | (simp; done) | (simp; omega)) w) (fun _ => hH109) ?_
    intro a122 G122
    refine t_fork [10] kr rfl ?_
    refine ForkT.cons (i := 10) G122 rfl kr (op_storeU (t := 179) (y := (lq.getD (k / 32) 0 + 2 ^ (k % 32))) (k := k / 32) (e := ((lq.getD (k / 32) 0 + 2 ^ (k % 32) : Nat) : Int)) 3 G122 kr C109 rfl rfl rfl (rfl) kr rfl hrowq (by have := hrowq.len; (try simp only [List.length_set] at *); omega) (hset2) ?_) ForkT.nil
    intro cur123 w123 hrow123 C123 B123
    refine ⟨begun_tt kr, ?_⟩
    refine t_done kr (nrm ?_)
    refine blk_norm ?_
    refine y_next2 hr19 C123 (fun w124 C124 B124 => Rounds.next ?_)
    exact ⟨_, cur123, (lq.set (k / 32) (lq.getD (k / 32) 0 + 2 ^ (k % 32))), [(g91, .cells cur106 179 (0, 0))], (some ⟨g91, 0, none⟩), cap91, ls106, (2 * q + 1), C124, (Le10 B23 B87 B91 B93 B97 B106 B108 B109 B123 B124), hrow123, .inr ⟨_, _, rfl, rfl, hrow106⟩, hcan106, by rw [hset3, hvq, Nat.pow_succ, Nat.mul_add, Nat.mul_one]; congr 1; ac_rfl, divA hdiv (hval106.trans (by rw [hval91])) (by omega), by have := hval106; omega⟩
   have G125 := G99.set 21 (v' := .bool false) kr rfl (zJ hc100)
   have ht126 : ¬ ((cmpI (val ls91) (val l2)) ≥ 0) := of_decide_eq_false hc100
   have hcmp := cmpI_nge ht126
   refine i_skip ?_
   refine blk_norm ?_
   refine y_next2 hr19 C97 (fun w127 C127 B127 => Rounds.next ?_)
   exact ⟨_, curq, lq, [(g91, .cells cur91 179 (0, 0))], (some ⟨g91, 0, none⟩), cap91, ls91, (2 * q), C127, (Le6 B23 B87 B91 B93 B97 B127), hrowq, .inr ⟨_, _, rfl, rfl, hrow91⟩, hcan91, by rw [hvq, Nat.pow_succ]; ac_rfl, divB hdiv hval91, hcmp⟩
 ·
  rintro w128 ⟨Y128, curq, lq, rb, adr, capr, lr, q, C128, B128, hp128_0, hp128_1, hp128_2, hp128_3, hp128_4, hp128_5⟩
  refine RangeEnd.norm hr19 C128 (fun w129 C129 B129 => ?_)
  have hrowq := hp128_0
  have hrst := hp128_1
  have hcanlr := hp128_2
  have hvq := hp128_3
  have hdiv := hp128_4
  have hlt := hp128_5
  rcases hrst with ⟨rfl, rfl, rfl, rfl⟩ | ⟨gr, curr, rfl, rfl, hrowr⟩
  ·
   refine blk_norm ?_
   refine zA (H13 _ _ ?_)
   refine zG (fun K130 H130 => ?_)
   refine i_drawN (N := 5) (Held [(⟨b6, 0, none⟩, [.slice none 0 0])]) [4] kr kr kr C129 ?_
   intro w131 C131 B131 hu131
   refine with_held (Held.cons (C131.cells 4 rfl rfl) (Held.nil _)) (fun hH131 => ?_)
   refine t_load (d := 37) (v := .slice none 0 0) 2 G20 rfl kr kr kr (fun w hw => zB (t := 26) (g := false) (vs := [.slice none 0 0]) (ad := ⟨b6, 0, none⟩) rfl kr kr ir (hw.get 0 kr)) hH131 ?_
   intro a132 G132
   refine t_fork [0] kr rfl ?_
   refine ForkT.cons (i := 0) G132 rfl kr (zF (d := 35) (v := .slice (some ⟨b10, 0, none⟩) l.length l.length) G132 kr (zB (t := 26) (g := false) (vs := [.slice (some ⟨b10, 0, none⟩) l.length l.length]) (ad := ⟨b4, 0, none⟩) rfl kr kr ir (C131.cells 5 rfl rfl)) ?_) ForkT.nil
   intro a133 G133
   refine held_next (Held.cons (C131.cells 4 rfl rfl) (Held.nil _)) (fun hH131 => ?_)
   refine t_fork [1] kr rfl ?_
   refine ForkT.cons (i := 1) G133 rfl kr (op_call (d := 36) (f := 151) (cap := #[]) (vs := #[.slice (some ⟨b10, 0, none⟩) l.length l.length]) G133 kr C131 rfl kr kr (fun w => Tryz.call151 _ w) (trim_c _ X0 (X0_lt _) _ _ _ lq (URow.limbs (Y := X0) hrowq (C131.get 3 rfl) (fun _ h => h.elim))) ?_) ForkT.nil
   rintro v134 w134 C134 B134 hu134 rfl a135 G135
   refine held_next (Held.cons (C134.cells 4 rfl rfl) (Held.nil _)) (fun hH134 => ?_)
   refine t_fork [3] kr rfl ?_
   refine ForkT.cons (i := 3) G135 rfl kr (zE (t := 26) (b := b4) (off := 0) (c' := #[.slice (some ⟨b10, 0, none⟩) (trimN lq) l.length]) (g := false) (m := 1) 5 _ G135 kr C134 rfl kr rfl kr kr kr rfl (by first | decide | (simp; done)) kr rfl ?_) ForkT.nil
   intro w136 C136 B136
   refine held_next (Held.cons (C136.cells 4 rfl rfl) (Held.nil _)) (fun hH136 => ?_)
   refine t_fork [4] kr rfl ?_
   refine ForkT.cons (i := 4) G135 rfl kr (zE (t := 26) (b := b6) (off := 0) (c' := #[.slice none 0 0]) (g := false) (m := 1) 4 _ G135 kr C136 rfl kr rfl kr kr kr rfl (by first | decide | (simp; done)) kr rfl ?_) ForkT.nil
   intro w137 C137 B137
   refine ⟨begun_tt kr, ?_⟩
   refine t_done kr (nrm ?_)
   refine zA (H130 _ _ ?_)
   refine i_ret ?_
   refine m_ret1 (v := .tuple #[.slice (some ⟨b10, 0, none⟩) (trimN lq) l.length, .slice none 0 0]) (rs := [.cell 4 26, .cell 5 26]) (vs := [.slice (some ⟨b10, 0, none⟩) (trimN lq) l.length, .slice none 0 0]) 1 G135 C137 rfl kr kr (fun w138 C138 B138 => ?_)
   refine ⟨(Res.cell (ad := ⟨b4, 0, none⟩) (cs := [.slice (some ⟨b10, 0, none⟩) (trimN lq) l.length]) (g := false) kr kr kr ir (C138.cells 5 rfl rfl) (Res.cell (ad := ⟨b6, 0, none⟩) (cs := [.slice none 0 0]) (g := false) kr kr kr ir (C138.cells 4 rfl rfl) Res.nil)), ?_⟩
   obtain ⟨he1, he2⟩ := divEnd hdiv hlt hvq
   exact ⟨C138.upd, _, rfl, _, _, Go.Gv.trimmed lq, [], _, _, _, _, _, _, rfl, ⟨⟨rfl, (trimmed_length _).symm, trimmed_lt hrowq.lt, .inr ⟨_, _, rfl, C138.own_ge 3 rfl, C138.get 3 rfl, hrowq.trimmed⟩⟩, canon_trimmed _, by rw [val_trimmed]; exact he1⟩, ⟨⟨rfl, rfl, fun x hx => by simp at hx, .inl ⟨rfl, rfl, rfl⟩⟩, .inl rfl, he2⟩⟩
  ·
   refine blk_norm ?_
   refine zA (H13 _ _ ?_)
   refine zG (fun K139 H139 => ?_)
   refine i_drawN (N := 5) (Held [(⟨b6, 0, none⟩, [.slice (some ⟨gr, 0, none⟩) lr.length capr])]) [4] kr kr kr C129 ?_
   intro w140 C140 B140 hu140
   refine with_held (Held.cons (C140.cells 4 rfl rfl) (Held.nil _)) (fun hH140 => ?_)
   refine t_load (d := 37) (v := .slice (some ⟨gr, 0, none⟩) lr.length capr) 2 G20 rfl kr kr kr (fun w hw => zB (t := 26) (g := false) (vs := [.slice (some ⟨gr, 0, none⟩) lr.length capr]) (ad := ⟨b6, 0, none⟩) rfl kr kr ir (hw.get 0 kr)) hH140 ?_
   intro a141 G141
   refine t_fork [0] kr rfl ?_
   refine ForkT.cons (i := 0) G141 rfl kr (zF (d := 35) (v := .slice (some ⟨b10, 0, none⟩) l.length l.length) G141 kr (zB (t := 26) (g := false) (vs := [.slice (some ⟨b10, 0, none⟩) l.length l.length]) (ad := ⟨b4, 0, none⟩) rfl kr kr ir (C140.cells 5 rfl rfl)) ?_) ForkT.nil
   intro a142 G142
   refine held_next (Held.cons (C140.cells 4 rfl rfl) (Held.nil _)) (fun hH140 => ?_)
   refine t_fork [1] kr rfl ?_
   refine ForkT.cons (i := 1) G142 rfl kr (op_call (d := 36) (f := 151) (cap := #[]) (vs := #[.slice (some ⟨b10, 0, none⟩) l.length l.length]) G142 kr C140 rfl kr kr (fun w => Tryz.call151 _ w) (trim_c _ X0 (X0_lt _) _ _ _ lq (URow.limbs (Y := X0) hrowq (C140.get 3 rfl) (fun _ h => h.elim))) ?_) ForkT.nil
   rintro v143 w143 C143 B143 hu143 rfl a144 G144
   refine held_next (Held.cons (C143.cells 4 rfl rfl) (Held.nil _)) (fun hH143 => ?_)
   refine t_fork [3] kr rfl ?_
   refine ForkT.cons (i := 3) G144 rfl kr (zE (t := 26) (b := b4) (off := 0) (c' := #[.slice (some ⟨b10, 0, none⟩) (trimN lq) l.length]) (g := false) (m := 1) 5 _ G144 kr C143 rfl kr rfl kr kr kr rfl (by first | decide | (simp; done)) kr rfl ?_) ForkT.nil
   intro w145 C145 B145
   refine held_next (Held.cons (C145.cells 4 rfl rfl) (Held.nil _)) (fun hH145 => ?_)
   refine t_fork [4] kr rfl ?_
   refine ForkT.cons (i := 4) G144 rfl kr (zE (t := 26) (b := b6) (off := 0) (c' := #[.slice (some ⟨gr, 0, none⟩) lr.length capr]) (g := false) (m := 1) 4 _ G144 kr C145 rfl kr rfl kr kr kr rfl (by first | decide | (simp; done)) kr rfl ?_) ForkT.nil
   intro w146 C146 B146
   refine ⟨begun_tt kr, ?_⟩
   refine t_done kr (nrm ?_)
   refine zA (H139 _ _ ?_)
   refine i_ret ?_
   refine m_ret1 (v := .tuple #[.slice (some ⟨b10, 0, none⟩) (trimN lq) l.length, .slice (some ⟨gr, 0, none⟩) lr.length capr]) (rs := [.cell 4 26, .cell 5 26]) (vs := [.slice (some ⟨b10, 0, none⟩) (trimN lq) l.length, .slice (some ⟨gr, 0, none⟩) lr.length capr]) 1 G144 C146 rfl kr kr (fun w147 C147 B147 => ?_)
   refine ⟨(Res.cell (ad := ⟨b4, 0, none⟩) (cs := [.slice (some ⟨b10, 0, none⟩) (trimN lq) l.length]) (g := false) kr kr kr ir (C147.cells 5 rfl rfl) (Res.cell (ad := ⟨b6, 0, none⟩) (cs := [.slice (some ⟨gr, 0, none⟩) lr.length capr]) (g := false) kr kr kr ir (C147.cells 4 rfl rfl) Res.nil)), ?_⟩
   obtain ⟨he1, he2⟩ := divEnd hdiv hlt hvq
   exact ⟨C147.upd, _, rfl, _, _, Go.Gv.trimmed lq, lr, _, _, _, _, _, _, rfl, ⟨⟨rfl, (trimmed_length _).symm, trimmed_lt hrowq.lt, .inr ⟨_, _, rfl, C147.own_ge 3 rfl, C147.get 3 rfl, hrowq.trimmed⟩⟩, canon_trimmed _, by rw [val_trimmed]; exact he1⟩, ⟨⟨rfl, rfl, hrowr.lt, .inr ⟨_, _, rfl, C147.own_ge 7 rfl, C147.get 7 rfl, hrowr⟩⟩, hcanlr, he2⟩⟩
 ·
  intro k w9 hu9 hm1 hm2
  exact ⟨_, (List.replicate l.length (Value.int .u32 0)).toArray, (List.replicate l.length 0), [], none, 0, [], 0, C19.call hu9, hu9.le _, hrow10, .inl ⟨rfl, rfl, rfl, rfl⟩, .inl rfl, by rw [val_replicate]; rfl, by rw [Nat.div_eq_of_lt hm1]; simp [val], hd⟩
end Go.Proofs.YtjnbipmlmafahaaGreat
namespace Go.Proofs.YtjnbipmlmafahaaGreat
open Go Go.Gv Go.RowKit
set_option maxRecDepth 100000
set_option maxHeartbeats 1000000
def zeroE (y : Nat) : Int := if y = 0 then 14 else 0
theorem DivMod_c (w : World) (X : Hid) (hX : ∀ k o, X k o → k < w.heap.size) (ad : Option Addr) (len cap : Nat) (l : List Nat) (h : Limbs (rd w X) ad len cap l) (ad2 : Option Addr) (len2 cap2 : Nat) (l2 : List Nat) (h2 : Limbs (rd w X) ad2 len2 cap2 l2) : Calls Tryz.prog 154 #[.slice ad len cap, .slice ad2 len2 cap2] w (Ret E0 w fun w' v => DivV 179 w w' (or2 (chk2 l l2) (zeroE (val l2))) (val l / val l2) (val l % val l2) v) := by
 obtain rfl := h.hlen
 obtain rfl := h2.hlen
 have hcap := h.hcap
 have hbig := h.hbig
 have hcap2 := h2.hcap
 have hbig2 := h2.hbig
 refine zen Tryz.func154 ?_
 have C0 : St E0 w X w X [] := St.start hX
 refine zz 12 ?_
 refine zc C0 (bcheck2 _ X0 (X0_lt _) _ _ _ l (h.mono Le.x0) _ _ _ l2 (h2.mono Le.x0)) ?_
 rintro v3 w3 C3 B3 hu3 rfl
 refine zz 11 ?_
 refine zb 11 (b := ((chk2 l l2) != 0)) (fun hc4 => ?_) (fun hc4 => ?_)
 ·
  have ht5 : (chk2 l l2) ≠ 0 := by simpa using hc4
  refine zz 12 ?_
  refine zr' (v := .tuple #[.slice none 0 0, .slice none 0 0, .int .i64 (chk2 l l2)]) ?_
  exact ⟨C3.upd, _, rfl, by rw [or2_err ht5]; exact .inl ⟨ht5, rfl⟩⟩
 have ht6 : (chk2 l l2) = 0 := by simpa using hc4
 obtain ⟨⟨hl1, c1⟩, hl2, c2⟩ := chk2_ok ht6
 refine zz 9 ?_
 refine zb 15 (b := ((l2.length : Int) == 0)) (fun hc7 => ?_) (fun hc7 => ?_)
 ·
  have ht8 : (l2.length : Int) = 0 := by simpa using hc7
  have hz : val l2 = 0 := by rw [List.eq_nil_of_length_eq_zero (by omega : l2.length = 0)]; rfl
  refine zz 11 ?_
  refine zr' (v := .tuple #[.slice none 0 0, .slice none 0 0, .int .i64 14]) ?_
  exact ⟨C3.upd, _, rfl, by rw [or2_ok ht6, zeroE, if_pos hz]; exact .inl ⟨by decide, rfl⟩⟩
 have ht9 : (l2.length : Int) ≠ 0 := by simpa using hc7
 have hp : 0 < val l2 := canon_pos c2 (by rintro rfl; simp at ht9)
 refine zz 8 ?_
 refine zc C3 (divide_c _ X0 (X0_lt _) _ _ _ l ((h.mono B3).mono Le.x0) _ _ _ l2 ((h2.mono B3).mono Le.x0) c1 c2 (by omega) (by omega) hp) ?_
 rintro v11 w11 C11 B11 hu11 ⟨u11, v211, lq11, lr11, adq11, lenq11, capq11, adr11, lenr11, capr11, rfl, hq11, hr11⟩
 obtain rfl := hq11.own.hv; obtain rfl := hr11.own.hv
 refine zz 17 ?_
 refine zr' (v := .tuple #[.slice adq11 lenq11 capq11, .slice adr11 lenr11 capr11, .int .i64 0]) ?_
 have hsz := (C3).upd.size
 exact ⟨C11.upd, _, rfl, by rw [or2_ok ht6, zeroE, if_neg (by omega)]; exact .inr ⟨rfl, _, _, _, _, _, _, _, _, _, _, rfl, hq11.back hsz, Nat.le_trans (canon_len h.hlt hq11.canon (by rw [hq11.val]; exact Nat.div_le_self _ _)) hl1, hr11.back hsz, Nat.le_trans (canon_len h.hlt hr11.canon (by rw [hr11.val]; exact Nat.mod_le _ _)) hl1⟩⟩
end Go.Proofs.YtjnbipmlmafahaaGreat
namespace Go.Proofs.YtjnbipmlmafahaaGreat
open Go Go.Gv Go.RowKit
set_option maxRecDepth 100000
set_option maxHeartbeats 1000000
theorem chk2_of {l l2 : List Nat} (h : l.length ≤ 512) (hc : Canon l) (h2 : l2.length ≤ 512) (hc2 : Canon l2) : chk2 l l2 = 0 := by
  unfold chk2; rw [chkN_of h hc, chkN_of h2 hc2]; rfl
theorem Mul_n (w : World) (ad : Option Addr) (len cap x : Nat) (h : NatR (rd w X0) ad len cap x) (ad2 : Option Addr) (len2 cap2 y : Nat) (h2 : NatR (rd w X0) ad2 len2 cap2 y) (hx : x < 4294967296 ^ 512) (hy : y < 4294967296 ^ 512) (hf : x * y < 4294967296 ^ 512) : Calls Tryz.prog 158 #[.slice ad len cap, .slice ad2 len2 cap2] w (Ret E0 w fun w' v => ∃ u, v = .tuple #[u, .int .i64 0] ∧ NatV w w' u (x * y)) := by
  obtain ⟨l, hl, hc, rfl, hn⟩ := h.limbs hx
  obtain ⟨l2, hl2, hc2, rfl, hn2⟩ := h2.limbs hy
  refine (Mul_c w X0 (X0_lt _) ad len cap l hl ad2 len2 cap2 l2 hl2).mono ?_
  rintro e w' ⟨hu, v, rfl, hv⟩
  obtain ⟨u, lr, adr, lenr, capr, rfl, hown, _⟩ := hv.ok (by rw [or2_ok (chk2_of hn hc hn2 hc2)]; unfold fitE; rw [if_pos hf])
  exact ⟨hu, _, rfl, u, rfl, hown.natV⟩
theorem Add_n (w : World) (ad : Option Addr) (len cap x : Nat) (h : NatR (rd w X0) ad len cap x) (ad2 : Option Addr) (len2 cap2 y : Nat) (h2 : NatR (rd w X0) ad2 len2 cap2 y) (hx : x < 4294967296 ^ 512) (hy : y < 4294967296 ^ 512) (hf : x + y < 4294967296 ^ 512) : Calls Tryz.prog 159 #[.slice ad len cap, .slice ad2 len2 cap2] w (Ret E0 w fun w' v => ∃ u, v = .tuple #[u, .int .i64 0] ∧ NatV w w' u (x + y)) := by
  obtain ⟨l, hl, hc, rfl, hn⟩ := h.limbs hx
  obtain ⟨l2, hl2, hc2, rfl, hn2⟩ := h2.limbs hy
  refine (Add_c w X0 (X0_lt _) ad len cap l hl ad2 len2 cap2 l2 hl2).mono ?_
  rintro e w' ⟨hu, v, rfl, hv⟩
  obtain ⟨u, lr, adr, lenr, capr, rfl, hown, _⟩ := hv.ok (by rw [or2_ok (chk2_of hn hc hn2 hc2)]; unfold fitE; rw [if_pos hf])
  exact ⟨hu, _, rfl, u, rfl, hown.natV⟩
theorem Sub_n (w : World) (ad : Option Addr) (len cap x : Nat) (h : NatR (rd w X0) ad len cap x) (ad2 : Option Addr) (len2 cap2 y : Nat) (h2 : NatR (rd w X0) ad2 len2 cap2 y) (hx : x < 4294967296 ^ 512) (hy : y < 4294967296 ^ 512) (hf : y ≤ x) : Calls Tryz.prog 160 #[.slice ad len cap, .slice ad2 len2 cap2] w (Ret E0 w fun w' v => ∃ u, v = .tuple #[u, .int .i64 0] ∧ NatV w w' u (x - y)) := by
  obtain ⟨l, hl, hc, rfl, hn⟩ := h.limbs hx
  obtain ⟨l2, hl2, hc2, rfl, hn2⟩ := h2.limbs hy
  refine (Sub_c w X0 (X0_lt _) ad len cap l hl ad2 len2 cap2 l2 hl2).mono ?_
  rintro e w' ⟨hu, v, rfl, hv⟩
  obtain ⟨u, lr, adr, lenr, capr, rfl, hown, _⟩ := hv.ok (by rw [or2_ok (chk2_of hn hc hn2 hc2)]; unfold subE; rw [if_neg (by omega)])
  exact ⟨hu, _, rfl, u, rfl, hown.natV⟩
theorem Sub_less (w : World) (ad : Option Addr) (len cap x : Nat) (h : NatR (rd w X0) ad len cap x) (ad2 : Option Addr) (len2 cap2 y : Nat) (h2 : NatR (rd w X0) ad2 len2 cap2 y) (hx : x < 4294967296 ^ 512) (hy : y < 4294967296 ^ 512) (hf : x < y) : Calls Tryz.prog 160 #[.slice ad len cap, .slice ad2 len2 cap2] w (Ret E0 w fun _ v => v = .tuple #[.slice none 0 0, .int .i64 7]) := by
  obtain ⟨l, hl, hc, rfl, hn⟩ := h.limbs hx
  obtain ⟨l2, hl2, hc2, rfl, hn2⟩ := h2.limbs hy
  refine (Sub_c w X0 (X0_lt _) ad len cap l hl ad2 len2 cap2 l2 hl2).mono ?_
  rintro e w' ⟨hu, v, rfl, hv⟩
  have he : or2 (chk2 l l2) (subE (val l) (val l2)) = 7 := by rw [or2_ok (chk2_of hn hc hn2 hc2)]; unfold subE; rw [if_pos hf]
  rw [he] at hv
  exact ⟨hu, _, rfl, hv.err (by decide)⟩
theorem GCD_n (w : World) (ad : Option Addr) (len cap x : Nat) (h : NatR (rd w X0) ad len cap x) (ad2 : Option Addr) (len2 cap2 y : Nat) (h2 : NatR (rd w X0) ad2 len2 cap2 y) (hx : x < 4294967296 ^ 512) (hy : y < 4294967296 ^ 512) : Calls Tryz.prog 113 #[.slice ad len cap, .slice ad2 len2 cap2] w (Ret E0 w fun w' v => ∃ u, v = .tuple #[u, .int .i64 0] ∧ NatV w w' u (Nat.gcd x y)) := by
  obtain ⟨l, hl, hc, rfl, hn⟩ := h.limbs hx
  obtain ⟨l2, hl2, hc2, rfl, hn2⟩ := h2.limbs hy
  refine (GCD_c w X0 (X0_lt _) ad len cap l hl ad2 len2 cap2 l2 hl2).mono ?_
  rintro e w' ⟨hu, v, rfl, hv⟩
  obtain ⟨u, lr, adr, lenr, capr, rfl, hown, _⟩ := hv.ok (chk2_of hn hc hn2 hc2)
  exact ⟨hu, _, rfl, u, rfl, hown.natV⟩
theorem DivMod_n (w : World) (ad : Option Addr) (len cap x : Nat) (h : NatR (rd w X0) ad len cap x) (ad2 : Option Addr) (len2 cap2 y : Nat) (h2 : NatR (rd w X0) ad2 len2 cap2 y) (hx : x < 4294967296 ^ 512) (hy : y < 4294967296 ^ 512) (hd : 0 < y) : Calls Tryz.prog 154 #[.slice ad len cap, .slice ad2 len2 cap2] w (Ret E0 w fun w' v => ∃ u u2, v = .tuple #[u, u2, .int .i64 0] ∧ NatV w w' u (x / y) ∧ NatV w w' u2 (x % y)) := by
  obtain ⟨l, hl, hc, rfl, hn⟩ := h.limbs hx
  obtain ⟨l2, hl2, hc2, rfl, hn2⟩ := h2.limbs hy
  refine (DivMod_c w X0 (X0_lt _) ad len cap l hl ad2 len2 cap2 l2 hl2).mono ?_
  rintro e w' ⟨hu, v, rfl, hv⟩
  have he : or2 (chk2 l l2) (zeroE (val l2)) = 0 := by rw [or2_ok (chk2_of hn hc hn2 hc2)]; unfold zeroE; rw [if_neg (by omega)]
  rcases hv with ⟨h0, _⟩ | ⟨_, u, u2, a1, a2, a3, a4, a5, a6, a7, a8, rfl, hq, _, hr, _⟩
  · exact absurd he h0
  · exact ⟨hu, _, rfl, u, u2, rfl, hq.natV, hr.natV⟩
theorem clone_n (w : World) (ad : Option Addr) (len cap x : Nat) (h : NatR (rd w X0) ad len cap x) (hx : x < 4294967296 ^ 512) : Calls Tryz.prog 146 #[.slice ad len cap] w (Ret E0 w fun w' v => NatV w w' v x) := by
  obtain ⟨l, hl, hc, rfl, hn⟩ := h.limbs hx
  refine (clone_c w X0 (X0_lt _) ad len cap l hl (by rw [hl.hlen]; omega)).mono ?_
  rintro e w' ⟨hu, v, rfl, ad', len', cap', hown⟩
  exact ⟨hu, _, rfl, OwnN.natV ⟨hown, hc, rfl⟩⟩
theorem from_n (w : World) (x : Nat) (hx : x < 18446744073709551616) : Calls Tryz.prog 116 #[.int .u64 (x : Int)] w (Ret E0 w fun w' v => NatV w w' v x) := by
  refine (from_c w X0 (X0_lt _) x hx).mono ?_
  rintro e w' ⟨hu, v, rfl, l, ad, len, cap, h1, h2, h3⟩
  exact ⟨hu, _, rfl, OwnN.natV ⟨h1, h2, h3⟩⟩
end Go.Proofs.YtjnbipmlmafahaaGreat
namespace Go.Proofs.YtjnbipmlmafahaaGreat
open Go Go.Gv Go.RowKit
set_option maxRecDepth 100000
set_option maxHeartbeats 1000000
theorem times_c (w : World) (X : Hid) (hX : ∀ k o, X k o → k < w.heap.size) (ad : Option Addr) (len cap x : Nat) (h : NatR (rd w X) ad len cap x) (ad2 : Option Addr) (len2 cap2 y : Nat) (h2 : NatR (rd w X) ad2 len2 cap2 y) (hx : x < 4294967296 ^ 512) (hy : y < 4294967296 ^ 512) (hf : x * y < 4294967296 ^ 512) : Calls Tryz.prog 129 #[.slice ad len cap, .slice ad2 len2 cap2] w (Ret E0 w fun w' v => NatX X w' v (x * y)) := by
 refine zen Tryz.func129 ?_
 have C0 : St E0 w X w X [] := St.start hX
 refine zz 9 ?_
 refine zc C0 (Mul_n _ _ _ _ x (h.mono Le.x0) _ _ _ y (h2.mono Le.x0) (by first | assumption | omega) (by first | assumption | omega) (by first | assumption | omega)) ?_
 rintro v3 w3 C3 B3 hu3 ⟨u3, rfl, ⟨ad3, len3, cap3, rfl, hn3⟩⟩
 have hN3 := hn3 _ C0.lt
 refine zz 14 ?_
 refine zr' (v := .slice ad3 len3 cap3) ?_
 exact ⟨C3.upd, _, rfl, C3.lastN hN3⟩
theorem plus_c (w : World) (X : Hid) (hX : ∀ k o, X k o → k < w.heap.size) (ad : Option Addr) (len cap x : Nat) (h : NatR (rd w X) ad len cap x) (ad2 : Option Addr) (len2 cap2 y : Nat) (h2 : NatR (rd w X) ad2 len2 cap2 y) (hx : x < 4294967296 ^ 512) (hy : y < 4294967296 ^ 512) (hf : x + y < 4294967296 ^ 512) : Calls Tryz.prog 130 #[.slice ad len cap, .slice ad2 len2 cap2] w (Ret E0 w fun w' v => NatX X w' v (x + y)) := by
 refine zen Tryz.func130 ?_
 have C0 : St E0 w X w X [] := St.start hX
 refine zz 9 ?_
 refine zc C0 (Add_n _ _ _ _ x (h.mono Le.x0) _ _ _ y (h2.mono Le.x0) (by first | assumption | omega) (by first | assumption | omega) (by first | assumption | omega)) ?_
 rintro v3 w3 C3 B3 hu3 ⟨u3, rfl, ⟨ad3, len3, cap3, rfl, hn3⟩⟩
 have hN3 := hn3 _ C0.lt
 refine zz 14 ?_
 refine zr' (v := .slice ad3 len3 cap3) ?_
 exact ⟨C3.upd, _, rfl, C3.lastN hN3⟩
theorem minus_ge (w : World) (X : Hid) (hX : ∀ k o, X k o → k < w.heap.size) (ad : Option Addr) (len cap x : Nat) (h : NatR (rd w X) ad len cap x) (ad2 : Option Addr) (len2 cap2 y : Nat) (h2 : NatR (rd w X) ad2 len2 cap2 y) (hx : x < 4294967296 ^ 512) (hy : y < 4294967296 ^ 512) (hf : y ≤ x) : Calls Tryz.prog 131 #[.slice ad len cap, .slice ad2 len2 cap2] w (Ret E0 w fun w' v => ∃ u, v = .tuple #[u, .bool false] ∧ NatX X w' u (x - y)) := by
 refine zen Tryz.func131 ?_
 have C0 : St E0 w X w X [] := St.start hX
 refine zz 11 ?_
 refine zc C0 (Sub_n _ _ _ _ x (h.mono Le.x0) _ _ _ y (h2.mono Le.x0) (by first | assumption | omega) (by first | assumption | omega) (by first | assumption | omega)) ?_
 rintro v3 w3 C3 B3 hu3 ⟨u3, rfl, ⟨ad3, len3, cap3, rfl, hn3⟩⟩
 have hN3 := hn3 _ C0.lt
 refine zz 23 ?_
 refine zr' (v := .tuple #[.slice ad3 len3 cap3, .bool false]) ?_
 exact ⟨C3.upd, _, rfl, _, rfl, C3.lastN hN3⟩
theorem minus_lt (w : World) (X : Hid) (hX : ∀ k o, X k o → k < w.heap.size) (ad : Option Addr) (len cap x : Nat) (h : NatR (rd w X) ad len cap x) (ad2 : Option Addr) (len2 cap2 y : Nat) (h2 : NatR (rd w X) ad2 len2 cap2 y) (hx : x < 4294967296 ^ 512) (hy : y < 4294967296 ^ 512) (hf : x < y) : Calls Tryz.prog 131 #[.slice ad len cap, .slice ad2 len2 cap2] w (Ret E0 w fun w' v => ∃ u, v = .tuple #[u, .bool true] ∧ NatX X w' u (y - x)) := by
 refine zen Tryz.func131 ?_
 have C0 : St E0 w X w X [] := St.start hX
 refine zz 11 ?_
 refine zc C0 (Sub_less _ _ _ _ x (h.mono Le.x0) _ _ _ y (h2.mono Le.x0) (by first | assumption | omega) (by first | assumption | omega) (by first | assumption | omega)) ?_
 rintro v3 w3 C3 B3 hu3 rfl
 refine zz 20 ?_
 refine zc C3 (Sub_n _ _ _ _ y ((h2.mono B3).mono Le.x0) _ _ _ x ((h.mono B3).mono Le.x0) (by first | assumption | omega) (by first | assumption | omega) (by first | assumption | omega)) ?_
 rintro v5 w5 C5 B5 hu5 ⟨u5, rfl, ⟨ad5, len5, cap5, rfl, hn5⟩⟩
 have hN5 := hn5 _ C3.lt
 refine zz 15 ?_
 refine zr' (v := .tuple #[.slice ad5 len5 cap5, .bool true]) ?_
 exact ⟨C5.upd, _, rfl, _, rfl, C5.lastN hN5⟩
theorem minus_c (w : World) (X : Hid) (hX : ∀ k o, X k o → k < w.heap.size) (ad : Option Addr) (len cap x : Nat) (h : NatR (rd w X) ad len cap x) (ad2 : Option Addr) (len2 cap2 y : Nat) (h2 : NatR (rd w X) ad2 len2 cap2 y) (hx : x < 4294967296 ^ 512) (hy : y < 4294967296 ^ 512) : Calls Tryz.prog 131 #[.slice ad len cap, .slice ad2 len2 cap2] w (Ret E0 w fun w' v => ∃ u, v = .tuple #[u, .bool (decide (x < y))] ∧ NatX X w' u (if x < y then y - x else x - y)) := by
  by_cases hf : x < y
  · rw [if_pos hf, decide_eq_true hf]; exact minus_lt w X hX ad len cap x h ad2 len2 cap2 y h2 hx hy hf
  · rw [if_neg hf, decide_eq_false hf]; exact minus_ge w X hX ad len cap x h ad2 len2 cap2 y h2 hx hy (by omega)
theorem unit_c (w : World) (X : Hid) (hX : ∀ k o, X k o → k < w.heap.size) (ad : Option Addr) (len cap x : Nat) (h : NatR (rd w X) ad len cap x) : Calls Tryz.prog 112 #[.slice ad len cap] w (Ret E0 w fun _ v => v = .bool (decide (x = 1))) := by
 refine zen Tryz.func112 ?_
 have C0 : St E0 w X w X [] := St.start hX
 refine zz 11 ?_
 refine zb 6 (b := ((len : Int) == 1)) (fun hc2 => ?_) (fun hc2 => ?_)
 ·
  have ht3 : (len : Int) = 1 := by simpa using hc2
  obtain ⟨bk, of, rfl, hx1, hat⟩ := h.one (by omega)
  refine zz 1 ?_
  refine zi (b := bk) (off := of) (len := len) (cap := cap) (kd := .i64) (i := 0) 1 of ?_ (hoff := kr)
  refine zl (hat).cells ?_
  refine zz 6 ?_
  refine zr' (v := .bool ((x : Int) == 1)) ?_
  exact ⟨C0.upd, _, rfl, zJ (by rw [Bool.eq_iff_iff]; simp; omega)⟩
 have ht4 : (len : Int) ≠ 1 := by simpa using hc2
 have hx1 : x ≠ 1 := fun e => by subst e; exact absurd h.of_one (by omega)
 refine zz 9 ?_
 refine zr' (v := .bool false) ?_
 exact ⟨C0.upd, _, rfl, zJ (by simp [hx1])⟩
end Go.Proofs.YtjnbipmlmafahaaGreat
namespace Go.Proofs.YtjnbipmlmafahaaGreat
open Go Go.Gv Go.RowKit
set_option maxRecDepth 100000
set_option maxHeartbeats 1000000
theorem natural_c (w : World) (X : Hid) (hX : ∀ k o, X k o → k < w.heap.size) (n : Int) (h1 : -9223372036854775808 ≤ n) (h2 : n ≤ 9223372036854775807) : Calls Tryz.prog 82 #[.int .i64 n] w (Ret E0 w fun w' v => NatX X w' v n.natAbs) := by
 refine zen Tryz.func82 ?_
 have C0 : St E0 w X w X [] := St.start hX
 refine zz 12 ?_
 refine zt 4 (p := (n) < 0) (fun ht2 => ?_) (fun ht2 => ?_)
 ·
  refine zz 5 ?_
  refine zs 6 (v := .int .u64 (IntKind.u64.wrap (n))) (v' := .int .u64 (n + 18446744073709551616)) (vint (by rw [wrap_u64]; omega)) ?_
  refine zz 1 ?_
  refine zs 7 (v := .int .u64 (IntKind.u64.wrap ((0 : Int) - (n + 18446744073709551616)))) (v' := .int .u64 ((n.natAbs : Nat) : Int)) (vint (by rw [wrap_u64]; omega)) ?_
  refine zc C0 (from_n _ n.natAbs (by omega)) ?_
  rintro v4 w4 C4 B4 hu4 ⟨ad4, len4, cap4, rfl, hn4⟩
  have hN4 := hn4 _ C0.lt
  refine zz 5 ?_
  refine zr' (v := .slice ad4 len4 cap4) ?_
  exact ⟨C4.upd, _, rfl, C4.lastN hN4⟩
 refine zz 7 ?_
 refine zs 10 (v := .int .u64 (IntKind.u64.wrap (n))) (v' := .int .u64 ((n.natAbs : Nat) : Int)) (vint (by rw [wrap_u64]; omega)) ?_
 refine zc C0 (from_n _ n.natAbs (by omega)) ?_
 rintro v6 w6 C6 B6 hu6 ⟨ad6, len6, cap6, rfl, hn6⟩
 have hN6 := hn6 _ C0.lt
 refine zz 4 ?_
 refine zr' (v := .slice ad6 len6 cap6) ?_
 exact ⟨C6.upd, _, rfl, C6.lastN hN6⟩
theorem lowest_c (w : World) (X : Hid) (hX : ∀ k o, X k o → k < w.heap.size) (ad : Option Addr) (len cap x : Nat) (h : NatR (rd w X) ad len cap x) (ad2 : Option Addr) (len2 cap2 y : Nat) (h2 : NatR (rd w X) ad2 len2 cap2 y) (sg : Bool) (hx : x < 4294967296 ^ 512) (hy : y < 4294967296 ^ 512) (hd : 0 < y) : Calls Tryz.prog 118 #[.agg #[.slice ad len cap, .slice ad2 len2 cap2, .bool sg]] w (Ret E0 w fun w' v => RatX (old w) w' v (mkRat (sgn sg x) y)) := by
 refine zen Tryz.func118 ?_
 have C0 : St E0 w X w X [] := St.start hX
 refine zz 2 ?_
 refine zn pn (.cells #[.slice ad len cap, .slice ad2 len2 cap2, .bool sg] 155 (0, 0)) C0 ?_
 intro b3 w3 Y3 C3 B3 hu3
 refine zn pn (.cells #[.bool false, .slice none 0 0, .slice none 0 0] 28 (0, 0)) C3 ?_
 intro b5 w5 Y5 C5 B5 hu5
 refine zz 7 ?_
 refine zo 1 C5 ?_
 refine zz 4 ?_
 refine zb 10 (b := ((len : Int) == 0)) (fun hc6 => ?_) (fun hc6 => ?_)
 ·
  have ht7 : (len : Int) = 0 := by simpa using hc6
  have hx0 : x = 0 := h.len0.1 (by omega)
  refine zz 4 ?_
  refine zx 0 #[.bool false, .slice none 0 0, .slice none 0 0] C5 ?_
  intro w8 C8 B8
  refine zz 4 ?_
  refine zrS [.cell 2 28] (v := .agg #[.bool false, .slice none 0 0, .slice none 0 0]) (Res.cM C8 0 Res.nil) ?_
  exact ⟨C8.upd, _, rfl, by rw [hx0]; exact zero_rat y⟩
 have ht9 : (len : Int) ≠ 0 := by simpa using hc6
 have hx0 : x ≠ 0 := fun e => absurd (h.len0.2 e) (by omega)
 have hgp : 0 < Nat.gcd x y := Nat.gcd_pos_of_pos_right _ hd
 have hgb : Nat.gcd x y < 4294967296 ^ 512 := Nat.lt_of_le_of_lt (Nat.gcd_le_right _ hd) hy
 have hb1 : x / Nat.gcd x y < 4294967296 ^ 512 := Nat.lt_of_le_of_lt (Nat.div_le_self _ _) hx
 have hb2 : y / Nat.gcd x y < 4294967296 ^ 512 := Nat.lt_of_le_of_lt (Nat.div_le_self _ _) hy
 refine zz 8 ?_
 refine zo 1 C5 ?_
 refine zz 2 ?_
 refine zo 1 C5 ?_
 refine zc C5 (GCD_n _ _ _ _ x ((h.mono (Le2 B3 B5)).mono Le.x0) _ _ _ y ((h2.mono (Le2 B3 B5)).mono Le.x0) (by first | assumption | omega) (by first | assumption | omega)) ?_
 rintro v11 w11 C11 B11 hu11 ⟨u11, rfl, ⟨ad11, len11, cap11, rfl, hn11⟩⟩
 have hN11 := hn11 _ C5.lt
 refine zz 10 ?_
 refine zc C11 (unit_c _ _ C11.lt _ _ _ (Nat.gcd x y) hN11) ?_
 rintro v13 w13 C13 B13 hu13 rfl
 refine zz 3 ?_
 refine zb 24 (b := !(decide (Nat.gcd x y = 1))) (fun hc14 => ?_) (fun hc14 => ?_)
 ·
  have ht15 : ¬ (Nat.gcd x y = 1) := by simpa using hc14
  refine zz 5 ?_
  refine zo 1 C13 ?_
  refine zz 1 ?_
  have hc1_ := (Le3 B3 B5 B11).trans B13
  refine zc C13 (DivMod_n _ _ _ _ x ((h.mono hc1_).mono Le.x0) _ _ _ (Nat.gcd x y) ((hN11.mono B13).mono Le.x0) (by first | assumption | omega) (by first | assumption | omega) (by assumption)) ?_
  rintro v17 w17 C17 B17 hu17 ⟨u17, v217, rfl, ⟨ad17, len17, cap17, rfl, hn17⟩, ⟨ae17, le17, ce17, rfl, hm17⟩⟩
  have hN17 := hn17 _ C13.lt
  refine zz 6 ?_
  refine zx 1 #[.slice ad17 len17 cap17, .slice ad2 len2 cap2, .bool sg] C17 ?_
  intro w18 C18 B18
  refine zz 5 ?_
  refine zo 1 C18 ?_
  refine zz 1 ?_
  have hc2_ := (hc1_.trans B17).trans B18
  refine zc C18 (DivMod_n _ _ _ _ y ((h2.mono hc2_).mono Le.x0) _ _ _ (Nat.gcd x y) ((hN11.mono (Le3 B13 B17 B18)).mono Le.x0) (by first | assumption | omega) (by first | assumption | omega) (by assumption)) ?_
  rintro v20 w20 C20 B20 hu20 ⟨u20, v220, rfl, ⟨ad20, len20, cap20, rfl, hn20⟩, ⟨ae20, le20, ce20, rfl, hm20⟩⟩
  have hN20 := hn20 _ C18.lt
  refine zz 6 ?_
  refine zx 1 #[.slice ad17 len17 cap17, .slice ad20 len20 cap20, .bool sg] C20 ?_
  intro w21 C21 B21
  refine zz 3 ?_
  refine zdr C21 ?_
  refine gz [0] ?_
  refine gw 1 1 ?_
  refine gz [2, 3] ?_
  refine gw 4 1 ?_
  refine gp (al 7 5 pn (.cells #[.bool false, .slice none 0 0, .slice none 0 0] 28 (0, 0))) ?_
  have hc3_ := (Le2 B18 B20).trans B21
  refine gC 5 (fun w22 Y22 _ C22 B22 => (clone_n _ _ _ _ (x / (Nat.gcd x y)) ((hN17.mono (hc3_.trans B22)).mono Le.x0) (by first | assumption | omega))) ?_ (hPd := PdOk.nil.k)
  rintro v23 w22 Y23 w23 C22 B23 ⟨ad23, len23, cap23, rfl, hn23⟩
  have hN23 := hn23 _ C22.lt
  refine gz [6] ?_
  refine gs1 (fun b24 => ?_) PdOk.nil.k
  refine gX 8 0 #[.bool sg, .slice ad23 len23 cap23, .slice none 0 0] ?_
  intro w25 Y25 B25
  refine gend (fun w26 Y26 C26 B26 => ?_)
  refine zz 6 ?_
  refine zo 2 C26 ?_
  have hc4_ := (Le3 B21 B23 B25).trans B26
  refine zc C26 (unit_c _ _ C26.lt _ _ _ (y / (Nat.gcd x y)) (hN20.mono hc4_)) ?_
  rintro v28 w28 C28 B28 hu28 rfl
  refine zz 3 ?_
  refine zb 58 (b := !(decide (y / (Nat.gcd x y) = 1))) (fun hc29 => ?_) (fun hc29 => ?_)
  ·
   have ht30 : ¬ (y / (Nat.gcd x y) = 1) := by simpa using hc29
   refine zz 4 ?_
   refine zo 2 C28 ?_
   have hc5_ := hc4_.trans B28
   refine zc C28 (clone_n _ _ _ _ (y / (Nat.gcd x y)) ((hN20.mono hc5_).mono Le.x0) (by first | assumption | omega)) ?_
   rintro v32 w32 C32 B32 hu32 ⟨ad32, len32, cap32, rfl, hn32⟩
   have hN32 := hn32 _ C28.lt
   refine zz 1 ?_
   refine zx 0 #[.bool sg, .slice ad23 len23 cap23, .slice ad32 len32 cap32] C32 ?_
   intro w33 C33 B33
   refine zz 4 ?_
   refine zo 0 C33 ?_
   refine zx 1 #[.bool sg, .slice ad23 len23 cap23, .slice ad32 len32 cap32] C33 ?_
   intro w34 C34 B34
   refine zz 3 ?_
   refine zrS [.cell 2 28] (v := .agg #[.bool sg, .slice ad23 len23 cap23, .slice ad32 len32 cap32]) (Res.cM C34 1 Res.nil) ?_
   have hc6_ := (Le5 B25 B26 B28 B32 B33).trans B34
   refine ⟨C34.upd, _, rfl, low_rat hx0 hd (by exact (((hn23 (old _) (fun _ _ h => h)).mono (Le.own C22.lt C22.upd.size hc6_)).mono Le.orr)) ?_⟩
   rw [den1, if_neg ht30]; exact (((hn32 (old _) (fun _ _ h => h)).mono (Le.own C28.lt C28.upd.size (Le2 B33 B34))).mono Le.orr)
  have ht35 : y / (Nat.gcd x y) = 1 := by simpa using hc29
  refine zz 5 ?_
  refine zo 0 C28 ?_
  refine zx 1 #[.bool sg, .slice ad23 len23 cap23, .slice none 0 0] C28 ?_
  intro w36 C36 B36
  refine zz 3 ?_
  refine zrS [.cell 2 28] (v := .agg #[.bool sg, .slice ad23 len23 cap23, .slice none 0 0]) (Res.cM C36 1 Res.nil) ?_
  have hc7_ := (Le3 B25 B26 B28).trans B36
  refine ⟨C36.upd, _, rfl, low_rat hx0 hd (by exact (((hn23 (old _) (fun _ _ h => h)).mono (Le.own C22.lt C22.upd.size hc7_)).mono Le.orr)) ?_⟩
  rw [den1, if_pos ht35]; exact (NatR.nil none (by omega))
 have ht37 : Nat.gcd x y = 1 := by simpa using hc14
 refine zz 4 ?_
 refine zdr C13 ?_
 refine gz [0] ?_
 refine gw 1 1 ?_
 refine gz [2, 3] ?_
 refine gw 4 1 ?_
 refine gp (al 7 5 pn (.cells #[.bool false, .slice none 0 0, .slice none 0 0] 28 (0, 0))) ?_
 have hc8_ := (Le3 B3 B5 B11).trans B13
 refine gC 5 (fun w38 Y38 _ C38 B38 => (clone_n _ _ _ _ x ((h.mono (hc8_.trans B38)).mono Le.x0) (by first | assumption | omega))) ?_ (hPd := PdOk.nil.k)
 rintro v39 w38 Y39 w39 C38 B39 ⟨ad39, len39, cap39, rfl, hn39⟩
 have hN39 := hn39 _ C38.lt
 refine gz [6] ?_
 refine gs1 (fun b40 => ?_) PdOk.nil.k
 refine gX 8 0 #[.bool sg, .slice ad39 len39 cap39, .slice none 0 0] ?_
 intro w41 Y41 B41
 refine gend (fun w42 Y42 C42 B42 => ?_)
 refine zz 6 ?_
 refine zo 2 C42 ?_
 have hc9_ := ((hc8_.trans B39).trans B41).trans B42
 refine zc C42 (unit_c _ _ C42.lt _ _ _ y (h2.mono hc9_)) ?_
 rintro v44 w44 C44 B44 hu44 rfl
 refine zz 3 ?_
 refine zb 58 (b := !(decide (y = 1))) (fun hc45 => ?_) (fun hc45 => ?_)
 ·
  have ht46 : ¬ (y = 1) := by simpa using hc45
  refine zz 4 ?_
  refine zo 2 C44 ?_
  have hc10_ := hc9_.trans B44
  refine zc C44 (clone_n _ _ _ _ y ((h2.mono hc10_).mono Le.x0) (by first | assumption | omega)) ?_
  rintro v48 w48 C48 B48 hu48 ⟨ad48, len48, cap48, rfl, hn48⟩
  have hN48 := hn48 _ C44.lt
  refine zz 1 ?_
  refine zx 0 #[.bool sg, .slice ad39 len39 cap39, .slice ad48 len48 cap48] C48 ?_
  intro w49 C49 B49
  refine zz 4 ?_
  refine zo 0 C49 ?_
  refine zx 1 #[.bool sg, .slice ad39 len39 cap39, .slice ad48 len48 cap48] C49 ?_
  intro w50 C50 B50
  refine zz 3 ?_
  refine zrS [.cell 2 28] (v := .agg #[.bool sg, .slice ad39 len39 cap39, .slice ad48 len48 cap48]) (Res.cM C50 1 Res.nil) ?_
  have hc11_ := (Le5 B41 B42 B44 B48 B49).trans B50
  refine ⟨C50.upd, _, rfl, low_rat hx0 hd (by rw [ht37, Nat.div_one]; exact (((hn39 (old _) (fun _ _ h => h)).mono (Le.own C38.lt C38.upd.size hc11_)).mono Le.orr)) ?_⟩
  rw [ht37, Nat.div_one]
  rw [den1, if_neg ht46]; exact (((hn48 (old _) (fun _ _ h => h)).mono (Le.own C44.lt C44.upd.size (Le2 B49 B50))).mono Le.orr)
 have ht51 : y = 1 := by simpa using hc45
 refine zz 5 ?_
 refine zo 0 C44 ?_
 refine zx 1 #[.bool sg, .slice ad39 len39 cap39, .slice none 0 0] C44 ?_
 intro w52 C52 B52
 refine zz 3 ?_
 refine zrS [.cell 2 28] (v := .agg #[.bool sg, .slice ad39 len39 cap39, .slice none 0 0]) (Res.cM C52 1 Res.nil) ?_
 have hc12_ := (Le3 B41 B42 B44).trans B52
 refine ⟨C52.upd, _, rfl, low_rat hx0 hd (by rw [ht37, Nat.div_one]; exact (((hn39 (old _) (fun _ _ h => h)).mono (Le.own C38.lt C38.upd.size hc12_)).mono Le.orr)) ?_⟩
 rw [ht37, Nat.div_one]
 rw [den1, if_pos ht51]; exact (NatR.nil none (by omega))
end Go.Proofs.YtjnbipmlmafahaaGreat
namespace Go.Proofs.YtjnbipmlmafahaaGreat
open Go Go.Gv Go.RowKit
set_option maxRecDepth 100000
set_option maxHeartbeats 1000000
theorem of_c (w : World) (X : Hid) (hX : ∀ k o, X k o → k < w.heap.size) (sg : Bool) (ad : Option Addr) (len cap x : Nat) (h : NatR (rd w X) ad len cap x) (ad2 : Option Addr) (len2 cap2 y : Nat) (h2 : NatR (rd w X) ad2 len2 cap2 y) : Calls Tryz.prog 115 #[.agg #[.bool sg, .slice ad len cap, .slice ad2 len2 cap2]] w (Ret E0 w fun w' v => ValX X w' v sg x (if y = 0 then 1 else y)) := by
 refine zen Tryz.func115 ?_
 have C0 : St E0 w X w X [] := St.start hX
 refine zz 2 ?_
 refine zn pn (.cells #[.bool sg, .slice ad len cap, .slice ad2 len2 cap2] 28 (0, 0)) C0 ?_
 intro b3 w3 Y3 C3 B3 hu3
 refine zn pn (.cells #[.slice none 0 0, .slice none 0 0, .bool false] 155 (0, 0)) C3 ?_
 intro b5 w5 Y5 C5 B5 hu5
 refine zz 5 ?_
 refine zo 1 C5 ?_
 refine zz 1 ?_
 refine zo 1 C5 ?_
 refine zz 2 ?_
 refine zo 1 C5 ?_
 refine zz 1 ?_
 refine zn pn (.cells #[.slice none 0 0, .slice none 0 0, .bool false] 155 (0, 0)) C5 ?_
 intro b7 w7 Y7 C7 B7 hu7
 refine zx 0 #[.slice ad len cap, .slice ad2 len2 cap2, .bool sg] C7 ?_
 intro w8 C8 B8
 refine zz 7 ?_
 refine zo 0 C8 ?_
 refine zz 4 ?_
 refine zb 16 (b := ((len2 : Int) == 0)) (fun hc9 => ?_) (fun hc9 => ?_)
 ·
  have ht10 : (len2 : Int) = 0 := by simpa using hc9
  have hy0 : y = 0 := h2.len0.1 (by omega)
  refine zz 2 ?_
  refine zn (fun b => .slice (some ⟨b, 0, none⟩) 1 1) (.cells #[.int .u32 1] 179 (0, 0)) C8 ?_
  intro b12 w12 Y12 C12 B12 hu12
  refine zz 2 ?_
  refine zx 1 #[.slice ad len cap, .slice (some ⟨b12, 0, none⟩) 1 1, .bool sg] C12 ?_
  intro w13 C13 B13
  refine zz 4 ?_
  refine zo 1 C13 ?_
  refine zx 2 #[.slice ad len cap, .slice (some ⟨b12, 0, none⟩) 1 1, .bool sg] C13 ?_
  intro w14 C14 B14
  refine zz 3 ?_
  refine zrS [.cell 2 155] (v := .agg #[.slice ad len cap, .slice (some ⟨b12, 0, none⟩) 1 1, .bool sg]) (Res.cM C14 2 Res.nil) ?_
  have hc1_ := (Le6 B3 B5 B7 B8 B12 B13).trans B14
  exact ⟨C14.upd, _, rfl, _, _, _, _, _, _, rfl, (h.mono hc1_).mono C14.le, by rw [if_pos hy0]; exact one_nat (C14.rowX 0 rfl (C14.own_ge 0 rfl) (one_row rfl))⟩
 have ht15 : (len2 : Int) ≠ 0 := by simpa using hc9
 have hy0 : y ≠ 0 := fun e => absurd (h2.len0.2 e) (by omega)
 refine zz 5 ?_
 refine zo 0 C8 ?_
 refine zx 1 #[.slice ad len cap, .slice ad2 len2 cap2, .bool sg] C8 ?_
 intro w16 C16 B16
 refine zz 3 ?_
 refine zrS [.cell 2 155] (v := .agg #[.slice ad len cap, .slice ad2 len2 cap2, .bool sg]) (Res.cM C16 1 Res.nil) ?_
 have hc2_ := (Le4 B3 B5 B7 B8).trans B16
 exact ⟨C16.upd, _, rfl, _, _, _, _, _, _, rfl, (h.mono hc2_).mono C16.le, by rw [if_neg hy0]; exact (h2.mono hc2_).mono C16.le⟩
theorem sum_c (w : World) (X : Hid) (hX : ∀ k o, X k o → k < w.heap.size) (ad₁ : Option Addr) (len₁ cap₁ n₁ : Nat) (h₁ : NatR (rd w X) ad₁ len₁ cap₁ n₁) (ae₁ : Option Addr) (le₁ ce₁ d₁ : Nat) (k₁ : NatR (rd w X) ae₁ le₁ ce₁ d₁) (s₁ : Bool) (hn₁ : n₁ < K128) (hd₁ : d₁ < K128) (ad₂ : Option Addr) (len₂ cap₂ n₂ : Nat) (h₂ : NatR (rd w X) ad₂ len₂ cap₂ n₂) (ae₂ : Option Addr) (le₂ ce₂ d₂ : Nat) (k₂ : NatR (rd w X) ae₂ le₂ ce₂ d₂) (s₂ : Bool) (hn₂ : n₂ < K128) (hd₂ : d₂ < K128) : Calls Tryz.prog 92 #[.agg #[.slice ad₁ len₁ cap₁, .slice ae₁ le₁ ce₁, .bool s₁], .agg #[.slice ad₂ len₂ cap₂, .slice ae₂ le₂ ce₂, .bool s₂]] w (Ret E0 w fun w' v => ∃ s m, ValX X w' v s m (d₁ * d₂) ∧ m < 4294967296 ^ 512 ∧ sgn s m = sgn s₁ n₁ * d₂ + sgn s₂ n₂ * d₁) := by
 refine zen Tryz.func92 ?_
 have C0 : St E0 w X w X [] := St.start hX
 have hb : ∀ {x : Nat}, x < K128 → x < 4294967296 ^ 512 := fun h => Nat.lt_of_lt_of_le h k512
 have hbn1 := hb hn₁
 have hbn2 := hb hn₂
 have hbd1 := hb hd₁
 have hbd2 := hb hd₂
 obtain ⟨hp1, hp12⟩ := prod512 hn₁ hd₂ hn₂ hd₁
 have hp2 := (prod512 hn₂ hd₁ hn₁ hd₂).1
 have hpd := (prod512 hd₁ hd₂ hd₁ hd₂).1
 have hpn := (prod512 hn₁ hn₂ hd₁ hd₂).1
 refine zz 2 ?_
 refine zn pn (.cells #[.slice ad₁ len₁ cap₁, .slice ae₁ le₁ ce₁, .bool s₁] 155 (0, 0)) C0 ?_
 intro b3 w3 Y3 C3 B3 hu3
 refine zn pn (.cells #[.slice ad₂ len₂ cap₂, .slice ae₂ le₂ ce₂, .bool s₂] 155 (0, 0)) C3 ?_
 intro b5 w5 Y5 C5 B5 hu5
 refine zn pn (.cells #[.slice none 0 0, .slice none 0 0, .bool false] 155 (0, 0)) C5 ?_
 intro b7 w7 Y7 C7 B7 hu7
 refine zz 3 ?_
 refine zdr C7 ?_
 refine gz [0, 1] ?_
 refine gw 2 2 ?_
 refine gz [3, 4] ?_
 refine gw 5 1 ?_
 refine gz [7, 8] ?_
 refine gw 9 1 ?_
 refine gz [10, 11] ?_
 refine gw 12 2 ?_
 have hc1_ := (Le2 B3 B5).trans B7
 refine gC 6 (fun w8 Y8 _ C8 B8 => (times_c _ _ C8.lt _ _ _ n₁ (h₁.mono (hc1_.trans B8)) _ _ _ d₂ (k₂.mono (hc1_.trans B8)) (by first | assumption | omega) (by first | assumption | omega) (by first | assumption | omega))) ?_
 rintro v9 w8 Y9 w9 C8 B9 ⟨ad9, len9, cap9, rfl, hN9⟩
 have hc2_ := hc1_.trans B9
 refine gC 13 (fun w10 Y10 _ C10 B10 => (times_c _ _ C10.lt _ _ _ n₂ (h₂.mono (hc2_.trans B10)) _ _ _ d₁ (k₁.mono (hc2_.trans B10)) (by first | assumption | omega) (by first | assumption | omega) (by first | assumption | omega))) ?_
 rintro v11 w10 Y11 w11 C10 B11 ⟨ad11, len11, cap11, rfl, hN11⟩
 refine gz [14, 15] ?_
 refine gend (fun w12 Y12 C12 B12 => ?_)
 refine zz 2 ?_
 refine zdr C12 ?_
 refine gz [0, 1] ?_
 refine gw 2 2 ?_
 refine gz [3, 4] ?_
 refine gw 5 1 ?_
 refine gz [8] ?_
 refine gw 9 2 ?_
 refine gp (al 11 7 pn (.cells #[.slice none 0 0, .slice none 0 0, .bool false] 155 (0, 0))) ?_
 have hc3_ := (hc2_.trans B11).trans B12
 refine gC 6 (fun w13 Y13 _ C13 B13 => (times_c _ _ C13.lt _ _ _ d₁ (k₁.mono (hc3_.trans B13)) _ _ _ d₂ (k₂.mono (hc3_.trans B13)) (by first | assumption | omega) (by first | assumption | omega) (by first | assumption | omega))) ?_ (hPd := PdOk.nil.k)
 rintro v14 w13 Y14 w14 C13 B14 ⟨ad14, len14, cap14, rfl, hN14⟩
 refine gz [7, 10] ?_
 refine gs1 (fun b15 => ?_) PdOk.nil.k
 refine gX 12 0 #[.slice none 0 0, .slice ad14 len14 cap14, .bool s₁] ?_
 intro w16 Y16 B16
 refine gend (fun w17 Y17 C17 B17 => ?_)
 refine zz 5 ?_
 refine zo 3 C17 ?_
 refine zz 1 ?_
 refine zo 2 C17 ?_
 refine zz 3 ?_
 refine zb 38 (b := (s₁ == s₂)) (fun hc18 => ?_) (fun hc18 => ?_)
 ·
  have ht19 : s₁ = s₂ := by simpa using hc18
  refine zz 5 ?_
  have hc4_ := (Le4 B11 B12 B14 B16).trans B17
  have hc5_ := (Le3 B12 B14 B16).trans B17
  refine zc C17 (plus_c _ _ C17.lt _ _ _ (n₁ * d₂) (hN9.mono hc4_) _ _ _ (n₂ * d₁) (hN11.mono hc5_) (by first | assumption | omega) (by first | assumption | omega) (by first | assumption | omega)) ?_
  rintro v21 w21 C21 B21 hu21 ⟨ad21, len21, cap21, rfl, hN21⟩
  refine zz 2 ?_
  refine zx 0 #[.slice ad21 len21 cap21, .slice ad14 len14 cap14, .bool s₁] C21 ?_
  intro w22 C22 B22
  refine zz 4 ?_
  refine zo 0 C22 ?_
  refine zx 1 #[.slice ad21 len21 cap21, .slice ad14 len14 cap14, .bool s₁] C22 ?_
  intro w23 C23 B23
  refine zz 4 ?_
  refine zrS [.cell 4 155] (v := .agg #[.slice ad21 len21 cap21, .slice ad14 len14 cap14, .bool s₁]) (Res.cM C23 1 Res.nil) ?_
  have hc6_ := (Le4 B16 B17 B21 B22).trans B23
  have hx9 := (hN21.mono (Le2 B22 B23))
  exact ⟨C23.upd, _, rfl, _, _, ⟨_, _, _, _, _, _, rfl, hx9.mono C23.le, (hN14.mono hc6_).mono C23.le⟩, hp12, sum_same ht19 _ _ _ _⟩
 have ht24 : s₁ ≠ s₂ := by simpa using hc18
 refine zz 13 ?_
 have hc7_ := (Le4 B11 B12 B14 B16).trans B17
 have hc8_ := (Le3 B12 B14 B16).trans B17
 refine zc C17 (minus_c _ _ C17.lt _ _ _ (n₁ * d₂) (hN9.mono hc7_) _ _ _ (n₂ * d₁) (hN11.mono hc8_) (by first | assumption | omega) (by first | assumption | omega)) ?_
 rintro v26 w26 C26 B26 hu26 ⟨u26, rfl, ⟨ad26, len26, cap26, rfl, hN26⟩⟩
 refine zz 5 ?_
 refine zx 0 #[.slice ad26 len26 cap26, .slice ad14 len14 cap14, .bool s₁] C26 ?_
 intro w27 C27 B27
 refine zz 8 ?_
 refine zt 53 (p := (n₁ * d₂) < (n₂ * d₁)) (fun ht28 => ?_) (fun ht28 => ?_)
 ·
  refine zz 3 ?_
  refine zo 2 C27 ?_
  refine zz 1 ?_
  refine zx 0 #[.slice ad26 len26 cap26, .slice ad14 len14 cap14, .bool s₂] C27 ?_
  intro w29 C29 B29
  refine zz 4 ?_
  refine zo 0 C29 ?_
  refine zx 1 #[.slice ad26 len26 cap26, .slice ad14 len14 cap14, .bool s₂] C29 ?_
  intro w30 C30 B30
  refine zz 3 ?_
  refine zrS [.cell 4 155] (v := .agg #[.slice ad26 len26 cap26, .slice ad14 len14 cap14, .bool s₂]) (Res.cM C30 1 Res.nil) ?_
  have hc9_ := (Le5 B16 B17 B26 B27 B29).trans B30
  have hx9 := (hN26.mono (Le3 B27 B29 B30))
  rw [if_pos ht28] at hx9
  exact ⟨C30.upd, _, rfl, _, _, ⟨_, _, _, _, _, _, rfl, hx9.mono C30.le, (hN14.mono hc9_).mono C30.le⟩, Nat.lt_of_le_of_lt (Nat.sub_le _ _) hp2, sum_lt ht24 ht28⟩
 refine zz 5 ?_
 refine zo 0 C27 ?_
 refine zx 1 #[.slice ad26 len26 cap26, .slice ad14 len14 cap14, .bool s₁] C27 ?_
 intro w31 C31 B31
 refine zz 3 ?_
 refine zrS [.cell 4 155] (v := .agg #[.slice ad26 len26 cap26, .slice ad14 len14 cap14, .bool s₁]) (Res.cM C31 1 Res.nil) ?_
 have hc10_ := (Le4 B16 B17 B26 B27).trans B31
 have hx9 := (hN26.mono (Le2 B27 B31))
 rw [if_neg ht28] at hx9
 exact ⟨C31.upd, _, rfl, _, _, ⟨_, _, _, _, _, _, rfl, hx9.mono C31.le, (hN14.mono hc10_).mono C31.le⟩, Nat.lt_of_le_of_lt (Nat.sub_le _ _) hp1, sum_ge ht24 (by omega)⟩
theorem product_c (w : World) (X : Hid) (hX : ∀ k o, X k o → k < w.heap.size) (ad₁ : Option Addr) (len₁ cap₁ n₁ : Nat) (h₁ : NatR (rd w X) ad₁ len₁ cap₁ n₁) (ae₁ : Option Addr) (le₁ ce₁ d₁ : Nat) (k₁ : NatR (rd w X) ae₁ le₁ ce₁ d₁) (s₁ : Bool) (hn₁ : n₁ < K128) (hd₁ : d₁ < K128) (ad₂ : Option Addr) (len₂ cap₂ n₂ : Nat) (h₂ : NatR (rd w X) ad₂ len₂ cap₂ n₂) (ae₂ : Option Addr) (le₂ ce₂ d₂ : Nat) (k₂ : NatR (rd w X) ae₂ le₂ ce₂ d₂) (s₂ : Bool) (hn₂ : n₂ < K128) (hd₂ : d₂ < K128) : Calls Tryz.prog 134 #[.agg #[.slice ad₁ len₁ cap₁, .slice ae₁ le₁ ce₁, .bool s₁], .agg #[.slice ad₂ len₂ cap₂, .slice ae₂ le₂ ce₂, .bool s₂]] w (Ret E0 w fun w' v => ∃ s m, ValX X w' v s m (d₁ * d₂) ∧ m < 4294967296 ^ 512 ∧ sgn s m = sgn s₁ n₁ * sgn s₂ n₂) := by
 refine zen Tryz.func134 ?_
 have C0 : St E0 w X w X [] := St.start hX
 have hb : ∀ {x : Nat}, x < K128 → x < 4294967296 ^ 512 := fun h => Nat.lt_of_lt_of_le h k512
 have hbn1 := hb hn₁
 have hbn2 := hb hn₂
 have hbd1 := hb hd₁
 have hbd2 := hb hd₂
 obtain ⟨hp1, hp12⟩ := prod512 hn₁ hd₂ hn₂ hd₁
 have hp2 := (prod512 hn₂ hd₁ hn₁ hd₂).1
 have hpd := (prod512 hd₁ hd₂ hd₁ hd₂).1
 have hpn := (prod512 hn₁ hn₂ hd₁ hd₂).1
 refine zz 2 ?_
 refine zn pn (.cells #[.slice ad₁ len₁ cap₁, .slice ae₁ le₁ ce₁, .bool s₁] 155 (0, 0)) C0 ?_
 intro b3 w3 Y3 C3 B3 hu3
 refine zn pn (.cells #[.slice ad₂ len₂ cap₂, .slice ae₂ le₂ ce₂, .bool s₂] 155 (0, 0)) C3 ?_
 intro b5 w5 Y5 C5 B5 hu5
 refine zn pn (.cells #[.slice none 0 0, .slice none 0 0, .bool false] 155 (0, 0)) C5 ?_
 intro b7 w7 Y7 C7 B7 hu7
 refine zz 3 ?_
 refine zdr C7 ?_
 refine gz [0, 1] ?_
 refine gw 2 2 ?_
 refine gz [3, 4] ?_
 refine gw 5 1 ?_
 refine gz [7, 8] ?_
 refine gw 9 2 ?_
 refine gz [10, 11] ?_
 refine gw 12 1 ?_
 refine gz [15] ?_
 refine gw 16 2 ?_
 refine gz [17] ?_
 refine gw 18 1 ?_
 refine gz [19] ?_
 have hc1_ := (Le2 B3 B5).trans B7
 refine gC 6 (fun w8 Y8 _ C8 B8 => (times_c _ _ C8.lt _ _ _ n₁ (h₁.mono (hc1_.trans B8)) _ _ _ n₂ (h₂.mono (hc1_.trans B8)) (by first | assumption | omega) (by first | assumption | omega) (by first | assumption | omega))) ?_
 rintro v9 w8 Y9 w9 C8 B9 ⟨ad9, len9, cap9, rfl, hN9⟩
 have hc2_ := hc1_.trans B9
 refine gC 13 (fun w10 Y10 _ C10 B10 => (times_c _ _ C10.lt _ _ _ d₁ (k₁.mono (hc2_.trans B10)) _ _ _ d₂ (k₂.mono (hc2_.trans B10)) (by first | assumption | omega) (by first | assumption | omega) (by first | assumption | omega))) ?_
 rintro v11 w10 Y11 w11 C10 B11 ⟨ad11, len11, cap11, rfl, hN11⟩
 refine gz [14, 20] ?_
 refine gX 21 0 #[.slice ad9 len9 cap9, .slice ad11 len11 cap11, .bool (!(s₁ == s₂))] ?_
 intro w12 Y12 B12
 refine gend (fun w13 Y13 C13 B13 => ?_)
 refine zz 2 ?_
 refine zrS [.cell 4 155] (v := .agg #[.slice ad9 len9 cap9, .slice ad11 len11 cap11, .bool (!(s₁ == s₂))]) (Res.cM C13 0 Res.nil) ?_
 exact ⟨C13.upd, _, rfl, _, _, ⟨_, _, _, _, _, _, rfl, (hN9.mono (Le3 B11 B12 B13)).mono C13.le, (hN11.mono (Le2 B12 B13)).mono C13.le⟩, hpn, sgn_mul _ _ _ _⟩
end Go.Proofs.YtjnbipmlmafahaaGreat
namespace Go.Proofs.YtjnbipmlmafahaaGreat
open Go Go.Gv Go.RowKit
set_option maxRecDepth 100000
set_option maxHeartbeats 1000000
theorem chk_4 {a : Raw} (h : 128 < a.ln.length ∨ 128 < a.ld.length) : a.chk = 4 := if_pos h
theorem chk_2 {a : Raw} (h : ¬ (128 < a.ln.length ∨ 128 < a.ld.length)) (h2 : chkN a.ln ≠ 0 ∨ chkN a.ld ≠ 0 ∨ val a.ld = 1 ∨ (val a.ln = 0 ∧ (a.neg = true ∨ 0 < val a.ld))) : a.chk = 2 := (if_neg h).trans (if_pos h2)
theorem chk_g {a : Raw} (h : ¬ (128 < a.ln.length ∨ 128 < a.ld.length)) (h2 : ¬ (chkN a.ln ≠ 0 ∨ chkN a.ld ≠ 0 ∨ val a.ld = 1 ∨ (val a.ln = 0 ∧ (a.neg = true ∨ 0 < val a.ld)))) (h3 : 0 < val a.ld ∧ Nat.gcd (val a.ln) (val a.ld) ≠ 1) : a.chk = 2 := (if_neg h).trans ((if_neg h2).trans (if_pos h3))
theorem chk_0 {a : Raw} (h : ¬ (128 < a.ln.length ∨ 128 < a.ld.length)) (h2 : ¬ (chkN a.ln ≠ 0 ∨ chkN a.ld ≠ 0 ∨ val a.ld = 1 ∨ (val a.ln = 0 ∧ (a.neg = true ∨ 0 < val a.ld)))) (h3 : ¬ (0 < val a.ld ∧ Nat.gcd (val a.ln) (val a.ld) ≠ 1)) : a.chk = 0 := (if_neg h).trans ((if_neg h2).trans (if_neg h3))
theorem canon_len0 {l : List Nat} (hc : Canon l) : l.length = 0 ↔ val l = 0 := by
  constructor
  · intro h; rw [List.eq_nil_of_length_eq_zero h]; rfl
  · intro h; rw [canon_zero hc h]; rfl
theorem rcheck_c (w : World) (X : Hid) (hX : ∀ k o, X k o → k < w.heap.size) (a : Raw) (ad : Option Addr) (len cap : Nat) (h : Limbs (rd w X) ad len cap a.ln) (ad2 : Option Addr) (len2 cap2 : Nat) (h2 : Limbs (rd w X) ad2 len2 cap2 a.ld) : Calls Tryz.prog 79 #[.agg #[.bool a.neg, .slice ad len cap, .slice ad2 len2 cap2]] w (Ret E0 w fun _ v => v = .int .i64 a.chk) := by
 obtain rfl := h.hlen
 obtain rfl := h2.hlen
 have hcap := h.hcap
 have hbig := h.hbig
 have hcap2 := h2.hcap
 have hbig2 := h2.hbig
 refine zen Tryz.func79 ?_
 have C0 : St E0 w X w X [] := St.start hX
 refine zz 2 ?_
 refine zn pn (.cells #[.bool a.neg, .slice ad a.ln.length cap, .slice ad2 a.ld.length cap2] 28 (0, 0)) C0 ?_
 intro b3 w3 Y3 C3 B3 hu3
 refine zz 8 ?_
 refine zo 0 C3 ?_
 refine zz 3 ?_
 refine zt 10 (p := (a.ln.length : Int) > 128) (fun ht4 => ?_) (fun ht4 => ?_)
 ·
  refine zz 17 ?_
  refine zr' (v := .int .i64 4) ?_
  exact ⟨C3.upd, _, rfl, vint (chk_4 (by omega)).symm⟩
 refine zz 1 ?_
 refine zo 0 C3 ?_
 refine zz 6 ?_
 refine zt 5 (p := (a.ld.length : Int) > 128) (fun ht5 => ?_) (fun ht5 => ?_)
 ·
  refine zz 9 ?_
  refine zr' (v := .int .i64 4) ?_
  exact ⟨C3.upd, _, rfl, vint (chk_4 (by omega)).symm⟩
 have hlong : ¬ (128 < a.ln.length ∨ 128 < a.ld.length) := by omega
 refine zz 5 ?_
 refine zo 0 C3 ?_
 refine zc C3 (bcheck _ X0 (X0_lt _) _ _ _ a.ln ((h.mono B3).mono Le.x0)) ?_
 rintro v7 w7 C7 B7 hu7 rfl
 refine zz 2 ?_
 refine zb 21 (b := ((chkN a.ln) != 0)) (fun hc8 => ?_) (fun hc8 => ?_)
 ·
  have ht9 : (chkN a.ln) ≠ 0 := by simpa using hc8
  refine zz 20 ?_
  refine zr' (v := .int .i64 2) ?_
  exact ⟨C7.upd, _, rfl, vint (chk_2 hlong (.inl ht9)).symm⟩
 have ht10 : (chkN a.ln) = 0 := by simpa using hc8
 refine zz 1 ?_
 refine zo 0 C7 ?_
 refine zc C7 (bcheck _ X0 (X0_lt _) _ _ _ a.ld ((h2.mono (Le2 B3 B7)).mono Le.x0)) ?_
 rintro v12 w12 C12 B12 hu12 rfl
 refine zz 5 ?_
 refine zb 16 (b := ((chkN a.ld) != 0)) (fun hc13 => ?_) (fun hc13 => ?_)
 ·
  have ht14 : (chkN a.ld) ≠ 0 := by simpa using hc13
  refine zz 12 ?_
  refine zr' (v := .int .i64 2) ?_
  exact ⟨C12.upd, _, rfl, vint (chk_2 hlong (.inr (.inl ht14))).symm⟩
 have ht15 : (chkN a.ld) = 0 := by simpa using hc13
 have hcn := (chkN_ok (by simpa using ht10 : chkN a.ln = 0)).2
 have hcd := (chkN_ok (by simpa using ht15 : chkN a.ld = 0)).2
 have hzn := canon_len0 hcn
 have hzd := canon_len0 hcd
 have hB : (4294967296 : Nat) ^ 128 ≤ 4294967296 ^ 512 := k512
 have hbn : val a.ln < 4294967296 ^ 512 := Nat.lt_of_lt_of_le ((canon_le_iff h.hlt hcn 128).1 (by omega)) hB
 have hbd : val a.ld < 4294967296 ^ 512 := Nat.lt_of_lt_of_le ((canon_le_iff h2.hlt hcd 128).1 (by omega)) hB
 have hNn := h.natR hcn
 have hNd := h2.natR hcd
 refine zz 4 ?_
 refine zo 0 C12 ?_
 refine zc C12 (unit_c _ _ C12.lt _ _ _ (val a.ld) (hNd.mono (Le3 B3 B7 B12))) ?_
 rintro v17 w17 C17 B17 hu17 rfl
 refine zz 3 ?_
 refine zt 16 (p := (val a.ld) = 1) (fun ht18 => ?_) (fun ht18 => ?_)
 ·
  refine zz 12 ?_
  refine zr' (v := .int .i64 2) ?_
  exact ⟨C17.upd, _, rfl, vint (chk_2 hlong (.inr (.inr (.inl (by simpa using ht18))))).symm⟩
 refine zz 3 ?_
 refine zo 0 C17 ?_
 refine zz 3 ?_
 refine zb 34 (b := ((a.ln.length : Int) == 0)) (fun hc19 => ?_) (fun hc19 => ?_)
 ·
  have ht20 : (a.ln.length : Int) = 0 := by simpa using hc19
  refine zz 1 ?_
  refine zo 0 C17 ?_
  refine zz 1 ?_
  refine zb 37 (b := a.neg) (fun hc21 => ?_) (fun hc21 => ?_)
  ·
   have ht22 : a.neg = true := by simpa using hc21
   refine zz 18 ?_
   refine zr' (v := .int .i64 2) ?_
   exact ⟨C17.upd, _, rfl, vint (chk_2 hlong (.inr (.inr (.inr ⟨by omega, .inl ht22⟩)))).symm⟩
  have ht23 : a.neg = false := by simpa using hc21
  refine zz 1 ?_
  refine zo 0 C17 ?_
  refine zz 7 ?_
  refine zt 16 (p := (a.ld.length : Int) > 0) (fun ht24 => ?_) (fun ht24 => ?_)
  ·
   refine zz 9 ?_
   refine zr' (v := .int .i64 2) ?_
   exact ⟨C17.upd, _, rfl, vint (chk_2 hlong (.inr (.inr (.inr ⟨by omega, .inr (by omega)⟩)))).symm⟩
  have hok : ¬ (chkN a.ln ≠ 0 ∨ chkN a.ld ≠ 0 ∨ val a.ld = 1 ∨ (val a.ln = 0 ∧ (a.neg = true ∨ 0 < val a.ld))) := by intro hh; rcases hh with e | e | e | ⟨e, e2⟩; exact (fun x => absurd (by simpa using ht10 : chkN a.ln = 0) x) e; exact (fun x => absurd (by simpa using ht15 : chkN a.ld = 0) x) e; exact (fun x => absurd x (by simpa using ht18)) e; rcases e2 with e2 | e2; rw [ht23] at e2; cases e2; omega
  have hz : ¬ 0 < val a.ld := by omega
  refine zz 8 ?_
  refine zo 0 C17 ?_
  refine zz 4 ?_
  refine zt 47 (p := (a.ld.length : Int) > 0) (fun ht25 => ?_) (fun ht25 => ?_)
  ·
   refine zz 4 ?_
   refine zo 0 C17 ?_
   refine zz 1 ?_
   refine zo 0 C17 ?_
   have hc1_ := (Le3 B3 B7 B12).trans B17
   refine zc C17 (GCD_n _ _ _ _ (val a.ln) ((hNn.mono hc1_).mono Le.x0) _ _ _ (val a.ld) ((hNd.mono hc1_).mono Le.x0) (by first | assumption | omega) (by first | assumption | omega)) ?_
   rintro v27 w27 C27 B27 hu27 ⟨u27, rfl, ⟨ad27, len27, cap27, rfl, hn27⟩⟩
   have hN27 := hn27 _ C17.lt
   refine zz 10 ?_
   refine zc C27 (unit_c _ _ C27.lt _ _ _ (Nat.gcd (val a.ln) (val a.ld)) hN27) ?_
   rintro v29 w29 C29 B29 hu29 rfl
   refine zz 3 ?_
   refine zb 58 (b := !(decide (Nat.gcd (val a.ln) (val a.ld) = 1))) (fun hc30 => ?_) (fun hc30 => ?_)
   ·
    have ht31 : ¬ (Nat.gcd (val a.ln) (val a.ld) = 1) := by simpa using hc30
    refine zz 8 ?_
    refine zr' (v := .int .i64 2) ?_
    exact ⟨C29.upd, _, rfl, vint (chk_g hlong hok ⟨by omega, by simpa using ht31⟩).symm⟩
   have ht32 : Nat.gcd (val a.ln) (val a.ld) = 1 := by simpa using hc30
   refine zz 9 ?_
   refine zr' (v := .int .i64 0) ?_
   exact ⟨C29.upd, _, rfl, vint (chk_0 hlong hok (fun hh => hh.2 (by simpa using ht32))).symm⟩
  refine zz 9 ?_
  refine zr' (v := .int .i64 0) ?_
  exact ⟨C17.upd, _, rfl, vint (chk_0 hlong hok (fun hh => by omega)).symm⟩
 have ht33 : (a.ln.length : Int) ≠ 0 := by simpa using hc19
 refine zz 20 ?_
 refine zo 0 C17 ?_
 refine zz 4 ?_
 refine zt 47 (p := (a.ld.length : Int) > 0) (fun ht34 => ?_) (fun ht34 => ?_)
 ·
  have hok : ¬ (chkN a.ln ≠ 0 ∨ chkN a.ld ≠ 0 ∨ val a.ld = 1 ∨ (val a.ln = 0 ∧ (a.neg = true ∨ 0 < val a.ld))) := by intro hh; rcases hh with e | e | e | ⟨e, e2⟩; exact (fun x => absurd (by simpa using ht10 : chkN a.ln = 0) x) e; exact (fun x => absurd (by simpa using ht15 : chkN a.ld = 0) x) e; exact (fun x => absurd x (by simpa using ht18)) e; omega
  refine zz 4 ?_
  refine zo 0 C17 ?_
  refine zz 1 ?_
  refine zo 0 C17 ?_
  have hc2_ := (Le3 B3 B7 B12).trans B17
  refine zc C17 (GCD_n _ _ _ _ (val a.ln) ((hNn.mono hc2_).mono Le.x0) _ _ _ (val a.ld) ((hNd.mono hc2_).mono Le.x0) (by first | assumption | omega) (by first | assumption | omega)) ?_
  rintro v36 w36 C36 B36 hu36 ⟨u36, rfl, ⟨ad36, len36, cap36, rfl, hn36⟩⟩
  have hN36 := hn36 _ C17.lt
  refine zz 10 ?_
  refine zc C36 (unit_c _ _ C36.lt _ _ _ (Nat.gcd (val a.ln) (val a.ld)) hN36) ?_
  rintro v38 w38 C38 B38 hu38 rfl
  refine zz 3 ?_
  refine zb 58 (b := !(decide (Nat.gcd (val a.ln) (val a.ld) = 1))) (fun hc39 => ?_) (fun hc39 => ?_)
  ·
   have ht40 : ¬ (Nat.gcd (val a.ln) (val a.ld) = 1) := by simpa using hc39
   refine zz 8 ?_
   refine zr' (v := .int .i64 2) ?_
   exact ⟨C38.upd, _, rfl, vint (chk_g hlong hok ⟨by omega, by simpa using ht40⟩).symm⟩
  have ht41 : Nat.gcd (val a.ln) (val a.ld) = 1 := by simpa using hc39
  refine zz 9 ?_
  refine zr' (v := .int .i64 0) ?_
  exact ⟨C38.upd, _, rfl, vint (chk_0 hlong hok (fun hh => hh.2 (by simpa using ht41))).symm⟩
 have hok : ¬ (chkN a.ln ≠ 0 ∨ chkN a.ld ≠ 0 ∨ val a.ld = 1 ∨ (val a.ln = 0 ∧ (a.neg = true ∨ 0 < val a.ld))) := by intro hh; rcases hh with e | e | e | ⟨e, e2⟩; exact (fun x => absurd (by simpa using ht10 : chkN a.ln = 0) x) e; exact (fun x => absurd (by simpa using ht15 : chkN a.ld = 0) x) e; exact (fun x => absurd x (by simpa using ht18)) e; omega
 refine zz 9 ?_
 refine zr' (v := .int .i64 0) ?_
 exact ⟨C17.upd, _, rfl, vint (chk_0 hlong hok (fun hh => by omega)).symm⟩
end Go.Proofs.YtjnbipmlmafahaaGreat
namespace Go.Proofs.YtjnbipmlmafahaaGreat
open Go Go.Gv Go.RowKit
set_option maxRecDepth 100000
set_option maxHeartbeats 1000000
def OpC (f : Nat) (op : Rat → Rat → Rat) : Prop := ∀ (w : World) (X : Hid) (hX : ∀ k o, X k o → k < w.heap.size) (ad₁ : Option Addr) (len₁ cap₁ n₁ : Nat) (h₁ : NatR (rd w X) ad₁ len₁ cap₁ n₁) (ae₁ : Option Addr) (le₁ ce₁ d₁ : Nat) (k₁ : NatR (rd w X) ae₁ le₁ ce₁ d₁) (s₁ : Bool) (hn₁ : n₁ < K128) (hd₁ : d₁ < K128) (ad₂ : Option Addr) (len₂ cap₂ n₂ : Nat) (h₂ : NatR (rd w X) ad₂ len₂ cap₂ n₂) (ae₂ : Option Addr) (le₂ ce₂ d₂ : Nat) (k₂ : NatR (rd w X) ae₂ le₂ ce₂ d₂) (s₂ : Bool) (hn₂ : n₂ < K128) (hd₂ : d₂ < K128) (hp₁ : 0 < d₁) (hp₂ : 0 < d₂), Calls Tryz.prog f #[.agg #[.slice ad₁ len₁ cap₁, .slice ae₁ le₁ ce₁, .bool s₁], .agg #[.slice ad₂ len₂ cap₂, .slice ae₂ le₂ ce₂, .bool s₂]] w (Ret E0 w fun w' v => ∃ s m d, ValX X w' v s m d ∧ m < 4294967296 ^ 512 ∧ d < 4294967296 ^ 512 ∧ 0 < d ∧ mkRat (sgn s m) d = op (mkRat (sgn s₁ n₁) d₁) (mkRat (sgn s₂ n₂) d₂))
theorem dd_fits {a b : Nat} (h : a < K128) (h2 : b < K128) : a * b < 4294967296 ^ 512 := dd_fit h h2
theorem sum_op : OpC 92 (· + ·) := fun w X hX ad₁ len₁ cap₁ n₁ h₁ ae₁ le₁ ce₁ d₁ k₁ s₁ hn₁ hd₁ ad₂ len₂ cap₂ n₂ h₂ ae₂ le₂ ce₂ d₂ k₂ s₂ hn₂ hd₂ hp₁ hp₂ =>
  (sum_c w X hX ad₁ len₁ cap₁ n₁ h₁ ae₁ le₁ ce₁ d₁ k₁ s₁ hn₁ hd₁ ad₂ len₂ cap₂ n₂ h₂ ae₂ le₂ ce₂ d₂ k₂ s₂ hn₂ hd₂).mono (by
    rintro e w' ⟨hu, v, rfl, s, m, hv, hm, he⟩
    refine ⟨hu, _, rfl, s, m, _, hv, hm, dd_fits hd₁ hd₂, Nat.mul_pos hp₁ hp₂, ?_⟩
    show _ = mkRat (sgn s₁ n₁) d₁ + mkRat (sgn s₂ n₂) d₂
    rw [Rat.mkRat_add_mkRat _ _ (by omega) (by omega), he])
theorem product_op : OpC 134 (· * ·) := fun w X hX ad₁ len₁ cap₁ n₁ h₁ ae₁ le₁ ce₁ d₁ k₁ s₁ hn₁ hd₁ ad₂ len₂ cap₂ n₂ h₂ ae₂ le₂ ce₂ d₂ k₂ s₂ hn₂ hd₂ hp₁ hp₂ =>
  (product_c w X hX ad₁ len₁ cap₁ n₁ h₁ ae₁ le₁ ce₁ d₁ k₁ s₁ hn₁ hd₁ ad₂ len₂ cap₂ n₂ h₂ ae₂ le₂ ce₂ d₂ k₂ s₂ hn₂ hd₂).mono (by
    rintro e w' ⟨hu, v, rfl, s, m, hv, hm, he⟩
    refine ⟨hu, _, rfl, s, m, _, hv, hm, dd_fits hd₁ hd₂, Nat.mul_pos hp₁ hp₂, ?_⟩
    show _ = mkRat (sgn s₁ n₁) d₁ * mkRat (sgn s₂ n₂) d₂
    rw [Rat.mkRat_mul_mkRat, he])
theorem lowest_r (w : World) (X : Hid) (hX : ∀ k o, X k o → k < w.heap.size) (ad : Option Addr) (len cap x : Nat) (h : NatR (rd w X) ad len cap x) (ad2 : Option Addr) (len2 cap2 y : Nat) (h2 : NatR (rd w X) ad2 len2 cap2 y) (sg : Bool) (hx : x < 4294967296 ^ 512) (hy : y < 4294967296 ^ 512) (hd : 0 < y) (z : Rat) (hz : mkRat (sgn sg x) y = z) : Calls Tryz.prog 118 #[.agg #[.slice ad len cap, .slice ad2 len2 cap2, .bool sg]] w (Ret E0 w fun w' v => RatX (old w) w' v z) := by
  subst hz; exact lowest_c w X hX ad len cap x h ad2 len2 cap2 y h2 sg hx hy hd
theorem operate_c (f : Nat) (op : Rat → Rat → Rat) (hcf : ∀ args w, (callFunc f args).run Tryz.prog w = .ok (.enter f args) w) (hop : OpC f op) (w : World) (X : Hid) (hX : ∀ k o, X k o → k < w.heap.size) (a : Raw) (ad₁ : Option Addr) (len₁ cap₁ : Nat) (h₁ : Limbs (rd w X) ad₁ len₁ cap₁ a.ln) (ae₁ : Option Addr) (le₁ ce₁ : Nat) (k₁ : Limbs (rd w X) ae₁ le₁ ce₁ a.ld) (b : Raw) (ad₂ : Option Addr) (len₂ cap₂ : Nat) (h₂ : Limbs (rd w X) ad₂ len₂ cap₂ b.ln) (ae₂ : Option Addr) (le₂ ce₂ : Nat) (k₂ : Limbs (rd w X) ae₂ le₂ ce₂ b.ld) (z : Rat) (hz : op a.rat b.rat = z) : Calls Tryz.prog 91 #[.agg #[.bool a.neg, .slice ad₁ len₁ cap₁, .slice ae₁ le₁ ce₁], .agg #[.bool b.neg, .slice ad₂ len₂ cap₂, .slice ae₂ le₂ ce₂], .func (.func f) #[] #[]] w (Ret E0 w fun w' v => ∃ u, v = .tuple #[u, .int .i64 (opE a b z)] ∧ RawX (old w) w' u (opR a b z)) := by
 refine zen Tryz.func91 ?_
 have C0 : St E0 w X w X [] := St.start hX
 refine zz 2 ?_
 refine zn pn (.cells #[.bool a.neg, .slice ad₁ len₁ cap₁, .slice ae₁ le₁ ce₁] 28 (0, 0)) C0 ?_
 intro b3 w3 Y3 C3 B3 hu3
 refine zn pn (.cells #[.bool b.neg, .slice ad₂ len₂ cap₂, .slice ae₂ le₂ ce₂] 28 (0, 0)) C3 ?_
 intro b5 w5 Y5 C5 B5 hu5
 refine zn pn (.cells #[.bool false, .slice none 0 0, .slice none 0 0] 28 (0, 0)) C5 ?_
 intro b7 w7 Y7 C7 B7 hu7
 refine zz 5 ?_
 refine zdr C7 ?_
 refine gw 0 2 ?_
 refine gw 2 1 ?_
 have hc1_ := (Le2 B3 B5).trans B7
 refine gC 1 (fun w8 Y8 _ C8 B8 => (rcheck_c _ _ C8.lt a _ _ _ (h₁.mono (hc1_.trans B8)) _ _ _ (k₁.mono (hc1_.trans B8)))) ?_
 rintro v9 w8 Y9 w9 C8 B9 rfl
 have hc2_ := hc1_.trans B9
 refine gC 3 (fun w10 Y10 _ C10 B10 => (rcheck_c _ _ C10.lt b _ _ _ (h₂.mono (hc2_.trans B10)) _ _ _ (k₂.mono (hc2_.trans B10)))) ?_
 rintro v11 w10 Y11 w11 C10 B11 rfl
 refine gp1 (al 4 14 (fun b => .slice (some ⟨b, 0, none⟩) 2 2) (.cells #[.int .i64 a.chk, .int .i64 b.chk] 34 (0, 0))) (fun b12 => ?_)
 refine gC 5 (vs := #[.slice (some ⟨b12, 0, none⟩) 2 2]) (fun w13 Y13 _ C13 B13 => (or_c _ X0 (X0_lt _) _ _ _ _ [a.chk, b.chk] rfl (by simp) (C13.at0 0 rfl rfl))) ?_
 rintro v14 w13 Y14 w14 C13 B14 rfl
 refine gz [6] ?_
 refine gend (fun w15 Y15 C15 B15 => ?_)
 refine zz 7 ?_
 refine zb 17 (b := ((orL [a.chk, b.chk]) != 0)) (fun hc16 => ?_) (fun hc16 => ?_)
 ·
  have ht17 : (orL [a.chk, b.chk]) ≠ 0 := by simpa using hc16
  refine zz 5 ?_
  refine zx 1 #[.bool false, .slice none 0 0, .slice none 0 0] C15 ?_
  intro w18 C18 B18
  refine zz 5 ?_
  refine zrS [.cell 6 28, .tmp 7] (v := .tuple #[.agg #[.bool false, .slice none 0 0, .slice none 0 0], .int .i64 (orL [a.chk, b.chk])]) (Res.cM C18 1 (Res.tZ Res.nil)) ?_
  obtain ⟨he1, he2⟩ := op_err (z := z) ht17
  exact ⟨C18.upd, _, rfl, _, by rw [he1], by rw [he2]; exact raw_zero⟩
 have ht19 : (orL [a.chk, b.chk]) = 0 := by simpa using hc16
 obtain ⟨hca, hcb⟩ := or2_zero ((orL2 _ _).symm.trans (by simpa using ht19))
 obtain ⟨hla, hma, cna, cda, _, _, _⟩ := Raw.chk_ok hca
 have bna : val a.ln < K128 := (canon_le_iff h₁.hlt cna 128).1 hla
 have bda : a.d < K128 := by unfold Raw.d; split; exact Nat.one_lt_pow (by omega) (by omega); exact (canon_le_iff k₁.hlt cda 128).1 hma
 have pda := Raw.d_pos a
 have hNna := h₁.natR cna
 have hNda := k₁.natR cda
 obtain ⟨hlb, hmb, cnb, cdb, _, _, _⟩ := Raw.chk_ok hcb
 have bnb : val b.ln < K128 := (canon_le_iff h₂.hlt cnb 128).1 hlb
 have bdb : b.d < K128 := by unfold Raw.d; split; exact Nat.one_lt_pow (by omega) (by omega); exact (canon_le_iff k₂.hlt cdb 128).1 hmb
 have pdb := Raw.d_pos b
 have hNnb := h₂.natR cnb
 have hNdb := k₂.natR cdb
 refine zz 4 ?_
 refine zdraw [0, 1, 2, 3] C15 ?_
 refine gz [0] ?_
 refine gw 1 3 ?_
 refine gw 3 2 ?_
 refine gp (al 7 9 pn (.cells #[.bool false, .slice none 0 0, .slice none 0 0] 28 (0, 0))) ?_
 have hc3_ := ((hc2_.trans B11).trans B14).trans B15
 refine gC 2 (fun w20 Y20 _ C20 B20 => (of_c _ _ C20.lt a.neg _ _ _ (val a.ln) (hNna.mono (hc3_.trans B20)) _ _ _ (val a.ld) (hNda.mono (hc3_.trans B20)))) ?_ (hPd := PdOk.nil.k)
 rintro v21 w20 Y21 w21 C20 B21 ⟨ad21, len21, cap21, ae21, le21, ce21, rfl, hN21, hD21⟩
 have hc4_ := hc3_.trans B21
 refine gC 4 (fun w22 Y22 _ C22 B22 => (of_c _ _ C22.lt b.neg _ _ _ (val b.ln) (hNnb.mono (hc4_.trans B22)) _ _ _ (val b.ld) (hNdb.mono (hc4_.trans B22)))) ?_ (hPd := PdOk.nil.k)
 rintro v23 w22 Y23 w23 C22 B23 ⟨ad23, len23, cap23, ae23, le23, ce23, rfl, hN23, hD23⟩
 refine gC 5 (hcall := (fun w => hcf _ w)) (fun w24 Y24 _ C24 B24 => (hop _ _ C24.lt _ _ _ (val a.ln) (hN21.mono (Le2 B23 B24)) _ _ _ a.d (hD21.mono (Le2 B23 B24)) a.neg (by assumption) (by assumption) _ _ _ (val b.ln) (hN23.mono B24) _ _ _ b.d (hD23.mono B24) b.neg (by assumption) (by assumption) (by assumption) (by assumption))) ?_ (hPd := PdOk.nil.k)
 rintro v25 w24 Y25 w25 C24 B25 ⟨sg25, m25, d25, ⟨ad25, len25, cap25, ae25, le25, ce25, rfl, hN25, hD25⟩, hm25, hd25, hp25, he25⟩
 refine gC 6 (fun w26 Y26 _ C26 B26 => (lowest_r _ _ C26.lt _ _ _ m25 (hN25.mono B26) _ _ _ d25 (hD25.mono B26) sg25 hm25 hd25 hp25 z (he25.trans hz))) ?_ (hPd := PdOk.nil.k)
 rintro v27 w26 Y27 w27 C26 B27 ⟨ad27, len27, cap27, ae27, le27, ce27, rfl, hN27, hD27⟩
 refine gs1 (fun b28 => ?_) PdOk.nil.k
 refine gX 8 0 #[.bool (decide (z.num < 0)), .slice ad27 len27 cap27, .slice ae27 le27 ce27] ?_
 intro w29 Y29 B29
 refine gend (fun w30 Y30 C30 B30 => ?_)
 refine zz 5 ?_
 refine zo 0 C30 ?_
 refine zz 3 ?_
 refine zt 31 (p := (len27 : Int) > 128) (fun ht31 => ?_) (fun ht31 => ?_)
 ·
  refine zz 11 ?_
  refine zx 2 #[.bool false, .slice none 0 0, .slice none 0 0] C30 ?_
  intro w32 C32 B32
  refine zz 5 ?_
  refine zrS [.cell 6 28, .tmp 7] (v := .tuple #[.agg #[.bool false, .slice none 0 0, .slice none 0 0], .int .i64 4]) (Res.cM C32 2 (Res.tZ Res.nil)) ?_
  obtain ⟨he1, he2⟩ := op_long (z := z) ht19 (fun hh => absurd ((hN27.len_le 128).2 hh.1) (by omega))
  exact ⟨C32.upd, _, rfl, _, by rw [he1], by rw [he2]; exact raw_zero⟩
 refine zz 1 ?_
 refine zo 0 C30 ?_
 refine zz 5 ?_
 refine zt 36 (p := (le27 : Int) > 128) (fun ht33 => ?_) (fun ht33 => ?_)
 ·
  refine zz 4 ?_
  refine zx 2 #[.bool false, .slice none 0 0, .slice none 0 0] C30 ?_
  intro w34 C34 B34
  refine zz 5 ?_
  refine zrS [.cell 6 28, .tmp 7] (v := .tuple #[.agg #[.bool false, .slice none 0 0, .slice none 0 0], .int .i64 4]) (Res.cM C34 2 (Res.tZ Res.nil)) ?_
  obtain ⟨he1, he2⟩ := op_long (z := z) ht19 (fun hh => absurd ((hD27.len_le 128).2 hh.2) (by omega))
  exact ⟨C34.upd, _, rfl, _, by rw [he1], by rw [he2]; exact raw_zero⟩
 refine zz 5 ?_
 refine zo 0 C30 ?_
 refine zx 2 #[.bool (decide (z.num < 0)), .slice ad27 len27 cap27, .slice ae27 le27 ce27] C30 ?_
 intro w35 C35 B35
 refine zz 4 ?_
 refine zrS [.cell 6 28, .tmp 7] (v := .tuple #[.agg #[.bool (decide (z.num < 0)), .slice ad27 len27 cap27, .slice ae27 le27 ce27], .int .i64 0]) (Res.cM C35 2 (Res.tZ Res.nil)) ?_
 obtain ⟨he1, he2⟩ := op_good (z := z) ht19 ⟨(hN27.len_le 128).1 (by omega), (hD27.len_le 128).1 (by omega)⟩
 exact ⟨C35.upd, _, rfl, _, by rw [he1], by rw [he2]; exact RatX.raw ⟨_, _, _, _, _, _, rfl, ((hN27.mono (Le.own C26.lt C26.upd.size (Le3 B29 B30 B35))).mono Le.orr), ((hD27.mono (Le.own C26.lt C26.upd.size (Le3 B29 B30 B35))).mono Le.orr)⟩⟩
end Go.Proofs.YtjnbipmlmafahaaGreat
namespace Go.Proofs.YtjnbipmlmafahaaGreat
open Go Go.Gv Go.RowKit
set_option maxRecDepth 100000
set_option maxHeartbeats 1000000
theorem rAdd_c (w : World) (X : Hid) (hX : ∀ k o, X k o → k < w.heap.size) (a : Raw) (ad₁ : Option Addr) (len₁ cap₁ : Nat) (h₁ : Limbs (rd w X) ad₁ len₁ cap₁ a.ln) (ae₁ : Option Addr) (le₁ ce₁ : Nat) (k₁ : Limbs (rd w X) ae₁ le₁ ce₁ a.ld) (b : Raw) (ad₂ : Option Addr) (len₂ cap₂ : Nat) (h₂ : Limbs (rd w X) ad₂ len₂ cap₂ b.ln) (ae₂ : Option Addr) (le₂ ce₂ : Nat) (k₂ : Limbs (rd w X) ae₂ le₂ ce₂ b.ld) : Calls Tryz.prog 57 #[.agg #[.bool a.neg, .slice ad₁ len₁ cap₁, .slice ae₁ le₁ ce₁], .agg #[.bool b.neg, .slice ad₂ len₂ cap₂, .slice ae₂ le₂ ce₂]] w (Ret E0 w fun w' v => ∃ u, v = .tuple #[u, .int .i64 (opE a b (a.rat + b.rat))] ∧ RawX (old w) w' u (opR a b (a.rat + b.rat))) := by
 refine zen Tryz.func57 ?_
 have C0 : St E0 w X w X [] := St.start hX
 refine zz 2 ?_
 refine zn pn (.cells #[.bool a.neg, .slice ad₁ len₁ cap₁, .slice ae₁ le₁ ce₁] 28 (0, 0)) C0 ?_
 intro b3 w3 Y3 C3 B3 hu3
 refine zn pn (.cells #[.bool b.neg, .slice ad₂ len₂ cap₂, .slice ae₂ le₂ ce₂] 28 (0, 0)) C3 ?_
 intro b5 w5 Y5 C5 B5 hu5
 refine zn pn (.cells #[.bool false, .slice none 0 0, .slice none 0 0] 28 (0, 0)) C5 ?_
 intro b7 w7 Y7 C7 B7 hu7
 refine zz 5 ?_
 refine zo 2 C7 ?_
 refine zo 1 C7 ?_
 refine zc C7 (operate_c 92 (· + ·) (fun args w => Tryz.call92 args w) sum_op _ _ C7.lt a _ _ _ (h₁.mono (Le3 B3 B5 B7)) _ _ _ (k₁.mono (Le3 B3 B5 B7)) b _ _ _ (h₂.mono (Le3 B3 B5 B7)) _ _ _ (k₂.mono (Le3 B3 B5 B7)) (a.rat + b.rat) rfl) ?_
 rintro v9 w9 C9 B9 hu9 ⟨u9, rfl, ⟨ad9, len9, cap9, ae9, le9, ce9, rfl, hN9, hD9⟩⟩
 refine zz 2 ?_
 refine zx 0 #[.bool ((opR a b (a.rat + b.rat)).neg), .slice ad9 len9 cap9, .slice ae9 le9 ce9] C9 ?_
 intro w10 C10 B10
 refine zz 4 ?_
 refine zrS [.cell 4 28, .tmp 5] (v := .tuple #[.agg #[.bool ((opR a b (a.rat + b.rat)).neg), .slice ad9 len9 cap9, .slice ae9 le9 ce9], .int .i64 (opE a b (a.rat + b.rat))]) (Res.cM C10 0 (Res.tZ Res.nil)) ?_
 exact ⟨C10.upd, _, rfl, _, rfl, ⟨_, _, _, _, _, _, rfl, ((hN9.mono (Le.own C7.lt C7.upd.size B10)).mono Le.orr), ((hD9.mono (Le.own C7.lt C7.upd.size B10)).mono Le.orr)⟩⟩
theorem rMul_c (w : World) (X : Hid) (hX : ∀ k o, X k o → k < w.heap.size) (a : Raw) (ad₁ : Option Addr) (len₁ cap₁ : Nat) (h₁ : Limbs (rd w X) ad₁ len₁ cap₁ a.ln) (ae₁ : Option Addr) (le₁ ce₁ : Nat) (k₁ : Limbs (rd w X) ae₁ le₁ ce₁ a.ld) (b : Raw) (ad₂ : Option Addr) (len₂ cap₂ : Nat) (h₂ : Limbs (rd w X) ad₂ len₂ cap₂ b.ln) (ae₂ : Option Addr) (le₂ ce₂ : Nat) (k₂ : Limbs (rd w X) ae₂ le₂ ce₂ b.ld) : Calls Tryz.prog 95 #[.agg #[.bool a.neg, .slice ad₁ len₁ cap₁, .slice ae₁ le₁ ce₁], .agg #[.bool b.neg, .slice ad₂ len₂ cap₂, .slice ae₂ le₂ ce₂]] w (Ret E0 w fun w' v => ∃ u, v = .tuple #[u, .int .i64 (opE a b (a.rat * b.rat))] ∧ RawX (old w) w' u (opR a b (a.rat * b.rat))) := by
 refine zen Tryz.func95 ?_
 have C0 : St E0 w X w X [] := St.start hX
 refine zz 2 ?_
 refine zn pn (.cells #[.bool a.neg, .slice ad₁ len₁ cap₁, .slice ae₁ le₁ ce₁] 28 (0, 0)) C0 ?_
 intro b3 w3 Y3 C3 B3 hu3
 refine zn pn (.cells #[.bool b.neg, .slice ad₂ len₂ cap₂, .slice ae₂ le₂ ce₂] 28 (0, 0)) C3 ?_
 intro b5 w5 Y5 C5 B5 hu5
 refine zn pn (.cells #[.bool false, .slice none 0 0, .slice none 0 0] 28 (0, 0)) C5 ?_
 intro b7 w7 Y7 C7 B7 hu7
 refine zz 5 ?_
 refine zo 2 C7 ?_
 refine zo 1 C7 ?_
 refine zc C7 (operate_c 134 (· * ·) (fun args w => Tryz.call134 args w) product_op _ _ C7.lt a _ _ _ (h₁.mono (Le3 B3 B5 B7)) _ _ _ (k₁.mono (Le3 B3 B5 B7)) b _ _ _ (h₂.mono (Le3 B3 B5 B7)) _ _ _ (k₂.mono (Le3 B3 B5 B7)) (a.rat * b.rat) rfl) ?_
 rintro v9 w9 C9 B9 hu9 ⟨u9, rfl, ⟨ad9, len9, cap9, ae9, le9, ce9, rfl, hN9, hD9⟩⟩
 refine zz 2 ?_
 refine zx 0 #[.bool ((opR a b (a.rat * b.rat)).neg), .slice ad9 len9 cap9, .slice ae9 le9 ce9] C9 ?_
 intro w10 C10 B10
 refine zz 4 ?_
 refine zrS [.cell 4 28, .tmp 5] (v := .tuple #[.agg #[.bool ((opR a b (a.rat * b.rat)).neg), .slice ad9 len9 cap9, .slice ae9 le9 ce9], .int .i64 (opE a b (a.rat * b.rat))]) (Res.cM C10 0 (Res.tZ Res.nil)) ?_
 exact ⟨C10.upd, _, rfl, _, rfl, ⟨_, _, _, _, _, _, rfl, ((hN9.mono (Le.own C7.lt C7.upd.size B10)).mono Le.orr), ((hD9.mono (Le.own C7.lt C7.upd.size B10)).mono Le.orr)⟩⟩
theorem rFrom_c (w : World) (X : Hid) (hX : ∀ k o, X k o → k < w.heap.size) (n : Int) (h1 : -9223372036854775808 ≤ n) (h2 : n ≤ 9223372036854775807) : Calls Tryz.prog 38 #[.int .i64 n] w (Ret E0 w fun w' v => RawX X w' v (.of (n : Rat))) := by
 refine zen Tryz.func38 ?_
 have C0 : St E0 w X w X [] := St.start hX
 refine zz 2 ?_
 refine zn pn (.cells #[.bool false, .slice none 0 0, .slice none 0 0] 28 (0, 0)) C0 ?_
 intro b3 w3 Y3 C3 B3 hu3
 refine zz 7 ?_
 refine zc C3 (natural_c _ _ C3.lt n (by omega) (by omega)) ?_
 rintro v5 w5 C5 B5 hu5 ⟨ad5, len5, cap5, rfl, hN5⟩
 refine zz 1 ?_
 refine zx 0 #[.bool (decide ((n) < 0)), .slice ad5 len5 cap5, .slice none 0 0] C5 ?_
 intro w6 C6 B6
 refine zz 3 ?_
 refine zrS [.cell 2 28] (v := .agg #[.bool (decide ((n) < 0)), .slice ad5 len5 cap5, .slice none 0 0]) (Res.cM C6 0 Res.nil) ?_
 exact ⟨C6.upd, _, rfl, (int_rat ((hN5.mono B6).mono C6.le)).raw⟩
theorem rCmp_c (w : World) (X : Hid) (hX : ∀ k o, X k o → k < w.heap.size) (a : Raw) (ad₁ : Option Addr) (len₁ cap₁ : Nat) (h₁ : Limbs (rd w X) ad₁ len₁ cap₁ a.ln) (ae₁ : Option Addr) (le₁ ce₁ : Nat) (k₁ : Limbs (rd w X) ae₁ le₁ ce₁ a.ld) (b : Raw) (ad₂ : Option Addr) (len₂ cap₂ : Nat) (h₂ : Limbs (rd w X) ad₂ len₂ cap₂ b.ln) (ae₂ : Option Addr) (le₂ ce₂ : Nat) (k₂ : Limbs (rd w X) ae₂ le₂ ce₂ b.ld) : Calls Tryz.prog 80 #[.agg #[.bool a.neg, .slice ad₁ len₁ cap₁, .slice ae₁ le₁ ce₁], .agg #[.bool b.neg, .slice ad₂ len₂ cap₂, .slice ae₂ le₂ ce₂]] w (Ret E0 w fun w' v => v = .tuple #[.int .i64 (cmpR a b), .int .i64 (cmpE a b)]) := by
 refine zen Tryz.func80 ?_
 have C0 : St E0 w X w X [] := St.start hX
 refine zz 2 ?_
 refine zn pn (.cells #[.bool a.neg, .slice ad₁ len₁ cap₁, .slice ae₁ le₁ ce₁] 28 (0, 0)) C0 ?_
 intro b3 w3 Y3 C3 B3 hu3
 refine zn pn (.cells #[.bool b.neg, .slice ad₂ len₂ cap₂, .slice ae₂ le₂ ce₂] 28 (0, 0)) C3 ?_
 intro b5 w5 Y5 C5 B5 hu5
 refine zz 6 ?_
 refine zdr C5 ?_
 refine gw 0 1 ?_
 refine gw 2 0 ?_
 refine gC 1 (fun w6 Y6 _ C6 B6 => (rcheck_c _ _ C6.lt a _ _ _ (h₁.mono (Le3 B3 B5 B6)) _ _ _ (k₁.mono (Le3 B3 B5 B6)))) ?_
 rintro v7 w6 Y7 w7 C6 B7 rfl
 have hc1_ := (Le2 B3 B5).trans B7
 refine gC 3 (fun w8 Y8 _ C8 B8 => (rcheck_c _ _ C8.lt b _ _ _ (h₂.mono (hc1_.trans B8)) _ _ _ (k₂.mono (hc1_.trans B8)))) ?_
 rintro v9 w8 Y9 w9 C8 B9 rfl
 refine gp1 (al 4 14 (fun b => .slice (some ⟨b, 0, none⟩) 2 2) (.cells #[.int .i64 a.chk, .int .i64 b.chk] 34 (0, 0))) (fun b10 => ?_)
 refine gC 5 (vs := #[.slice (some ⟨b10, 0, none⟩) 2 2]) (fun w11 Y11 _ C11 B11 => (or_c _ X0 (X0_lt _) _ _ _ _ [a.chk, b.chk] rfl (by simp) (C11.at0 0 rfl rfl))) ?_
 rintro v12 w11 Y12 w12 C11 B12 rfl
 refine gz [6] ?_
 refine gend (fun w13 Y13 C13 B13 => ?_)
 refine zz 7 ?_
 refine zb 17 (b := ((orL [a.chk, b.chk]) != 0)) (fun hc14 => ?_) (fun hc14 => ?_)
 ·
  have ht15 : (orL [a.chk, b.chk]) ≠ 0 := by simpa using hc14
  refine zz 10 ?_
  refine zr' (v := .tuple #[.int .i64 0, .int .i64 (orL [a.chk, b.chk])]) ?_
  exact ⟨C13.upd, _, rfl, by rw [cmpR, cmpE, ← orL2, if_neg ht15]⟩
 have ht16 : (orL [a.chk, b.chk]) = 0 := by simpa using hc14
 obtain ⟨hca, hcb⟩ := or2_zero ((orL2 _ _).symm.trans (by simpa using ht16))
 obtain ⟨hla, hma, cna, cda, _, _, _⟩ := Raw.chk_ok hca
 have bna : val a.ln < K128 := (canon_le_iff h₁.hlt cna 128).1 hla
 have bda : a.d < K128 := by unfold Raw.d; split; exact Nat.one_lt_pow (by omega) (by omega); exact (canon_le_iff k₁.hlt cda 128).1 hma
 have pda := Raw.d_pos a
 have hNna := h₁.natR cna
 have hNda := k₁.natR cda
 obtain ⟨hlb, hmb, cnb, cdb, _, _, _⟩ := Raw.chk_ok hcb
 have bnb : val b.ln < K128 := (canon_le_iff h₂.hlt cnb 128).1 hlb
 have bdb : b.d < K128 := by unfold Raw.d; split; exact Nat.one_lt_pow (by omega) (by omega); exact (canon_le_iff k₂.hlt cdb 128).1 hmb
 have pdb := Raw.d_pos b
 have hNnb := h₂.natR cnb
 have hNdb := k₂.natR cdb
 refine zz 4 ?_
 refine zdrs [0, 1, 2] C13 ?_
 refine gw 0 2 ?_
 refine gw 2 1 ?_
 refine gp (al 5 8 pn (.cells #[.slice none 0 0, .slice none 0 0, .bool false] 155 (0, 0))) ?_
 refine gp (al 4 7 pn (.cells #[.slice none 0 0, .slice none 0 0, .bool false] 155 (0, 0))) ?_
 have hc2_ := ((hc1_.trans B9).trans B12).trans B13
 refine gC 1 (fun w17 Y17 _ C17 B17 => (of_c _ _ C17.lt a.neg _ _ _ (val a.ln) (hNna.mono (hc2_.trans B17)) _ _ _ (val a.ld) (hNda.mono (hc2_.trans B17)))) ?_ (hPd := PdOk.nil.k.k)
 rintro v18 w17 Y18 w18 C17 B18 ⟨ad18, len18, cap18, ae18, le18, ce18, rfl, hN18, hD18⟩
 have hc3_ := hc2_.trans B18
 refine gC 3 (fun w19 Y19 _ C19 B19 => (of_c _ _ C19.lt b.neg _ _ _ (val b.ln) (hNnb.mono (hc3_.trans B19)) _ _ _ (val b.ld) (hNdb.mono (hc3_.trans B19)))) ?_ (hPd := PdOk.nil.k.k)
 rintro v20 w19 Y20 w20 C19 B20 ⟨ad20, len20, cap20, ae20, le20, ce20, rfl, hN20, hD20⟩
 refine ge (fun e21 => ?_) PdOk.nil.k.k
 refine gXs 6 0 [2, 3, 4] #[.slice ad18 len18 cap18, .slice ae18 le18 ce18, .bool a.neg] ?_
 intro w22 Y22 B22
 refine gXs 7 1 [2, 3, 4] #[.slice ad20 len20 cap20, .slice ae20 le20 ce20, .bool b.neg] ?_
 intro w23 Y23 B23
 refine gend (fun w24 Y24 C24 B24 => ?_)
 refine zz 4 ?_
 refine zo 1 C24 ?_
 refine zz 2 ?_
 refine zx 1 #[.slice ad20 len20 cap20, .slice ae20 le20 ce20, .bool (!b.neg)] C24 ?_
 intro w25 C25 B25
 refine zz 5 ?_
 refine zo 0 C25 ?_
 refine zo 1 C25 ?_
 have hc4_ := (Le4 B20 B22 B23 B24).trans B25
 have hc5_ := (Le3 B22 B23 B24).trans B25
 refine zc C25 (sum_c _ _ C25.lt _ _ _ (val a.ln) (hN18.mono hc4_) _ _ _ a.d (hD18.mono hc4_) a.neg (by assumption) (by assumption) _ _ _ (val b.ln) (hN20.mono hc5_) _ _ _ b.d (hD20.mono hc5_) (!b.neg) (by assumption) (by assumption)) ?_
 rintro v27 w27 C27 B27 hu27 ⟨sg27, m27, ⟨ad27, len27, cap27, ae27, le27, ce27, rfl, hN27, hD27⟩, hm27, he27⟩
 have hc6_ := hc4_.trans B27
 have hc7_ := hc5_.trans B27
 refine zn pn (.cells #[.slice none 0 0, .slice none 0 0, .bool false] 155 (0, 0)) C27 ?_
 intro b29 w29 Y29 C29 B29 hu29
 refine zx 0 #[.slice ad27 len27 cap27, .slice ae27 le27 ce27, .bool sg27] C29 ?_
 intro w30 C30 B30
 refine zz 7 ?_
 refine zo 0 C30 ?_
 refine zz 5 ?_
 refine zb 30 (b := ((len27 : Int) == 0)) (fun hc31 => ?_) (fun hc31 => ?_)
 ·
  have ht32 : (len27 : Int) = 0 := by simpa using hc31
  have hdf : _ = a.rat - b.rat := diff_mk (he27.trans (by rw [sgn_not])) pda pdb
  have hm0 := hN27.len0.1 (by omega)
  refine zz 10 ?_
  refine zr' (v := .tuple #[.int .i64 0, .int .i64 0]) ?_
  exact ⟨C30.upd, _, rfl, by have h0 := ht16; rw [cmpR, cmpE, ← orL2, if_pos (by simpa using h0), show orL [a.chk, b.chk] = 0 by simpa using h0, cmp_zero hdf hm0]⟩
 have ht33 : (len27 : Int) ≠ 0 := by simpa using hc31
 have hdf : _ = a.rat - b.rat := diff_mk (he27.trans (by rw [sgn_not])) pda pdb
 have hm0 : m27 ≠ 0 := fun e => absurd (hN27.len0.2 e) (by omega)
 refine zz 4 ?_
 refine zo 0 C30 ?_
 refine zz 3 ?_
 refine zb 36 (b := sg27) (fun hc34 => ?_) (fun hc34 => ?_)
 ·
  have ht35 : sg27 = true := by simpa using hc34
  rw [ht35] at hdf
  refine zz 10 ?_
  refine zr' (v := .tuple #[.int .i64 (-1), .int .i64 0]) ?_
  exact ⟨C30.upd, _, rfl, by have h0 := ht16; rw [cmpR, cmpE, ← orL2, if_pos (by simpa using h0), show orL [a.chk, b.chk] = 0 by simpa using h0, cmp_neg hdf hm0 (den_ne pda pdb)]⟩
 have ht36 : sg27 = false := by simpa using hc34
 rw [ht36] at hdf
 refine zz 11 ?_
 refine zr' (v := .tuple #[.int .i64 1, .int .i64 0]) ?_
 exact ⟨C30.upd, _, rfl, by have h0 := ht16; rw [cmpR, cmpE, ← orL2, if_pos (by simpa using h0), show orL [a.chk, b.chk] = 0 by simpa using h0, cmp_pos hdf hm0 (den_ne pda pdb)]⟩
end Go.Proofs.YtjnbipmlmafahaaGreat
namespace Go.Proofs.YtjnbipmlmafahaaGreat
open Go Go.Gv Go.RowKit
set_option maxRecDepth 100000
set_option maxHeartbeats 1000000
theorem rOf_c (w : World) (X : Hid) (hX : ∀ k o, X k o → k < w.heap.size) (p q : Int) (hp : -9223372036854775808 ≤ p) (hp2 : p ≤ 9223372036854775807) (hq : -9223372036854775808 ≤ q) (hq2 : q ≤ 9223372036854775807) (h0 : q ≠ 0) : Calls Tryz.prog 84 #[.int .i64 p, .int .i64 q] w (Ret E0 w fun w' v => ∃ u, v = .tuple #[u, .int .i64 0] ∧ RawX X w' u (.of (mkRat (sgn (!(decide (p < 0) == decide (q < 0))) p.natAbs) q.natAbs))) := by
 have hB : (18446744073709551616 : Nat) ≤ 4294967296 ^ 512 := Nat.le_trans (by decide : 18446744073709551616 ≤ 4294967296 ^ 2) (pow_fit 4294967296 2 512 (by decide) (by decide))
 refine zen Tryz.func84 ?_
 have C0 : St E0 w X w X [] := St.start hX
 refine zz 2 ?_
 refine zn pn (.cells #[.bool false, .slice none 0 0, .slice none 0 0] 28 (0, 0)) C0 ?_
 intro b3 w3 Y3 C3 B3 hu3
 refine zz 10 ?_
 refine zb 7 (b := ((q) == 0)) (fun hc4 => ?_) (fun hc4 => ?_)
 ·
  have ht5 : (q) = 0 := by simpa using hc4
  exfalso; omega
 have ht6 : (q) ≠ 0 := by simpa using hc4
 refine zz 6 ?_
 refine zc C3 (natural_c _ _ C3.lt p (by omega) (by omega)) ?_
 rintro v8 w8 C8 B8 hu8 ⟨ad8, len8, cap8, rfl, hN8⟩
 refine zz 1 ?_
 refine zc C8 (natural_c _ _ C8.lt q (by omega) (by omega)) ?_
 rintro v10 w10 C10 B10 hu10 ⟨ad10, len10, cap10, rfl, hN10⟩
 refine zz 7 ?_
 refine zc C10 (lowest_r _ _ C10.lt _ _ _ p.natAbs (hN8.mono B10) _ _ _ q.natAbs hN10 (!((decide ((p) < 0)) == (decide ((q) < 0)))) (by omega) (by omega) (by omega) (mkRat (sgn (!(decide (p < 0) == decide (q < 0))) p.natAbs) q.natAbs) rfl) ?_
 rintro v12 w12 C12 B12 hu12 ⟨ad12, len12, cap12, ae12, le12, ce12, rfl, hN12, hD12⟩
 refine zx 0 #[.bool (decide ((mkRat (sgn (!(decide (p < 0) == decide (q < 0))) p.natAbs) q.natAbs).num < 0)), .slice ad12 len12 cap12, .slice ae12 le12 ce12] C12 ?_
 intro w13 C13 B13
 refine zz 4 ?_
 refine zrS [.cell 4 28, .tmp 5] (v := .tuple #[.agg #[.bool (decide ((mkRat (sgn (!(decide (p < 0) == decide (q < 0))) p.natAbs) q.natAbs).num < 0)), .slice ad12 len12 cap12, .slice ae12 le12 ce12], .int .i64 0]) (Res.cM C13 0 (Res.tZ Res.nil)) ?_
 exact ⟨C13.upd, _, rfl, _, rfl, RatX.raw ⟨_, _, _, _, _, _, rfl, ((hN12.mono (Le.new C10.lt)).mono B13).mono C13.le, ((hD12.mono (Le.new C10.lt)).mono B13).mono C13.le⟩⟩
end Go.Proofs.YtjnbipmlmafahaaGreat
namespace Go.Proofs.YtjnbipmlmafahaaGreat
open Go Go.Gv Go.RowKit
set_option maxRecDepth 100000
set_option maxHeartbeats 1000000
theorem take_snoc {α : Type} {l : List α} {k : Nat} {x : α} (h : l[k]? = some x) : l.take (k + 1) = l.take k ++ [x] := by rw [List.take_add_one, h]; rfl
theorem take_eq {α : Type} {l l2 : List α} {k : Nat} {x : α} (h : l.take k = l2.take k) (hx : l[k]? = some x) (hy : l2[k]? = some x) : l.take (k + 1) = l2.take (k + 1) := by rw [take_snoc hx, take_snoc hy, h]
theorem take_all {α : Type} {l l2 : List α} {k : Nat} (h : l.take k = l2.take k) (hl : l.length = l2.length) (hk : l.length ≤ k) : l = l2 := by
  rwa [List.take_of_length_le hk, List.take_of_length_le (by omega)] at h
theorem ne_at {α : Type} {l l2 : List α} {k : Nat} {x y : α} (hx : l[k]? = some x) (hy : l2[k]? = some y) (h : x ≠ y) : l ≠ l2 := by
  rintro rfl; exact h (Option.some.inj (hx.symm.trans hy))
theorem getD_some {l : List Nat} {k : Nat} (h : k < l.length) : l[k]? = some (l.getD k 0) := by
  rw [List.getD_eq_getElem?_getD, List.getElem?_eq_getElem h]; rfl
theorem vboolE {x y : Bool} (h : x = y) : Value.bool x = .bool y := h ▸ rfl
theorem EqualLimbs_c (w : World) (X : Hid) (hX : ∀ k o, X k o → k < w.heap.size) (ad : Option Addr) (len cap : Nat) (l : List Nat) (h : Limbs (rd w X) ad len cap l) (ad2 : Option Addr) (len2 cap2 : Nat) (l2 : List Nat) (h2 : Limbs (rd w X) ad2 len2 cap2 l2) : Calls Tryz.prog 102 #[.slice ad len cap, .slice ad2 len2 cap2] w (Ret E0 w fun _ v => v = .bool (decide (l = l2))) := by
 obtain rfl := h.hlen
 obtain rfl := h2.hlen
 have hcap := h.hcap
 have hbig := h.hbig
 have hcap2 := h2.hcap
 have hbig2 := h2.hbig
 refine zen Tryz.func102 ?_
 have C0 : St E0 w X w X [] := St.start hX
 refine zz 15 ?_
 refine zb 10 (b := ((l.length : Int) != (l2.length : Int))) (fun hc2 => ?_) (fun hc2 => ?_)
 ·
  have ht3 : (l.length : Int) ≠ (l2.length : Int) := by simpa using hc2
  refine zz 8 ?_
  refine zr' (v := .bool false) ?_
  exact ⟨C0.upd, _, rfl, vboolE ((decide_eq_false (fun e => by rw [e] at ht3; exact ht3 rfl)).symm)⟩
 have ht4 : (l.length : Int) = (l2.length : Int) := by simpa using hc2
 have hlen : l.length = l2.length := by omega
 refine zz 10 ?_
 refine zlp Tryz.f102 [] [1, 1, 0, 1, 0] (fun (k : Nat) => [(0, .slice ad l.length cap), (1, .slice ad2 l2.length cap2), (5, .int .i64 (k : Int))]) (fun (k : Nat) w1 => ∃ (Y1 : Hid), St E0 w X w1 Y1 [] ∧ Le (rd w X) (rd w1 Y1) ∧ (l.take k = l2.take k) ∧ (k ≤ l.length)) (fun (k : Nat) => l.length - k) 0 ?_ ?_
 ·
  refine ⟨_, C0, Le.refl _, rfl, Nat.zero_le _⟩
 rintro k w5 K5 H5 ⟨Y5, C5, B5, hp5_0, hp5_1⟩
 refine zz 9 ?_
 refine zt 14 (p := (k : Int) < (l.length : Int)) (fun ht6 => ?_) (fun ht6 => ?_)
 ·
  obtain ⟨b1, off1, rfl, _⟩ := h.addr (by omega)
  have hx1 := getD_some (l := l) (k := k) (by omega)
  obtain ⟨b2, off2, rfl, _⟩ := h2.addr (by omega)
  have hx2 := getD_some (l := l2) (k := k) (by omega)
  refine zz 6 ?_
  refine zdr C5 ?_
  refine gz [0, 1] ?_
  refine gi 2 (b := b1) (off := off1) (len := l.length) (cap := cap) (kd := .i64) (i := (k : Int)) 1 (off1 + k) ?_
  refine gl 3 ((h.cell (i := k) (by omega)).mono B5) ?_
  refine gz [4, 5] ?_
  refine gi 6 (b := b2) (off := off2) (len := l2.length) (cap := cap2) (kd := .i64) (i := (k : Int)) 1 (off2 + k) ?_
  refine gl 7 ((h2.cell (i := k) (by omega)).mono B5) ?_
  refine gz [8] ?_
  refine gend (fun w7 Y7 C7 B7 => ?_)
  refine zz 1 ?_
  refine zb 25 (b := (((l.getD k 0 : Nat) : Int) != ((l2.getD k 0 : Nat) : Int))) (fun hc8 => ?_) (fun hc8 => ?_)
  ·
   have ht9 : ((l.getD k 0 : Nat) : Int) ≠ ((l2.getD k 0 : Nat) : Int) := by simpa using hc8
   refine zz 12 ?_
   refine zr' (v := .bool false) ?_
   exact ⟨C7.upd, _, rfl, vboolE ((decide_eq_false (ne_at hx1 hx2 (fun e => ht9 (by rw [e])))).symm)⟩
  have ht10 : ((l.getD k 0 : Nat) : Int) = ((l2.getD k 0 : Nat) : Int) := by simpa using hc8
  refine zz 7 ?_
  refine zw 16 (x := (k : Int) + 1) ?_
  refine zz 2 ?_
  refine znext (fun a h => H5 (k + 1) _ a h ⟨_, C7, (Le2 B5 B7), take_eq hp5_0 hx1 (by rw [show l.getD k 0 = l2.getD k 0 by omega]; exact hx2), by omega⟩ ?_)
  first | omega | (simp <;> omega)
 refine zz 12 ?_
 refine zr' (v := .bool true) ?_
 exact ⟨C5.upd, _, rfl, vboolE ((decide_eq_true (take_all hp5_0 hlen (by omega))).symm)⟩
theorem EqualNat_c (w : World) (X : Hid) (hX : ∀ k o, X k o → k < w.heap.size) (ad : Option Addr) (len cap : Nat) (l : List Nat) (h : Limbs (rd w X) ad len cap l) (ad2 : Option Addr) (len2 cap2 : Nat) (l2 : List Nat) (h2 : Limbs (rd w X) ad2 len2 cap2 l2) : Calls Tryz.prog 68 #[.slice ad len cap, .slice ad2 len2 cap2] w (Ret E0 w fun _ v => v = .bool (decide (l = l2))) := by
 obtain rfl := h.hlen
 obtain rfl := h2.hlen
 have hcap := h.hcap
 have hbig := h.hbig
 have hcap2 := h2.hcap
 have hbig2 := h2.hbig
 refine zen Tryz.func68 ?_
 have C0 : St E0 w X w X [] := St.start hX
 refine zz 9 ?_
 refine zc C0 (EqualLimbs_c _ _ C0.lt _ _ _ _ h _ _ _ _ h2) ?_
 rintro v3 w3 C3 B3 hu3 rfl
 refine zz 4 ?_
 refine zr' (v := .bool (decide (l = l2))) ?_
 exact ⟨C3.upd, _, rfl, rfl⟩
theorem raw_ext {a b : Raw} : a = b ↔ a.neg = b.neg ∧ a.ln = b.ln ∧ a.ld = b.ld := by cases a; cases b; simp
theorem EqualRat_c (w : World) (X : Hid) (hX : ∀ k o, X k o → k < w.heap.size) (a : Raw) (ad₁ : Option Addr) (len₁ cap₁ : Nat) (h₁ : Limbs (rd w X) ad₁ len₁ cap₁ a.ln) (ae₁ : Option Addr) (le₁ ce₁ : Nat) (k₁ : Limbs (rd w X) ae₁ le₁ ce₁ a.ld) (b : Raw) (ad₂ : Option Addr) (len₂ cap₂ : Nat) (h₂ : Limbs (rd w X) ad₂ len₂ cap₂ b.ln) (ae₂ : Option Addr) (le₂ ce₂ : Nat) (k₂ : Limbs (rd w X) ae₂ le₂ ce₂ b.ld) : Calls Tryz.prog 23 #[.agg #[.bool a.neg, .slice ad₁ len₁ cap₁, .slice ae₁ le₁ ce₁], .agg #[.bool b.neg, .slice ad₂ len₂ cap₂, .slice ae₂ le₂ ce₂]] w (Ret E0 w fun _ v => v = .bool (decide (a = b))) := by
 refine zen Tryz.func23 ?_
 have C0 : St E0 w X w X [] := St.start hX
 refine zz 2 ?_
 refine zn pn (.cells #[.bool a.neg, .slice ad₁ len₁ cap₁, .slice ae₁ le₁ ce₁] 28 (0, 0)) C0 ?_
 intro b3 w3 Y3 C3 B3 hu3
 refine zn pn (.cells #[.bool b.neg, .slice ad₂ len₂ cap₂, .slice ae₂ le₂ ce₂] 28 (0, 0)) C3 ?_
 intro b5 w5 Y5 C5 B5 hu5
 refine zz 6 ?_
 refine zo 1 C5 ?_
 refine zz 1 ?_
 refine zo 0 C5 ?_
 refine zz 2 ?_
 refine zb 10 (b := (a.neg == b.neg)) (fun hc6 => ?_) (fun hc6 => ?_)
 ·
  have ht7 : a.neg = b.neg := by simpa using hc6
  refine zz 1 ?_
  refine zo 1 C5 ?_
  refine zz 1 ?_
  refine zo 0 C5 ?_
  refine zc C5 (EqualNat_c _ _ C5.lt _ _ _ _ (h₁.mono (Le2 B3 B5)) _ _ _ _ (h₂.mono (Le2 B3 B5))) ?_
  rintro v9 w9 C9 B9 hu9 rfl
  refine zz 2 ?_
  refine zb 17 (b := (decide (a.ln = b.ln))) (fun hc10 => ?_) (fun hc10 => ?_)
  ·
   have ht11 : a.ln = b.ln := of_decide_eq_true hc10
   refine zz 1 ?_
   refine zo 1 C9 ?_
   refine zz 1 ?_
   refine zo 0 C9 ?_
   refine zc C9 (EqualNat_c _ _ C9.lt _ _ _ _ (k₁.mono (Le3 B3 B5 B9)) _ _ _ _ (k₂.mono (Le3 B3 B5 B9))) ?_
   rintro v13 w13 C13 B13 hu13 rfl
   refine zz 5 ?_
   refine zr' (v := .bool (decide (a.ld = b.ld))) ?_
   refine ⟨C13.upd, _, rfl, vboolE ?_⟩
   refine Bool.eq_iff_iff.2 ?_; rw [show (decide (a = b) = true) ↔ _ from decide_eq_true_iff.trans raw_ext]; simp_all
  have ht14 : ¬ (a.ln = b.ln) := of_decide_eq_false hc10
  refine zz 10 ?_
  refine zr' (v := .bool false) ?_
  refine ⟨C9.upd, _, rfl, vboolE ?_⟩
  refine Bool.eq_iff_iff.2 ?_; rw [show (decide (a = b) = true) ↔ _ from decide_eq_true_iff.trans raw_ext]; simp_all
 have ht15 : a.neg ≠ b.neg := by simpa using hc6
 refine zz 17 ?_
 refine zr' (v := .bool false) ?_
 refine ⟨C5.upd, _, rfl, vboolE ?_⟩
 refine Bool.eq_iff_iff.2 ?_; rw [show (decide (a = b) = true) ↔ _ from decide_eq_true_iff.trans raw_ext]; simp_all
end Go.Proofs.YtjnbipmlmafahaaGreat
namespace Go.Proofs.YtjnbipmlmafahaaGreat
open Go Go.Gv Go.RowKit
set_option maxRecDepth 100000
set_option maxHeartbeats 1000000
theorem canon_pos {l : List Nat} (hc : Canon l) (h : 0 < l.length) : 0 < val l := by
  have := canon_len0 hc
  omega
end Go.Proofs.YtjnbipmlmafahaaGreat
namespace Go.Proofs.YtjnbipmlmafahaaGreat
open Go Go.Gv Go.RowKit
set_option maxRecDepth 100000
set_option maxHeartbeats 1000000
/-- A number whose parts have no leading zeros and are not long. -/
def Vr (a : Raw) : Prop := Canon a.ln ∧ Canon a.ld ∧ a.ln.length ≤ 1000 ∧ a.ld.length ≤ 1000
end Go.Proofs.YtjnbipmlmafahaaGreat
namespace Go.Proofs.YtjnbipmlmafahaaGreat
open Go Go.Gv Go.RowKit
set_option maxRecDepth 100000
set_option maxHeartbeats 1000000
theorem ratE_fits {z : Rat} (h : z.num.natAbs < K128 ∧ den1 z.den < K128) : ratE z = 0 := if_pos h
end Go.Proofs.YtjnbipmlmafahaaGreat
namespace Go.Proofs.YtjnbipmlmafahaaGreat
open Go Go.Gv Go.RowKit
set_option maxRecDepth 100000
set_option maxHeartbeats 1000000
/-- A number as an operation answers it. -/
def Nf (r : Raw) : Prop := r = .of r.rat ∧ ratE r.rat = 0
theorem Nf.zero : Nf .zero := by
  unfold Nf; rw [zero_rat0]; exact ⟨by decide, ratE_fits ⟨Nat.pow_pos (by omega), by show 0 < _; exact Nat.pow_pos (by omega)⟩⟩
theorem Nf.op {a b : Raw} {z : Rat} (h : opE a b z = 0) : Nf (opR a b z) := by
  have h1 : opR a b z = .of z := if_pos h
  rw [h1, Nf, Raw.of_rat]; exact ⟨rfl, (or2_zero h).2⟩
theorem Nf.chk {r : Raw} (h : Nf r) : r.chk = 0 := by rw [h.1]; exact Raw.of_chk h.2
section
variable {r x y : Raw} {xs ys : List Raw} {k : Nat}
end
end Go.Proofs.YtjnbipmlmafahaaGreat
/- Closures and iterators walked into where they are called. By an AI agent; over any program. -/
namespace Go.Gv
open Go.RowKit
attribute [local semireducible] Go
section
variable {r : Option Nat} {m : Nat} {P : Program} {Q : Exit → Act → World → Prop} {n : Nat} {D : List Deferred} {w : World} {c : Cf} {E : Nat → Prop} {w0 : World} {X Y : Hid} {M : List (Nat × Obj)}
/-- The call in hand, its body walked here. -/
theorem zci {f : FuncId} {vs : Array Value} {fn : Func} (hfn : P.funcs[f]? = some fn) (h : ∀ R : Ending → World → Prop, (∀ v w1, Go r m P Q n D w1 (nv c v) → R (.returned v) w1) → Go none 0 P (bodyPost P fn R) fn.ntmps [] w ⟨.code (bd fn), [], argsL 0 vs.toList⟩)
    (hb : fn.body = some (bd fn) := by rfl) (hle : Nat.ble vs.toList.length fn.ntmps = true := by kernel_rfl) (hv : clV c = some (f, vs) := by kernel_rfl) (hc : isv n c = true := by kernel_rfl) (ho : (cop c).op = .call { callee := .value (clF (cop c)), args := clA (cop c), argTypes := clT (cop c) } := by kernel_rfl)
    (hcall : ∀ w, (callFunc f vs).run P w = .ok (.enter f vs) w := by intro w; kernel_rfl) : Go r m P Q n D w c := by
  obtain ⟨cap, hf, ha⟩ := clV_spec hv
  refine z_op (isv_spec hc).1 fun _ hF => op_callF (Φ := fun w1 v => Go r m P Q n D w1 (nv c v)) hF (isv_spec hc).2 ho hf ha hcall (zen hfn (h _ fun v w1 hg => ⟨v, rfl, hg⟩) hb hle) fun v w1 h1 a1 G1 => (nv_eq c v ▸ h1 : Go r m P Q n D w1 (nv0 c v)) a1 G1
theorem zenM {f : FuncId} {args : Array Value} {R : Ending → World → Prop} {fn : Func} (hf : P.funcs[f]? = some fn) (h : Go none 0 P (bodyPostM (FF none) 0 P fn R) fn.ntmps [] w ⟨.code (bd fn), [], argsL 0 args.toList⟩) (hb : fn.body = some (bd fn) := by rfl) (hle : Nat.ble args.toList.length fn.ntmps = true := by kernel_rfl) : Calls P f args w R :=
  m_enter hf hb rfl rfl hle fun a hF => h a hF
theorem zciM {f : FuncId} {vs : Array Value} {fn : Func} (hfn : P.funcs[f]? = some fn) (h : ∀ R : Ending → World → Prop, (∀ v w1, Go r m P Q n D w1 (nv c v) → R (.returned v) w1) → Go none 0 P (bodyPostM (FF none) 0 P fn R) fn.ntmps [] w ⟨.code (bd fn), [], argsL 0 vs.toList⟩)
    (hb : fn.body = some (bd fn) := by rfl) (hle : Nat.ble vs.toList.length fn.ntmps = true := by kernel_rfl) (hv : clV c = some (f, vs) := by kernel_rfl) (hc : isv n c = true := by kernel_rfl) (ho : (cop c).op = .call { callee := .value (clF (cop c)), args := clA (cop c), argTypes := clT (cop c) } := by kernel_rfl)
    (hcall : ∀ w, (callFunc f vs).run P w = .ok (.enter f vs) w := by intro w; kernel_rfl) : Go r m P Q n D w c := by
  obtain ⟨cap, hf, ha⟩ := clV_spec hv
  refine z_op (isv_spec hc).1 fun _ hF => op_callF (Φ := fun w1 v => Go r m P Q n D w1 (nv c v)) hF (isv_spec hc).2 ho hf ha hcall (zenM hfn (h _ fun v w1 hg => ⟨v, rfl, hg⟩) hb hle) fun v w1 h1 a1 G1 => (nv_eq c v ▸ h1 : Go r m P Q n D w1 (nv0 c v)) a1 G1
/-! ### Yield -/
/-- The call in hand is a yield. -/
theorem zyld {r : Option Nat} {l : Nat} {vs : Array Value} (h : ∀ R : Ending → World → Prop, (∀ v w1, Go r 0 P Q n D w1 (nv c v) → R (.returned v) w1) → YieldAt (FF none) 0 P l vs w R)
    (hf : evL c.L (clF (cop c)) = .func (.yield l) #[] #[] := by kernel_rfl) (hargs : (clA (cop c)).map (evL c.L) = vs := by kernel_rfl) (hc : isv n c = true := by kernel_rfl) (ho : (cop c).op = .call { callee := .value (clF (cop c)), args := clA (cop c), argTypes := clT (cop c) } := by kernel_rfl) : Go r 0 P Q n D w c := by
  intro a hF
  have hc0 := isv_spec hc
  obtain ⟨cu, k, L⟩ := c
  match cu, hc, hF, h, hf, hargs, ho, hc0 with
  | .ops o (x :: l'), hc, hF, h, hf, hargs, ho, hc0 =>
    have hck : chk o L x (cd ⟨.ops o (x :: l'), k, L⟩) n = true := by
      have h1 := hc0.1
      simp only [isop, cops, cop, Bool.and_eq_true] at h1
      have h2 := hc0.2
      simp only [opk, Bool.and_eq_true] at h2
      simp only [chk, Bool.and_eq_true]
      exact ⟨h1.2.1, h2.1, h2.2⟩
    exact wpl_yield (R := fun e w1 => ∃ v, e = .returned v ∧ Go r 0 P Q n D w1 (nv ⟨.ops o (x :: l'), k, L⟩ v)) hF hck ho hf hargs (h _ fun v w1 hg => ⟨v, rfl, hg⟩) (fun _ _ h => h.elim fun v h => ⟨v, h.1⟩) (fun v w1 h1 a1 G1 => by
      obtain ⟨v', e, hg⟩ := h1
      cases e
      exact (nv_eq (⟨.ops o (x :: l'), k, L⟩ : Cf) v ▸ hg : Go r 0 P Q n D w1 (nv0 _ v)) a1 G1)
  | .ops o [], hc, _, _, _, _, _, _ => simp [isv, isop] at hc
  | .code _, hc, _, _, _, _, _, _ => simp [isv, isop] at hc
  | .ex _, hc, _, _, _, _, _, _ => simp [isv, isop] at hc
end
section
variable {r : Option Nat} {m : Nat} {P : Program} {Q : Exit → Act → World → Prop} {n : Nat} {D : List Deferred} {w : World} {c : Cf} {E : Nat → Prop} {w0 : World} {X Y : Hid} {M : List (Nat × Obj)}
theorem zqq {e : Exit} {k : List Fm} {L : List (Nat × Value)} {a : Act} (hF : Fr n a L D) (h : Go r m P Q n D w ⟨.ex e, k, L⟩) : QQ r m P Q k e a w := h a hF
def rgX : Code → Operand
  | .rangeFunc x _ _ _ => x
  | _ => .tmp 0
def rgP : Code → Array Tmp
  | .rangeFunc _ ps _ _ => ps
  | _ => #[]
def rgA : Code → Code
  | .rangeFunc _ _ x _ => x
  | c => c
def rgB : Code → Code
  | .rangeFunc _ _ _ x => x
  | c => c
/-- A range over a function: its iterator is walked, with the round's code in the frame a. -/
theorem zrng {f : FuncId} {caps : Array Value} (hS : St E w0 X w Y M)
    (k : ∀ (a : Act) (rec : Loop) l b w1 Y1, Fr n a c.L D → RecOk rec a.tmps (rgP (cuC c)) (rgA (cuC c)) (rgB (cuC c)) → St E w0 X w1 Y1 ((l, .loop rec) :: (b, .deferred (some [])) :: M) → Le (rd w Y) (rd w1 Y1) → Upd E0 w w1 →
      Calls P f (#[.func (.yield l) #[] #[]] ++ caps) w1 (fun e w3 => (∃ v, e = .returned v) ∧ RangeEnd P (QQ none 0 P Q c.k) (Act.marked a b) l w3))
    (hg : evL c.L (rgX (cuC c)) = .func (.func f) #[] caps := by kernel_rfl) (hcov : cov c.L (rgX (cuC c)) = true := by kernel_rfl) (hx : c.cu = .code (cuC c) := by kernel_rfl) (hr : cuC c = .rangeFunc (rgX (cuC c)) (rgP (cuC c)) (rgA (cuC c)) (rgB (cuC c)) := by kernel_rfl)
    (hcall : ∀ args w, (callFunc f args).run P w = .ok (.enter f args) w) : Go none 0 P Q n D w c := by
  intro a hF
  rw [hx, hr]
  exact i_range2 hF hS hcov hg hcall fun rec l b w1 Y1 h1 h2 h3 h4 => k a rec l b w1 Y1 hF h1 h2 h3 h4
section
variable {rec : Loop} {tm : Array Value} {ps : Array Tmp} {assign body : Code} {l : Nat} {R : Ending → World → Prop} {L : List (Nat × Value)} {a : Act}
def rpost (P : Program) (l : Nat) (R : Ending → World → Prop) (body : Code) : Exit → Act → World → Prop :=
  Exit.then (fun a₁ w₁ => ∃ w₂, (Instr.beginRound l).run P w₁ = .ok () w₂ ∧ body.wpIn (FF (some l)) 0 P (roundPost P l R) a₁ w₂) (fun _ _ _ => False)
/-- A round begins: the variables are set. -/
theorem zround2 (i : Nat) {p q : Nat} {v u : Value} (hr : RecOk rec a.tmps #[p, q] assign body) (hF : Fr n a L D) (hS : St E w0 X w Y M) (h : Go (some l) 0 P (rpost P l R body) n [] w ⟨.code assign, [], (q, u) :: (p, v) :: L⟩)
    (hi : M[i]? = some (l, .loop rec) := by rfl) (hp : Nat.blt p n = true := by kernel_rfl) (hq : Nat.blt q n = true := by kernel_rfl) : YieldAt (FF none) 0 P l #[v, u] w R := by
  refine y_round i hS hi (by rw [hr.hps]; rfl) ?_
  rw [hr.ha, hr.hb, hr.hps, hr.ht]
  exact h _ (fr_round2 hF (by simpa [Nat.blt_eq] using hp) (by simpa [Nat.blt_eq] using hq))
/-- .. its body. -/
theorem zbody (i : Nat) (hr : RecOk rec tm ps assign body) (hS : St E w0 X w Y M) (h : ∀ w1, St E w0 X w1 Y (M.set i (l, .loop (busyL rec))) → Le (rd w Y) (rd w1 Y) → Go (some l) 0 P (roundPost P l R) n D w1 ⟨.code body, [], c.L⟩)
    (hi : M[i]? = some (l, .loop rec) := by rfl) (hx : c.cu = .ex .normal := by kernel_rfl) (hk : c.k = [] := by kernel_rfl) : Go (some l) 0 P (rpost P l R body) n D w c := by
  intro a hF
  rw [hx, hk]
  exact y_begin i hS hi hr.hs fun w1 h1 h2 => h w1 h1 h2 a hF
theorem busy_rec (hr : RecOk rec tm ps assign body) : ({ busyL rec with state := .ready, pending := none } : Loop) = rec := by
  obtain ⟨h1, h2, _, _, _, _⟩ := hr
  cases rec; simp only at h1 h2; subst h1; subst h2; rfl
/-- .. its end: the next one. -/
theorem zrnext (i : Nat) (hr : RecOk rec tm ps assign body) (hS : St E w0 X w Y M) (h : ∀ w1, St E w0 X w1 Y (M.set i (l, .loop rec)) → Le (rd w Y) (rd w1 Y) → R (.returned (.bool true)) w1)
    (hi : M[i]? = some (l, .loop (busyL rec)) := by rfl) (hx : c.cu = .ex .normal := by kernel_rfl) (hk : c.k = [] := by kernel_rfl) : Go (some l) 0 P (roundPost P l R) n D w c := by
  intro a hF
  rw [hx, hk]
  show roundPost P l R .normal a w
  refine y_next i hS hi fun w1 h1 h2 => h w1 ?_ h2
  rw [busy_rec hr] at h1
  exact h1
/-- .. a return out of it. -/
theorem zrret (i : Nat) (hS : St E w0 X w Y M) (h : ∀ w1, St E w0 X w1 Y (M.set i (l, .loop (retL rec))) → Le (rd w Y) (rd w1 Y) → R (.returned (.bool false)) w1)
    (hi : M[i]? = some (l, .loop (busyL rec)) := by rfl) (hx : c.cu = .ex .ret := by kernel_rfl) (hk : c.k = [] := by kernel_rfl) : Go (some l) 0 P (roundPost P l R) n D w c := by
  intro a hF
  rw [hx, hk]
  show roundPost P l R .ret a w
  exact y_ret i hS hi fun w1 h1 h2 => h w1 h1 h2
/-- The range's end: behind it. -/
theorem zrend (i b : Nat) {k : List Fm} (hr : RecOk rec tm ps assign body) (hF : Fr n a L D) (hS : St E w0 X w Y M) (h : ∀ w1, St E w0 X w1 Y (M.set i (l, .loop (exhL rec))) → Le (rd w Y) (rd w1 Y) → Go none 0 P Q n (mark b :: D) w1 ⟨.ex .normal, k, L⟩)
    (hi : M[i]? = some (l, .loop rec) := by rfl) : RangeEnd P (QQ none 0 P Q k) (Act.marked a b) l w := by
  refine ⟨rec, hS.get i hi, by rw [hr.hs]; simp, ?_⟩
  split
  · exact zqq (fr_marked b hF) (h _ (hS.putObj i hi).1 (hS.putObj (o' := .loop (exhL rec)) i hi).2)
  · rename_i c hc; rw [hr.hp] at hc; cases hc
theorem zrendR (i b : Nat) {k : List Fm} (hF : Fr n a L D) (hS : St E w0 X w Y M) (h : ∀ w1, St E w0 X w1 Y (M.set i (l, .loop (exhL (retL rec)))) → Le (rd w Y) (rd w1 Y) → Go none 0 P Q n (mark b :: D) w1 ⟨.ex .ret, k, L⟩)
    (hi : M[i]? = some (l, .loop (retL rec)) := by rfl) : RangeEnd P (QQ none 0 P Q k) (Act.marked a b) l w := by
  refine ⟨retL rec, hS.get i hi, by simp [retL], ?_⟩
  exact i_ret (zqq (fr_marked b hF) (h _ (hS.putObj i hi).1 (hS.putObj (o' := .loop (exhL (retL rec))) i hi).2))
end
/-! ### Returns -/
def finR (c : Cf) : Bool := (match c.cu with
  | .ex .ret => true
  | .ex .normal => true
  | _ => false) && c.k.isEmpty
theorem bodyM_norm {fn : Func} {R : Ending → World → Prop} {a : Act} (h : bodyPostM (FF none) 0 P fn R .ret a w) : bodyPostM (FF none) 0 P fn R .normal a w := h
/-- .. of a function that may range over functions, and has not. -/
theorem zrM0 (rs : List ResultVar) {v : Value} {fn : Func} {R : Ending → World → Prop} (h : Res P c.L w rs (unp rs.length v)) (hR : R (.returned v) w) (hr : fn.results = rs.toArray := by kernel_rfl) (hv : pack (unp rs.length v) = v := by kernel_rfl) (hf : finR c = true := by kernel_rfl) : Go none 0 P (bodyPostM (FF none) 0 P fn R) n [] w c := by
  intro a hF
  simp only [finR, Bool.and_eq_true] at hf
  obtain ⟨cu, k, L⟩ := c
  match cu, k, hf with
  | .ex .ret, [], _ => exact m_ret0 hF hr h hv hR
  | .ex .normal, [], _ => exact bodyM_norm (m_ret0 hF hr h hv hR)
/-- .. and has once. -/
theorem zrM1 (i : Nat) (rs : List ResultVar) {b : Nat} {v : Value} {fn : Func} {R : Ending → World → Prop} (hS : St E w0 X w Y M) (h : ∀ w1, St E w0 X w1 Y (M.set i (b, .deferred none)) → Le (rd w Y) (rd w1 Y) → Res P c.L w1 rs (unp rs.length v) ∧ R (.returned v) w1)
    (hi : M[i]? = some (b, .deferred (some [])) := by rfl) (hr : fn.results = rs.toArray := by kernel_rfl) (hv : pack (unp rs.length v) = v := by kernel_rfl) (hf : finR c = true := by kernel_rfl) : Go none 0 P (bodyPostM (FF none) 0 P fn R) n [mark b] w c := by
  intro a hF
  simp only [finR, Bool.and_eq_true] at hf
  obtain ⟨cu, k, L⟩ := c
  match cu, k, hf with
  | .ex .ret, [], _ => exact m_ret1 i hF hS hi hr hv h
  | .ex .normal, [], _ => exact bodyM_norm (m_ret1 i hF hS hi hr hv h)
end
/-! ### In a region that draws its order -/
theorem gci {R : Rg} {c : Array Bool × List (Nat × Value)} {M : List (Nat × Obj)} {r : Rd} (i : Nat) {f : FuncId} {vs : Array Value} {fn : Func} (hfn : R.P.funcs[f]? = some fn)
    (h : ∀ w Y, St R.E R.w0 R.X w Y M → Le r (rd w Y) → ∀ R' : Ending → World → Prop, (∀ v w1 Y1 M1, St R.E R.w0 R.X w1 Y1 M1 → Le r (rd w1 Y1) → (begun R.T (c.1.setIfInBounds i true) = true ∨ ((∀ p ∈ R.M0, p ∈ M) → ∀ p ∈ R.M0, p ∈ M1)) → Gt R [] (c.1.setIfInBounds i true, ((opAt R.ops i).dst.getD 0, v) :: c.2) M1 (rd w1 Y1) → R' (.returned v) w1) →
      Go none 0 R.P (bodyPost R.P fn R') fn.ntmps [] w ⟨.code (bd fn), [], argsL 0 vs.toList⟩)
    (hv : gV R c i = some (f, vs) := by kernel_rfl) (hb : fn.body = some (bd fn) := by rfl) (hle : Nat.ble vs.toList.length fn.ntmps = true := by kernel_rfl) (hi : R.ops[i]? = some (opAt R.ops i) := by kernel_rfl) (hr : Region.ready .any R.ops c.1 = [i] := by kernel_rfl)
    (hc : opk c.2 (opAt R.ops i) ((opAt R.ops i).dst.getD 0) R.n = true := by kernel_rfl) (hw : wantL R.ops c.2 (opAt R.ops i) true = true := by kernel_rfl)
    (ho : (opAt R.ops i).op = .call { callee := .value (clF (opAt R.ops i)), args := clA (opAt R.ops i), argTypes := clT (opAt R.ops i) } := by kernel_rfl)
    (hcall : ∀ w, (callFunc f vs).run R.P w = .ok (.enter f vs) w := by intro w; kernel_rfl) : Gt R [] c M r := by
  obtain ⟨cap, hf, ha⟩ := gV_spec hv
  refine gO i (fun a w Y hF hS hle' => ?_) hi hr hw
  refine op_callF (Φ := fun w1 v => ∃ Y1 M1, St R.E R.w0 R.X w1 Y1 M1 ∧ Le r (rd w1 Y1) ∧ (begun R.T (c.1.setIfInBounds i true) = true ∨ ((∀ p ∈ R.M0, p ∈ M) → ∀ p ∈ R.M0, p ∈ M1)) ∧ Gt R [] (c.1.setIfInBounds i true, ((opAt R.ops i).dst.getD 0, v) :: c.2) M1 (rd w1 Y1)) hF hc ho hf ha hcall (zen hfn (h w Y hS hle' _ fun v w1 Y1 M1 h1 h2 h3 h4 => ⟨v, rfl, Y1, M1, h1, h2, h3, h4⟩) hb hle) ?_
  rintro v w1 ⟨Y1, M1, h1, h2, h3, h4⟩ a1 G1
  exact ⟨_, M1, rd w1 Y1, Y1, G1, h1, Le.refl _, h3.imp id fun h3 => ⟨h3, h2⟩, h4⟩
end Go.Gv
/- Comparisons of structs; rows that are written into. By an AI agent; over any program. -/
namespace Go.Gv
open Go.RowKit
theorem eqIn_int {P : Program} {w : World} {d : Nat} {t : TypeId} {k k' : IntKind} {a b : Int} (ht : P.underlying t = some (.int k')) : (Op.equalIn (d + 1) t (.int k a) (.int k b)).run P w = .ok (a == b) w := by
  unfold Op.equalIn
  simp only [underlying, ht, Sem.run_bind, Sem.run_pure, run_program, Result.andThen_ok]
  simp
theorem part_int {P : Program} {w : World} {t : TypeId} {k' : IntKind} {cs : Array Value} {i : Nat} {v : Value} (ht : P.underlying t = some (.int k')) (h : cs[i]? = some v) : (part t cs i).run P w = .ok v w := by
  unfold part isAgg
  simp only [underlying, ht, Sem.run_bind, Sem.run_pure, run_program, Result.andThen_ok]
  simp [h]
theorem eqIn_3 {P : Program} {w : World} {d : Nat} {t : TypeId} {f1 f2 f3 : Field} {k1 k2 k3 q1 q2 q3 : IntKind} {a1 a2 a3 b1 b2 b3 : Int} (ht : P.underlying t = some (.struct #[f1, f2, f3])) (hs : P.stoodInHeld t = false) (h1 : P.underlying f1.type = some (.int q1)) (h2 : P.underlying f2.type = some (.int q2)) (h3 : P.underlying f3.type = some (.int q3))
  (n1 : f1.name ≠ "_") (n2 : f2.name ≠ "_") (n3 : f3.name ≠ "_") (p1 : f1.offset = 0) (p2 : f2.offset = 1) (p3 : f3.offset = 2)  :
  (Op.equalIn (d + 1 + 1) t (.agg #[.int k1 a1, .int k2 a2, .int k3 a3]) (.agg #[.int k1 b1, .int k2 b2, .int k3 b3])).run P w = .ok (a1 == b1 && (a2 == b2 && a3 == b3)) w := by
  unfold Op.equalIn
  simp only [underlying, ht, Sem.run_bind, Sem.run_pure, run_program, Result.andThen_ok, hs]
  simp [n1, n2, n3, p1, p2, p3]
  simp only [part_int (cs := #[Value.int k1 a1, .int k2 a2, .int k3 a3]) (i := 0) h1 rfl, part_int (cs := #[Value.int k1 b1, .int k2 b2, .int k3 b3]) (i := 0) h1 rfl, part_int (cs := #[Value.int k1 a1, .int k2 a2, .int k3 a3]) (i := 1) h2 rfl, part_int (cs := #[Value.int k1 b1, .int k2 b2, .int k3 b3]) (i := 1) h2 rfl, part_int (cs := #[Value.int k1 a1, .int k2 a2, .int k3 a3]) (i := 2) h3 rfl, part_int (cs := #[Value.int k1 b1, .int k2 b2, .int k3 b3]) (i := 2) h3 rfl, Result.andThen_ok]
  simp only [List.getElem_toArray, List.getElem_cons_succ, List.getElem_cons_zero]
  have e1 := eqIn_int (P := P) (w := w) (d := d) (a := a1) (b := b1) (k := k1) h1
  have e2 := eqIn_int (P := P) (w := w) (d := d) (a := a2) (b := b2) (k := k2) h2
  have e3 := eqIn_int (P := P) (w := w) (d := d) (a := a3) (b := b3) (k := k3) h3
  rw [e1]
  cases a1 == b1
  · simp
  simp only [Result.andThen_ok]
  rw [if_neg (by simp), e2]
  cases a2 == b2
  · simp
  simp only [Result.andThen_ok]
  rw [if_neg (by simp), e3]
  cases a3 == b3
  · simp
  simp
theorem run_neq3 {P : Program} {w : World} {ρ : Operand → Value} {o : Oper} {t t2 : TypeId} {xa xb : Operand} {f1 f2 f3 : Field} {k1 k2 k3 q1 q2 q3 : IntKind} {a1 a2 a3 b1 b2 b3 : Int} (ho : o.op = .binOp .neq t xa xb t2) (hx : ρ xa = .agg #[.int k1 a1, .int k2 a2, .int k3 a3]) (hy : ρ xb = .agg #[.int k1 b1, .int k2 b2, .int k3 b3])
    (ht : P.underlying t = some (.struct #[f1, f2, f3])) (hs : P.stoodInHeld t = false) (h1 : P.underlying f1.type = some (.int q1)) (h2 : P.underlying f2.type = some (.int q2)) (h3 : P.underlying f3.type = some (.int q3))
    (n1 : f1.name ≠ "_") (n2 : f2.name ≠ "_") (n3 : f3.name ≠ "_") (p1 : f1.offset = 0) (p2 : f2.offset = 1) (p3 : f3.offset = 2) (hg : P.eqGuardType P.depth t = false) :
    (execOp ρ o).run P w = .ok (.value (.bool (!(a1 == b1 && (a2 == b2 && a3 == b3))))) w := by
  unfold execOp
  simp only [ho, hx, hy, binOp, Op.equal, Op.maxDepth, eqGuard, Sem.run_pure, Sem.run_bind, eqIn_3 (d := 9998) ht hs h1 h2 h3 n1 n2 n3 p1 p2 p3, Result.andThen_ok]
  simp [hg, run_program, Sem.run_bind, Sem.run_pure]
def fl (P : Program) (t : TypeId) (i : Nat) : Field := match P.underlying t with
  | some (.struct fs) => (fs[i]?).getD default
  | _ => default
def ikO (P : Program) (t : TypeId) : IntKind := match P.underlying t with
  | some (.int k) => k
  | _ => .i64
def cmpX (o : Oper) : Operand := match o.op with
  | .binOp _ _ x _ _ => x
  | _ => .tmp 0
def cmpY (o : Oper) : Operand := match o.op with
  | .binOp _ _ _ y _ => y
  | _ => .tmp 0
theorem ne_of_beq {s t : String} (h : (s == t) = false) : s ≠ t := by simpa using h
theorem run_neq3Z {P : Program} {w : World} {ρ : Operand → Value} {o : Oper} (t t2 : TypeId) {k1 k2 k3 : IntKind} {a1 a2 a3 b1 b2 b3 : Int} (ho : o.op = .binOp .neq t (cmpX o) (cmpY o) t2 := by kernel_rfl) (hx : ρ (cmpX o) = .agg #[.int k1 a1, .int k2 a2, .int k3 a3] := by kernel_rfl) (hy : ρ (cmpY o) = .agg #[.int k1 b1, .int k2 b2, .int k3 b3] := by kernel_rfl)
    (ht : P.underlying t = some (.struct #[fl P t 0, fl P t 1, fl P t 2]) := by kernel_rfl) (hs : P.stoodInHeld t = false := by kernel_rfl) (h1 : P.underlying (fl P t 0).type = some (.int (ikO P (fl P t 0).type)) := by kernel_rfl) (h2 : P.underlying (fl P t 1).type = some (.int (ikO P (fl P t 1).type)) := by kernel_rfl) (h3 : P.underlying (fl P t 2).type = some (.int (ikO P (fl P t 2).type)) := by kernel_rfl)
    (n1 : ((fl P t 0).name == "_") = false := by kernel_rfl) (n2 : ((fl P t 1).name == "_") = false := by kernel_rfl) (n3 : ((fl P t 2).name == "_") = false := by kernel_rfl) (p1 : (fl P t 0).offset = 0 := by kernel_rfl) (p2 : (fl P t 1).offset = 1 := by kernel_rfl) (p3 : (fl P t 2).offset = 2 := by kernel_rfl) (hg : P.eqGuardType P.depth t = false := by kernel_rfl) :
    (execOp ρ o).run P w = .ok (.value (.bool (!(a1 == b1 && (a2 == b2 && a3 == b3))))) w := run_neq3 ho hx hy ht hs h1 h2 h3 (ne_of_beq n1) (ne_of_beq n2) (ne_of_beq n3) p1 p2 p3 hg
/-! ### Rows that are written into -/
theorem getElem?_setCells : ∀ (vs : List Value) (c : Array Value) (o p : Nat), o + vs.length ≤ c.size → (setCells c o vs)[p]? = if o ≤ p ∧ p < o + vs.length then vs[p - o]? else c[p]?
  | [], c, o, p, _ => by simp [setCells]; intro h; omega
  | v :: vs, c, o, p, h => by
    rw [setCells, getElem?_setCells vs _ (o + 1) p (by simp at h ⊢; omega)]
    simp only [List.length_cons] at h ⊢
    by_cases h1 : o = p
    · subst h1
      rw [if_neg (by omega), if_pos (by omega), Nat.sub_self]
      have hlt : o < c.size := by omega
      simp [hlt]
    · by_cases h2 : o + 1 ≤ p ∧ p < o + 1 + vs.length
      · rw [if_pos h2, if_pos (by omega)]
        have : p - o = (p - (o + 1)) + 1 := by omega
        rw [this, List.getElem?_cons_succ]
      · rw [if_neg h2, if_neg (by omega), Array.getElem?_setIfInBounds_ne h1]
section
variable {α : Type} {Cl : Rd → List Value → α → Prop} {T : TypeId} {size : Nat} {r : Rd} {rb : List (Nat × Obj)} {ad : Option Addr} {m cap : Nat} {L : List α} {x : α} {i : Nat}
theorem flatG_len {es : List (GE α)} (h : ∀ e ∈ es, e.cs.length = size) : (flatG es).length = es.length * size := by
  induction es with
  | nil => simp [flatG]
  | cons e es ih => rw [flatG, List.length_append, ih fun e he => h e (List.mem_cons_of_mem _ he), h e List.mem_cons_self, List.length_cons, Nat.add_mul]; omega
/-- An element of a row of the call's own. -/
theorem GRow.opn (h : GRow Cl T size r rb ad m cap L) (hx : L[i]? = some x) : ∃ g cur cs, rb = [(g, .cells cur T (0, 0))] ∧ ad = some ⟨g, 0, none⟩ ∧ i < m ∧ (cs.length = size ∧ ∀ r', Le r r' → Cl r' cs x) ∧ ∀ j v, cs[j]? = some v → cur[i * size + j]? = some v := by
  obtain ⟨es, h1, h2, h3, h4⟩ := h
  subst h2
  rw [List.getElem?_map] at hx
  cases he : es[i]? with
  | none => rw [he] at hx; cases hx
  | some e =>
    rw [he] at hx
    obtain rfl : e.x = x := by simpa using hx
    have hlt := (List.getElem?_eq_some_iff.1 he).1
    rcases h1 with ⟨_, _, h5, _, _⟩ | ⟨g, cur, rfl, rfl, hr⟩
    · omega
    · refine ⟨g, cur, e.cs, rfl, rfl, by omega, h3 e (List.mem_of_getElem? he), fun j v hj => ?_⟩
      have h5 := flatG_get es i e (fun e he => (h3 e he).1) he j v hj
      rw [← hr.hxs, List.getElem?_take] at h5
      split at h5
      · simpa using h5
      · cases h5
theorem GRow.set {g : Nat} {cur : Array Value} {cs : List Value} (h : GRow Cl T size r [(g, .cells cur T (0, 0))] (some ⟨g, 0, none⟩) m cap L) (hi : i < m) (hc : cs.length = size ∧ ∀ r', Le r r' → Cl r' cs x) :
    GRow Cl T size r [(g, .cells (setCells cur (i * size) cs) T (0, 0))] (some ⟨g, 0, none⟩) m cap (L.set i x) ∧ i * size + cs.length ≤ cur.size := by
  obtain ⟨es, h1, h2, h3, h4⟩ := h
  rcases h1 with ⟨h5, _⟩ | ⟨g', cur', e1, _, hr⟩
  · cases h5
  cases e1
  have hlt : i < es.length := by omega
  have hsz := hr.hsz
  have hn := hr.hn
  have hb : i * size + cs.length ≤ m * size := by
    rw [hc.1]
    calc i * size + size = (i + 1) * size := by rw [Nat.add_mul, Nat.one_mul]
      _ ≤ m * size := Nat.mul_le_mul_right _ (by omega)
  have hb2 : m * size ≤ cap * size := Nat.mul_le_mul_right _ hn
  have hb3 : i * size + cs.length ≤ cur.size := by omega
  refine ⟨⟨es.set i ⟨x, cs⟩, .inr ⟨g, _, rfl, rfl, ⟨hn, hr.hcap, by rw [size_setCells]; exact hsz, ?_⟩⟩, by rw [List.map_set, h2], fun e he => ?_, by rw [List.length_set]; exact h4⟩, hb3⟩
  · have hx := hr.hxs
    have hes : ∀ e ∈ es.set i ⟨x, cs⟩, e.cs.length = size := fun e he => by
      rcases List.mem_or_eq_of_mem_set he with h6 | h6
      · exact (h3 e h6).1
      · rw [h6]; exact hc.1
    apply List.ext_getElem?
    intro p
    by_cases hp : p < m * size
    · have hs0 : 0 < size := by
        rcases Nat.eq_zero_or_pos size with h0 | h0
        · rw [h0] at hp; simp at hp
        · exact h0
      have hq : p / size < m := Nat.div_lt_of_lt_mul (by rw [Nat.mul_comm]; exact hp)
      have hpe : p / size * size + p % size = p := by rw [Nat.mul_comm]; exact Nat.div_add_mod p size
      have hmod : p % size < size := Nat.mod_lt _ hs0
      rw [List.getElem?_take, if_pos hp]
      rw [show (setCells cur (i * size) cs).toList[p]? = (setCells cur (i * size) cs)[p]? by simp, getElem?_setCells _ _ _ _ hb3]
      by_cases hqi : p / size = i
      · subst hqi
        have hj : p % size < cs.length := by rw [hc.1]; exact hmod
        rw [if_pos (by rw [hc.1]; omega)]
        have h7 := flatG_get (es.set (p / size) ⟨x, cs⟩) (p / size) ⟨x, cs⟩ hes (by rw [List.getElem?_set_self (by omega)]) (p % size) cs[p % size] (by simp [hj])
        rw [hpe] at h7
        rw [h7, show p - p / size * size = p % size by omega]
        simp [hj]
      · have hne : ¬ (i * size ≤ p ∧ p < i * size + cs.length) := by
          rintro ⟨h8, h9⟩
          rw [hc.1] at h9
          refine hqi (Nat.div_eq_of_lt_le h8 ?_)
          rw [Nat.add_mul, Nat.one_mul]; exact h9
        rw [if_neg hne]
        obtain ⟨e, he⟩ : ∃ e, es[p / size]? = some e := ⟨es[p / size]'(by omega), by simp⟩
        have hj : p % size < e.cs.length := by rw [(h3 e (List.mem_of_getElem? he)).1]; exact hmod
        have h7 := flatG_get es (p / size) e (fun e he => (h3 e he).1) he (p % size) e.cs[p % size] (by simp [hj])
        have h8 := flatG_get (es.set i ⟨x, cs⟩) (p / size) e hes (by rw [List.getElem?_set_ne (by omega)]; exact he) (p % size) e.cs[p % size] (by simp [hj])
        rw [hpe] at h7 h8
        rw [h8, ← h7, ← hx, List.getElem?_take, if_pos hp]
        simp
    · rw [List.getElem?_take, if_neg hp, List.getElem?_eq_none]
      rw [flatG_len hes, List.length_set, ← h4]; omega
  · rcases List.mem_or_eq_of_mem_set he with h6 | h6
    · exact h3 e h6
    · rw [h6]; exact hc
end
section
variable {P : Program} {Q : Exit → Act → World → Prop} {K : Act → World → Prop} {a : Act} {o : Oper} {n d : Nat} {L : List (Nat × Value)} {D : List Deferred} {E : Nat → Prop} {w0 w : World} {X Y : Hid}
theorem St.getMem {M : List (Nat × Obj)} (h : St E w0 X w Y M) {b : Nat} {ob : Obj} (hm : (b, ob) ∈ M) : w.heap[b]? = some ob := (h.own _ hm).1
theorem cells_row {g i size : Nat} {cur : Array Value} {T : TypeId} {f : Nat × Nat} {cs : List Value} (hb : w.heap[g]? = some (.cells cur T f)) (h : ∀ j v, cs[j]? = some v → cur[i * size + j]? = some v) : CellsAt w ⟨g, 0 + i * size, none⟩ cs := fun j v hj => by
  rw [add_mk, Nat.zero_add, cell_of_row w g _ cur T f hb]
  exact h j v hj
/-- A store into a row of the call's own. -/
theorem op_storeG {t T : TypeId} {xa xv : Operand} {g k k' : Nat} {cur : Array Value} {vs : List Value} {q : Bool} {A B : List (Nat × Obj)} (F : List (Nat × Obj) → List (Nat × Obj)) (hF : Fr n a L D) (hc : (okOp L o && o.dst.isNone) = true) (hS : St E w0 X w Y (F [(g, .cells cur T (0, 0))])) (hM : ∀ rb, F rb = A ++ (rb ++ B))
    (ho : o.op = .store t xa xv) (ha : evL L xa = .pointer (some ⟨g, k, none⟩)) (hv : (evL L xv).cells.toList = vs) (ht : ldT P t = some (q, vs.length)) (h1 : vs.all Value.oneCell' = true) (hk : k = k') (hle : k' + vs.length ≤ cur.size)
    (kont : ∀ w1, St E w0 X w1 Y (F [(g, .cells (setCells cur k' vs) T (0, 0))]) → Le (rd w Y) (rd w1 Y) → K a w1) : o.wp P a w K Q := by
  subst hk hv
  have hS' := hS
  rw [hM] at hS'
  have hi' : (A ++ ([(g, Obj.cells cur T (0, 0))] ++ B))[A.length]? = some (g, .cells cur T (0, 0)) := by simp
  refine zE A.length _ hF hc hS' ho ha rfl ht (by simp) h1 hi' (by simpa using hle) rfl rfl (fun w1 h2 h3 => kont w1 ?_ h3)
  rw [hM]
  simpa [List.set_append] using h2
theorem madeCells_size (z : Array Value) (n : Nat) : (madeCells z n).size = n := by simp [madeCells]
theorem made_get (z : Array Value) (n p : Nat) (h : p < n) (hz : 0 < z.size) : (madeCells z n)[p]? = z[p % z.size]? := by
  have h1 : p % z.size < z.size := Nat.mod_lt _ hz
  simp [madeCells, h, h1]
theorem made_flat {α : Type} {z : Array Value} {size : Nat} {z0 : α} (hz : z.size = size) (m : Nat) : (madeCells z (m * size)).toList.take (m * size) = flatG (List.replicate m (⟨z0, z.toList⟩ : GE α)) := by
  subst hz
  have hes : ∀ e ∈ List.replicate m (⟨z0, z.toList⟩ : GE α), e.cs.length = z.size := fun e he => by rw [List.eq_of_mem_replicate he]; simp
  apply List.ext_getElem?
  intro p
  by_cases hp : p < m * z.size
  · have hs0 : 0 < z.size := by
      rcases Nat.eq_zero_or_pos z.size with h0 | h0
      · rw [h0] at hp; simp at hp
      · exact h0
    have hq : p / z.size < m := Nat.div_lt_of_lt_mul (by rw [Nat.mul_comm]; exact hp)
    have hpe : p / z.size * z.size + p % z.size = p := by rw [Nat.mul_comm]; exact Nat.div_add_mod p z.size
    have hmod : p % z.size < z.size := Nat.mod_lt _ hs0
    have h8 := flatG_get (List.replicate m (⟨z0, z.toList⟩ : GE α)) (p / z.size) ⟨z0, z.toList⟩ hes (by simp [hq]) (p % z.size) z[p % z.size] (by simp [hmod])
    rw [hpe] at h8
    rw [h8, List.getElem?_take, if_pos hp, show (madeCells z (m * z.size)).toList[p]? = (madeCells z (m * z.size))[p]? by simp, made_get z _ p hp hs0]
    simp [hmod]
  · rw [List.getElem?_take, if_neg hp, List.getElem?_eq_none]
    rw [flatG_len hes, List.length_replicate]; omega
/-- A new row. -/
theorem op_makeG {α : Type} {Cl : Rd → List Value → α → Prop} {t e : TypeId} {xl : Operand} {l : Int} {m size b : Nat} {i0 : TypeInfo} {z0 : α} {A B : List (Nat × Obj)} {r : World → Hid → Rd} (F : List (Nat × Obj) → List (Nat × Obj)) (hF : Fr n a L D) (hc : opk L o d n = true) (hS : St E w0 X w Y (F [])) (hM : ∀ rb, F rb = A ++ (rb ++ B))
    (ho : o.op = .makeSlice t xl xl) (hl : evL L xl = .int .i64 l) (hm : l = (m : Int)) (ht : P.underlying t = some (.slice e)) (hi : P.info? e = some i0) (hz : i0.zero = some (zI i0)) (hs : i0.size = size) (hzs : (zI i0).cells.size = size) (hb : i0.bytes = b) (hby : b * m ≤ 281474976710656) (h63 : m ≤ 140737488355328)
    (hz0 : ∀ r, Cl r (zI i0).cells.toList z0)
    (k : ∀ rb ad w1 Y1, GRow Cl e size (r w1 Y1) rb ad m m (List.replicate m z0) → St E w0 X w1 Y1 (F rb) → Le (rd w Y) (rd w1 Y1) → ∀ a1, Fr n a1 ((d, .slice ad m m) :: L) D → K a1 w1) : o.wp P a w K Q := by
  refine op_new (fun b => .slice (some ⟨b, 0, none⟩) m m) (.cells (madeCells (zI i0).cells (m * i0.size)) e (0, 0)) hF hc hS (fun w => ?_) (fun b w1 Y1 h1 h2 _ a1 G1 => ?_)
  · have hb' : (i0.bytes : Int) * (m : Int) ≤ 281474976710656 := by
      have h : ((i0.bytes * m : Nat) : Int) ≤ 281474976710656 := by rw [hb]; omega
      rwa [Int.natCast_mul] at h
    have hr := run_make (P := P) w t e i0 (zI i0) ht hi hz .i64 .i64 (m : Int) (m : Int) (by omega) (Int.le_refl _) hb' (by omega)
    simp only [Int.toNat_natCast] at hr
    unfold execOp
    simp only [ho, hl, hm, hr, Sem.run_bind, Sem.run_pure, Result.andThen_ok]
  · have C2 : St E w0 X w1 Y1 (F [(b, .cells (madeCells (zI i0).cells (m * i0.size)) e (0, 0))]) := by
      rw [hM] at h1 ⊢
      exact h1.perm (by simp)
    have hrow : Row m m size (madeCells (zI i0).cells (m * i0.size)) (flatG (List.replicate m (⟨z0, (zI i0).cells.toList⟩ : GE α))) := by
      rw [hs]
      exact ⟨Nat.le_refl _, by simp only [maxLen]; omega, madeCells_size _ _, made_flat hzs m⟩
    refine k _ _ w1 Y1 ⟨List.replicate m ⟨z0, (zI i0).cells.toList⟩, .inr ⟨b, _, rfl, rfl, hrow⟩, by simp, fun x hx => ?_, by simp⟩ C2 h2 a1 G1
    rw [List.eq_of_mem_replicate hx]
    exact ⟨by simpa using hzs, fun r' _ => hz0 r'⟩
end
theorem GRow.opn2 {α : Type} {Cl : Rd → List Value → α → Prop} {T : TypeId} {size : Nat} {r : Rd} {g m cap i : Nat} {cur : Array Value} {L : List α} {x : α} (h : GRow Cl T size r [(g, .cells cur T (0, 0))] (some ⟨g, 0, none⟩) m cap L) (hx : L[i]? = some x) : ∃ cs, i < m ∧ (cs.length = size ∧ ∀ r', Le r r' → Cl r' cs x) ∧ ∀ j v, cs[j]? = some v → cur[i * size + j]? = some v := by
  obtain ⟨g', cur', cs, e1, _, h1, h2, h3⟩ := h.opn hx
  cases e1
  exact ⟨cs, h1, h2, h3⟩
theorem CellsAt.sub {w : World} {b off : Nat} {vs : List Value} (h : CellsAt w ⟨b, off, none⟩ vs) (n m : Nat) : CellsAt w ⟨b, off + n, none⟩ ((vs.drop n).take m) := fun j v hj => by
  rw [List.getElem?_take] at hj
  split at hj
  · rw [List.getElem?_drop] at hj
    have := h (n + j) v hj
    rw [add_mk] at *
    rwa [← Nat.add_assoc] at this
  · cases hj
end Go.Gv
/- Maps from ints to data, that a call owns. By an AI agent; over any program. -/
namespace Go.Gv
open Go Go.Instr
inductive All2 {β γ : Type} (R : β → γ → Prop) : List β → List γ → Prop
  | nil : All2 R [] []
  | cons {a b l m} : R a b → All2 R l m → All2 R (a :: l) (b :: m)
theorem All2.imp {β γ : Type} {R S : β → γ → Prop} {l : List β} {m : List γ} (h : All2 R l m) (k : ∀ a b, R a b → S a b) : All2 S l m := by
  induction h with
  | nil => exact .nil
  | cons h _ ih => exact .cons (k _ _ h) ih
section
variable {α : Type} {V : Rd → Value → α → Prop} {r r' : Rd} {es : List (Int × Value)} {l : List (Int × α)} {z : Int} {zero : Value} {z0 : α}
def getP (z : Int) (z0 : α) : List (Int × α) → α
  | [] => z0
  | p :: l => bif z == p.1 then p.2 else getP z z0 l
def putP (z : Int) (v : α) : List (Int × α) → List (Int × α)
  | [] => [(z, v)]
  | p :: l => bif z == p.1 then (z, v) :: l else p :: putP z v l
/-- The entries say the datum. -/
structure MapR (V : Rd → Value → α → Prop) (r : Rd) (es : List (Int × Value)) (l : List (Int × α)) : Prop where
  all : All2 (fun e x => e.1 = x.1 ∧ V r e.2 x.2) es l
  nd : (es.map Prod.fst).Nodup
  rng : ∀ x ∈ es, -9223372036854775808 ≤ x.1 ∧ x.1 ≤ 9223372036854775807
theorem MapR.nil : MapR V r [] [] := ⟨.nil, List.nodup_nil, fun _ h => by cases h⟩
theorem MapR.mono (hV : ∀ {r r' : Rd} {v : Value} {x : α}, V r v x → Le r r' → V r' v x) (h : MapR V r es l) (k : Le r r') : MapR V r' es l :=
  ⟨h.all.imp fun _ _ h => ⟨h.1, hV h.2 k⟩, h.nd, h.rng⟩
theorem All2.len {β γ : Type} {R : β → γ → Prop} {l : List β} {m : List γ} (h : All2 R l m) : l.length = m.length := by
  induction h with
  | nil => rfl
  | cons _ _ ih => simp [ih]
theorem MapR.len (h : MapR V r es l) : es.length = l.length := All2.len h.all
theorem MapR.keys (h : MapR V r es l) : es.map Prod.fst = l.map Prod.fst := by
  have h1 := h.all
  clear h
  induction h1 with
  | nil => rfl
  | cons h _ ih => simp [h.1, ih]
theorem fnd_val (z : Int) : ∀ (l : List (Int × Value)) (i j : Nat), (fnd z l i).map Prod.snd = (fnd z l j).map Prod.snd
  | [], _, _ => rfl
  | p :: l, i, j => by
    simp only [fnd]
    cases z == p.1
    · exact fnd_val z l (i + 1) (j + 1)
    · rfl
theorem getM_eq (z : Int) (l : List (Int × Value)) (zero : Value) (i : Nat) : getM z l zero = ((fnd z l i).map Prod.snd).getD zero := by
  rw [fnd_val z l i 0]
  unfold getM
  cases fnd z l 0 <;> rfl
theorem getM_cons (z : Int) (p : Int × Value) (l : List (Int × Value)) (zero : Value) : getM z (p :: l) zero = bif z == p.1 then p.2 else getM z l zero := by
  rw [getM_eq z (p :: l) zero 0, getM_eq z l zero 1]
  simp only [fnd]
  cases z == p.1 <;> rfl
theorem MapR.get (h : MapR V r es l) (hz : V r zero z0) : V r (getM z es zero) (getP z z0 l) := by
  have h1 := h.all
  clear h
  induction h1 with
  | nil => exact hz
  | @cons e x es l h _ ih =>
    rw [getM_cons, getP, ← h.1]
    cases z == e.1
    · exact ih
    · exact h.2
theorem putM_keys (z : Int) (v : Value) : ∀ (es : List (Int × Value)), (putM z v es).map Prod.fst = if z ∈ es.map Prod.fst then es.map Prod.fst else es.map Prod.fst ++ [z]
  | [] => rfl
  | p :: es => by
    have ih := putM_keys z v es
    simp only [putM, List.map_cons, List.mem_cons]
    cases hz : z == p.1
    · have hne : z ≠ p.1 := by simpa using hz
      simp only [cond_false, List.map_cons, ih, hne, false_or]
      split <;> rfl
    · have he : z = p.1 := by simpa using hz
      simp [he]
theorem MapR.put {v : Value} {x : α} (h : MapR V r es l) (hz : -9223372036854775808 ≤ z ∧ z ≤ 9223372036854775807) (hv : V r v x) : MapR V r (putM z v es) (putP z x l) := by
  refine ⟨?_, ?_, ?_⟩
  · have h1 := h.all
    clear h
    induction h1 with
    | nil => exact .cons ⟨rfl, hv⟩ .nil
    | @cons e y es l h ht ih =>
      rw [putM, putP, ← h.1]
      cases z == e.1
      · exact .cons h ih
      · exact .cons ⟨rfl, hv⟩ ht
  · rw [putM_keys]
    split
    · exact h.nd
    · rename_i hn
      rw [List.nodup_append]
      exact ⟨h.nd, by simp, fun a ha b hb => by
        rw [List.mem_singleton] at hb
        rintro rfl
        exact hn (hb ▸ ha)⟩
  · intro y hy
    have hk : y.1 ∈ (putM z v es).map Prod.fst := List.mem_map_of_mem hy
    rw [putM_keys] at hk
    have hold : y.1 ∈ es.map Prod.fst → -9223372036854775808 ≤ y.1 ∧ y.1 ≤ 9223372036854775807 := fun hm => by
      obtain ⟨x, hx, e⟩ := List.mem_map.1 hm
      exact e ▸ h.rng x hx
    split at hk
    · exact hold hk
    · rcases List.mem_append.1 hk with hm | hm
      · exact hold hm
      · rw [List.mem_singleton] at hm; exact hm ▸ hz
/-- Ascending. -/
def insZ (x : Int) : List Int → List Int
  | [] => [x]
  | y :: l => if x ≤ y then x :: y :: l else y :: insZ x l
def sortZ : List Int → List Int
  | [] => []
  | x :: l => insZ x (sortZ l)
theorem insZ_perm (x : Int) : ∀ l : List Int, (insZ x l).Perm (x :: l)
  | [] => .refl _
  | y :: l => by
    unfold insZ
    split
    · exact .refl _
    · exact ((insZ_perm x l).cons y).trans (.swap x y l)
theorem sortZ_perm : ∀ l : List Int, (sortZ l).Perm l
  | [] => .refl _
  | x :: l => (insZ_perm x (sortZ l)).trans ((sortZ_perm l).cons x)
theorem insZ_sorted (x : Int) : ∀ l : List Int, l.Pairwise (· ≤ ·) → (insZ x l).Pairwise (· ≤ ·)
  | [], _ => by simp [insZ]
  | y :: l, h => by
    have h1 := List.pairwise_cons.1 h
    unfold insZ
    split
    · rename_i hxy
      exact .cons (fun a ha => by
        rcases List.mem_cons.1 ha with rfl | ha
        · exact hxy
        · exact Int.le_trans hxy (h1.1 a ha)) h
    · rename_i hxy
      refine .cons (fun a ha => ?_) (insZ_sorted x l h1.2)
      rcases List.mem_cons.1 ((insZ_perm x l).mem_iff.1 ha) with rfl | ha
      · omega
      · exact h1.1 a ha
theorem sortZ_sorted : ∀ l : List Int, (sortZ l).Pairwise (· ≤ ·)
  | [] => .nil
  | x :: l => insZ_sorted x _ (sortZ_sorted l)
theorem sorted_unique {l m : List Int} (h : l.Perm m) (hl : l.Pairwise (· ≤ ·)) (hm : m.Pairwise (· ≤ ·)) : l = m :=
  List.Perm.eq_of_pairwise (le := (· ≤ ·)) (fun _ _ _ _ h1 h2 => Int.le_antisymm h1 h2) hl hm h
end
section
variable {α : Type} {V : Rd → Value → α → Prop} {P : Program} {K : Act → World → Prop} {a : Act} {w w0 : World} {o : Oper} {n d : Nat} {L : List (Nat × Value)} {D : List Deferred} {E : Nat → Prop} {X Y : Hid} {M : List (Nat × Obj)} {Q : Exit → Act → World → Prop}
theorem op_lookR {T TK TV : TypeId} {xm xk : Operand} {b : Nat} {es : List (Int × Value)} {l : List (Int × α)} {z : Int} {zero : Value} {z0 : α} {r : Rd} (i : Nat) (hF : Fr n a L D) (hc : opk L o d n = true) (hS : St E w0 X w Y M)
    (ho : o.op = .lookup T xm xk false) (hm : evL L xm = .map (some b)) (hk : evL L xk = .int .i64 z) (hT : P.underlying T = some (.map TK TV)) (hK : P.underlying TK = some (.int .i64)) (hz : ∀ w, (zeroValue TV).run P w = .ok zero w)
    (hck : ∀ c w, (checkKey c 10000 TK (.int .i64 z)).run P w = .ok () w) (hM : M[i]? = some (b, mapO es)) (hR : MapR V r es l) (h0 : V r zero z0)
    (k : ∀ v, V r v (getP z z0 l) → ∀ a1, Fr n a1 ((d, v) :: L) D → K a1 w) : o.wp P a w K Q :=
  op_lookup i hF hc hS ho hm hk hT ⟨_, hK⟩ hz hck hM (k _ (hR.get h0))
theorem op_mapUpdR {T TK TV : TypeId} {xm xk xv : Operand} {b : Nat} {l : List (Int × Value)} {z : Int} {v : Value} (i : Nat) (hF : Fr n a L D) (hc : (okOp L o && o.dst.isNone) = true) (hS : St E w0 X w Y M)
    (ho : o.op = .mapUpdate T xm xk xv) (hm : evL L xm = .map (some b)) (hk : evL L xk = .int .i64 z) (hv : evL L xv = v) (hT : P.underlying T = some (.map TK TV)) (hK : P.underlying TK = some (.int .i64))
    (hck : ∀ c w, (checkKey c 10000 TK (.int .i64 z)).run P w = .ok () w) (hM : M[i]? = some (b, mapO l))
    (k : ∀ es', es' = putM z v l → ∀ w1, St E w0 X w1 Y (M.set i (b, mapO es')) → Le (rd w Y) (rd w1 Y) → K a w1) : o.wp P a w K Q :=
  op_mapUpd i hF hc hS ho hm hk hv hT ⟨_, hK⟩ hck hM (k _ rfl)
end
/-- The address of an element of an array behind a pointer. -/
theorem run_indexArr {P : Program} {w : World} {ρ : Operand → Value} {o : Oper} {t e : TypeId} {x ix : Operand} {b off nn : Nat} {kd : IntKind} {i : Int} {g : Bool} {m off' : Nat} (ho : o.op = .indexAddr t x ix) (ht : P.underlying t = some (.array nn e))
    (hx : ρ x = .pointer (some ⟨b, off, none⟩)) (hi : ρ ix = .int kd i) (he : ldT P e = some (g, m)) (h0 : 0 ≤ i) (h1 : i < nn) (hoff : off + i.toNat * m = off') :
    (execOp ρ o).run P w = .ok (.value (.pointer (some ⟨b, off', none⟩))) w := by
  unfold execOp
  simp only [ho, hx, hi, Instr.indexAt, asIntOf, underlying, sureAddr, ht, Sem.run_bind, Sem.run_pure, run_program, Result.andThen_ok, h0, h1, and_self, if_true, run_sizeOf he, add_mk, hoff]
/-! ### With the kernel's reckoning -/
def lkM (o : Oper) : Operand := match o.op with
  | .lookup _ x _ _ => x
  | .mapUpdate _ x _ _ => x
  | .call c => c.args.getD 0 (.tmp 0)
  | _ => .tmp 0
def lkK (o : Oper) : Operand := match o.op with
  | .lookup _ _ x _ => x
  | .mapUpdate _ _ x _ => x
  | _ => .tmp 0
def lkV (o : Oper) : Operand := match o.op with
  | .mapUpdate _ _ _ x => x
  | _ => .tmp 0
section
variable {α : Type} {V : Rd → Value → α → Prop} {P : Program} {K : Act → World → Prop} {a : Act} {w w0 : World} {o : Oper} {n d : Nat} {L : List (Nat × Value)} {D : List Deferred} {E : Nat → Prop} {X Y : Hid} {M : List (Nat × Obj)} {Q : Exit → Act → World → Prop}
theorem op_lookRZ (T TK TV : TypeId) {b : Nat} {es : List (Int × Value)} {l : List (Int × α)} (z : Int) (zero : Value) (z0 : α) {r : Rd} (i : Nat) (hF : Fr n a L D) (hc : opk L o d n = true) (hS : St E w0 X w Y M)
    (ho : o.op = .lookup T (lkM o) (lkK o) false) (hm : evL L (lkM o) = .map (some b)) (hk : evL L (lkK o) = .int .i64 z) (hT : P.underlying T = some (.map TK TV)) (hK : P.underlying TK = some (.int .i64)) (hz : ∀ w, (zeroValue TV).run P w = .ok zero w)
    (hck : ∀ c w, (checkKey c 10000 TK (.int .i64 z)).run P w = .ok () w) (hM : M[i]? = some (b, mapO es)) (hR : MapR V r es l) (h0 : V r zero z0)
    (k : ∀ v, V r v (getP z z0 l) → ∀ a1, Fr n a1 ((d, v) :: L) D → K a1 w) : o.wp P a w K Q :=
  op_lookR i hF hc hS ho hm hk hT hK hz hck hM hR h0 k
theorem op_mapUpdRZ (T TK TV : TypeId) {b : Nat} (l : List (Int × Value)) (z : Int) (v : Value) (i : Nat) (hF : Fr n a L D) (hc : (okOp L o && o.dst.isNone) = true) (hS : St E w0 X w Y M)
    (ho : o.op = .mapUpdate T (lkM o) (lkK o) (lkV o)) (hm : evL L (lkM o) = .map (some b)) (hk : evL L (lkK o) = .int .i64 z) (hv : evL L (lkV o) = v) (hT : P.underlying T = some (.map TK TV)) (hK : P.underlying TK = some (.int .i64))
    (hck : ∀ c w, (checkKey c 10000 TK (.int .i64 z)).run P w = .ok () w) (hM : M[i]? = some (b, mapO l))
    (k : ∀ es', es' = putM z v l → ∀ w1, St E w0 X w1 Y (M.set i (b, mapO es')) → Le (rd w Y) (rd w1 Y) → K a w1) : o.wp P a w K Q :=
  op_mapUpdR i hF hc hS ho hm hk hv hT hK hck hM k
theorem op_lenMZ (T TK TV : TypeId) {b : Nat} (l : List (Int × Value)) (i : Nat) (hF : Fr n a L D) (hc : opk L o d n = true) (hS : St E w0 X w Y M)
    (ho : o.op = .call { callee := .builtin .len, args := #[lkM o], argTypes := #[T] }) (hm : evL L (lkM o) = .map (some b)) (hT : P.underlying T = some (.map TK TV)) (hM : M[i]? = some (b, mapO l))
    (k : ∀ a1, Fr n a1 ((d, .int .i64 (l.length : Int)) :: L) D → K a1 w) : o.wp P a w K Q :=
  op_lenM i hF hc hS ho hm hT hM k
end
section
attribute [local semireducible] Go
/-- What is known, written out. -/
theorem zN {r : Option Nat} {m : Nat} {P : Program} {Q : Exit → Act → World → Prop} {n : Nat} {D : List Deferred} {w : World} {c : Cf} (c' : Cf) (h : Go r m P Q n D w c') (hcu : c.cu = c'.cu := by kernel_rfl) (hk : c.k = c'.k := by kernel_rfl)
    (hs : hasAll c.L (c'.L.map (·.1)) = true := by kernel_rfl) (hl : keep c.L (c'.L.map (·.1)) = c'.L := by kernel_rfl) : Go r m P Q n D w c := by
  intro a hF
  rw [hcu, hk]
  exact h a (hF.as _ hs hl)
end
/-- A store into a row of the call's own, with the kernel's reckoning. -/
theorem op_storeGZ {P : Program} {Q : Exit → Act → World → Prop} {K : Act → World → Prop} {a : Act} {o : Oper} {n : Nat} {L : List (Nat × Value)} {D : List Deferred} {E : Nat → Prop} {w0 w : World} {X Y : Hid} {T : TypeId} {g k k' : Nat} {cur : Array Value} {vs : List Value} {q : Bool} {A B : List (Nat × Obj)} (F : List (Nat × Obj) → List (Nat × Obj)) (hF : Fr n a L D) (hc : (okOp L o && o.dst.isNone) = true) (hS : St E w0 X w Y (F [(g, .cells cur T (0, 0))])) (hM : ∀ rb, F rb = A ++ (rb ++ B))
    (ho : o.op = .store (stT o) (stA o) (stV o)) (ha : evL L (stA o) = .pointer (some ⟨g, k, none⟩)) (hv : (evL L (stV o)).cells.toList = vs) (ht : ldT P (stT o) = some (q, vs.length)) (h1 : vs.all Value.oneCell' = true) (hk : k = k') (hle : k' + vs.length ≤ cur.size)
    (kont : ∀ w1, St E w0 X w1 Y (F [(g, .cells (setCells cur k' vs) T (0, 0))]) → Le (rd w Y) (rd w1 Y) → K a w1) : o.wp P a w K Q :=
  op_storeG F hF hc hS hM ho ha hv ht h1 hk hle kont
section
variable {R : Rg} {Pd : List Pn} {c : Array Bool × List (Nat × Value)} {M : List (Nat × Obj)} {r : Rd}
end
theorem GRow.bnd {α : Type} {Cl : Rd → List Value → α → Prop} {T : TypeId} {size : Nat} {r : Rd} {rb : List (Nat × Obj)} {ad : Option Addr} {m cap : Nat} {L : List α} (h : GRow Cl T size r rb ad m cap L) : (L.length : Int) ≤ 9223372036854775807 := by
  have h0 := h.len
  obtain ⟨es, h1, h2, h3, h4⟩ := h
  rcases h1 with ⟨_, _, h5, _, _⟩ | ⟨g, cur, _, _, hr⟩
  · omega
  · have h6 := hr.hn
    have h7 := hr.hcap
    simp only [maxLen] at h7
    omega
end Go.Gv
/- Data as they are read, printed by a program of this repo. By an AI agent. -/
namespace Go.Gv
open Go.RowKit
def RawV (r : Rd) (v : Value) (x : Raw) : Prop := ∃ a1 a2 a3 a4 a5 a6, v = .agg #[.bool x.neg, .slice a1 a2 a3, .slice a4 a5 a6] ∧ Limbs r a1 a2 a3 x.ln ∧ Limbs r a4 a5 a6 x.ld
theorem RawV.mono {r r' : Rd} {v : Value} {x : Raw} (h : RawV r v x) (k : Le r r') : RawV r' v x := by
  obtain ⟨a1, a2, a3, a4, a5, a6, h0, h1, h2⟩ := h
  exact ⟨a1, a2, a3, a4, a5, a6, h0, h1.mono k, h2.mono k⟩
def IntsAt (r : Rd) (a : Addr) (x : List Int) : Prop := ∃ a1 a3, At r a [.slice a1 x.length a3] ∧ Ints r a1 x.length a3 x
theorem IntsAt.mono (r r' : Rd) (a : Addr) (x : List Int) (k : Le r r') (h : IntsAt r a x) : IntsAt r' a x := by
  obtain ⟨a1, a3, h1, h2⟩ := h
  exact ⟨a1, a3, h1.mono k, h2.mono k⟩
def IntsCs (r : Rd) (cs : List Value) (x : List Int) : Prop := ∃ a1 a3, cs = [.slice a1 x.length a3] ∧ Ints r a1 x.length a3 x
theorem IntsCs.at (r : Rd) (a : Addr) (cs : List Value) (x : List Int) (h : IntsCs r cs x) (k : At r a cs) : IntsAt r a x := by
  obtain ⟨a1, a3, rfl, h2⟩ := h
  exact ⟨a1, a3, k, h2⟩
def IntsS := SlR IntsAt 1
theorem IntsS.mono {r r' : Rd} {ad : Option Addr} {len cap : Nat} {xs : List (List Int)} (h : IntsS r ad len cap xs) (k : Le r r') : IntsS r' ad len cap xs := SlR.mono IntsAt.mono h k
structure BoundsD where
  sense : Int
  lo : Int
  hi : Int
deriving DecidableEq
def BoundsDAt (r : Rd) (a : Addr) (x : BoundsD) : Prop := At r a [.int .u8 x.sense, .int .i64 x.lo, .int .i64 x.hi]
theorem BoundsDAt.mono (r r' : Rd) (a : Addr) (x : BoundsD) (k : Le r r') (h : BoundsDAt r a x) : BoundsDAt r' a x := At.mono k h
def BoundsDV (r : Rd) (v : Value) (x : BoundsD) : Prop := v = .agg #[.int .u8 x.sense, .int .i64 x.lo, .int .i64 x.hi]
theorem BoundsDV.mono {r r' : Rd} {v : Value} {x : BoundsD} (h : BoundsDV r v x) (_ : Le r r') : BoundsDV r' v x := h
def BoundsDCs (r : Rd) (cs : List Value) (x : BoundsD) : Prop := cs = [.int .u8 x.sense, .int .i64 x.lo, .int .i64 x.hi]
theorem BoundsDCs.at (r : Rd) (a : Addr) (cs : List Value) (x : BoundsD) (h : BoundsDCs r cs x) (k : At r a cs) : BoundsDAt r a x := by subst h; exact k
def BoundsDS := SlR BoundsDAt 3
theorem BoundsDS.mono {r r' : Rd} {ad : Option Addr} {len cap : Nat} {xs : List BoundsD} (h : BoundsDS r ad len cap xs) (k : Le r r') : BoundsDS r' ad len cap xs := SlR.mono BoundsDAt.mono h k
structure NoiseD where
  delta : Int
  p : Raw
deriving DecidableEq
def NoiseDAt (r : Rd) (a : Addr) (x : NoiseD) : Prop := ∃ a1 a2 a3 a4, At r a [.int .i64 x.delta, .bool x.p.neg, .slice a1 x.p.ln.length a2, .slice a3 x.p.ld.length a4] ∧ Limbs r a1 x.p.ln.length a2 x.p.ln ∧ Limbs r a3 x.p.ld.length a4 x.p.ld
theorem NoiseDAt.mono (r r' : Rd) (a : Addr) (x : NoiseD) (k : Le r r') (h : NoiseDAt r a x) : NoiseDAt r' a x := by
  obtain ⟨a1, a2, a3, a4, h0, h1, h2⟩ := h
  exact ⟨a1, a2, a3, a4, h0.mono k, h1.mono k, h2.mono k⟩
def NoiseDV (r : Rd) (v : Value) (x : NoiseD) : Prop := ∃ a1 a2 a3 a4, v = .agg #[.int .i64 x.delta, .bool x.p.neg, .slice a1 x.p.ln.length a2, .slice a3 x.p.ld.length a4] ∧ Limbs r a1 x.p.ln.length a2 x.p.ln ∧ Limbs r a3 x.p.ld.length a4 x.p.ld
theorem NoiseDV.mono {r r' : Rd} {v : Value} {x : NoiseD} (h : NoiseDV r v x) (k : Le r r') : NoiseDV r' v x := by
  obtain ⟨a1, a2, a3, a4, h0, h1, h2⟩ := h
  exact ⟨a1, a2, a3, a4, h0, h1.mono k, h2.mono k⟩
def NoiseDCs (r : Rd) (cs : List Value) (x : NoiseD) : Prop := ∃ a1 a2 a3 a4, cs = [.int .i64 x.delta, .bool x.p.neg, .slice a1 x.p.ln.length a2, .slice a3 x.p.ld.length a4] ∧ Limbs r a1 x.p.ln.length a2 x.p.ln ∧ Limbs r a3 x.p.ld.length a4 x.p.ld
theorem NoiseDCs.at (r : Rd) (a : Addr) (cs : List Value) (x : NoiseD) (h : NoiseDCs r cs x) (k : At r a cs) : NoiseDAt r a x := by
  obtain ⟨a1, a2, a3, a4, rfl, h0, h1⟩ := h
  exact ⟨a1, a2, a3, a4, k, h0, h1⟩
def NoiseDS := SlR NoiseDAt 4
theorem NoiseDS.mono {r r' : Rd} {ad : Option Addr} {len cap : Nat} {xs : List NoiseD} (h : NoiseDS r ad len cap xs) (k : Le r r') : NoiseDS r' ad len cap xs := SlR.mono NoiseDAt.mono h k
structure ModelD where
  height : List Int
  own : List Int
  other : List Int
  advisories : List BoundsD
  pull : Int
  near : Int
  steps : Int
  ownNoise : List NoiseD
  otherNoise : List NoiseD
  alert : Raw
  strengthen : Raw
  reversal : Raw
deriving DecidableEq
def ModelDAt (r : Rd) (a : Addr) (x : ModelD) : Prop := ∃ a1 a2 a3 a4 a5 a6 a7 a8 a9 a10 a11 a12 a13 a14 a15 a16 a17 a18 a19 a20 a21 a22 a23 a24, At r a [.slice a1 x.height.length a2, .slice a3 x.own.length a4, .slice a5 x.other.length a6, .slice a7 x.advisories.length a8, .int .i64 x.pull, .int .i64 x.near, .int .i64 x.steps, .slice a9 x.ownNoise.length a10, .slice a11 x.otherNoise.length a12, .bool x.alert.neg, .slice a13 x.alert.ln.length a14, .slice a15 x.alert.ld.length a16, .bool x.strengthen.neg, .slice a17 x.strengthen.ln.length a18, .slice a19 x.strengthen.ld.length a20, .bool x.reversal.neg, .slice a21 x.reversal.ln.length a22, .slice a23 x.reversal.ld.length a24] ∧ Ints r a1 x.height.length a2 x.height ∧ Ints r a3 x.own.length a4 x.own ∧ Ints r a5 x.other.length a6 x.other ∧ BoundsDS r a7 x.advisories.length a8 x.advisories ∧ NoiseDS r a9 x.ownNoise.length a10 x.ownNoise ∧ NoiseDS r a11 x.otherNoise.length a12 x.otherNoise ∧ Limbs r a13 x.alert.ln.length a14 x.alert.ln ∧ Limbs r a15 x.alert.ld.length a16 x.alert.ld ∧ Limbs r a17 x.strengthen.ln.length a18 x.strengthen.ln ∧ Limbs r a19 x.strengthen.ld.length a20 x.strengthen.ld ∧ Limbs r a21 x.reversal.ln.length a22 x.reversal.ln ∧ Limbs r a23 x.reversal.ld.length a24 x.reversal.ld
theorem ModelDAt.mono (r r' : Rd) (a : Addr) (x : ModelD) (k : Le r r') (h : ModelDAt r a x) : ModelDAt r' a x := by
  obtain ⟨a1, a2, a3, a4, a5, a6, a7, a8, a9, a10, a11, a12, a13, a14, a15, a16, a17, a18, a19, a20, a21, a22, a23, a24, h0, h1, h2, h3, h4, h5, h6, h7, h8, h9, h10, h11, h12⟩ := h
  exact ⟨a1, a2, a3, a4, a5, a6, a7, a8, a9, a10, a11, a12, a13, a14, a15, a16, a17, a18, a19, a20, a21, a22, a23, a24, h0.mono k, h1.mono k, h2.mono k, h3.mono k, h4.mono k, h5.mono k, h6.mono k, h7.mono k, h8.mono k, h9.mono k, h10.mono k, h11.mono k, h12.mono k⟩
def ModelDV (r : Rd) (v : Value) (x : ModelD) : Prop := ∃ a1 a2 a3 a4 a5 a6 a7 a8 a9 a10 a11 a12 a13 a14 a15 a16 a17 a18 a19 a20 a21 a22 a23 a24, v = .agg #[.slice a1 x.height.length a2, .slice a3 x.own.length a4, .slice a5 x.other.length a6, .slice a7 x.advisories.length a8, .int .i64 x.pull, .int .i64 x.near, .int .i64 x.steps, .slice a9 x.ownNoise.length a10, .slice a11 x.otherNoise.length a12, .bool x.alert.neg, .slice a13 x.alert.ln.length a14, .slice a15 x.alert.ld.length a16, .bool x.strengthen.neg, .slice a17 x.strengthen.ln.length a18, .slice a19 x.strengthen.ld.length a20, .bool x.reversal.neg, .slice a21 x.reversal.ln.length a22, .slice a23 x.reversal.ld.length a24] ∧ Ints r a1 x.height.length a2 x.height ∧ Ints r a3 x.own.length a4 x.own ∧ Ints r a5 x.other.length a6 x.other ∧ BoundsDS r a7 x.advisories.length a8 x.advisories ∧ NoiseDS r a9 x.ownNoise.length a10 x.ownNoise ∧ NoiseDS r a11 x.otherNoise.length a12 x.otherNoise ∧ Limbs r a13 x.alert.ln.length a14 x.alert.ln ∧ Limbs r a15 x.alert.ld.length a16 x.alert.ld ∧ Limbs r a17 x.strengthen.ln.length a18 x.strengthen.ln ∧ Limbs r a19 x.strengthen.ld.length a20 x.strengthen.ld ∧ Limbs r a21 x.reversal.ln.length a22 x.reversal.ln ∧ Limbs r a23 x.reversal.ld.length a24 x.reversal.ld
theorem ModelDV.op {r : Rd} {v : Value} {x : ModelD} {C : Prop} (h : ModelDV r v x) (k : ∀ (a1 : Option Addr) (a2 : Nat) (a3 : Option Addr) (a4 : Nat) (a5 : Option Addr) (a6 : Nat) (a7 : Option Addr) (a8 : Nat) (a9 : Option Addr) (a10 : Nat) (a11 : Option Addr) (a12 : Nat) (a13 : Option Addr) (a14 : Nat) (a15 : Option Addr) (a16 : Nat) (a17 : Option Addr) (a18 : Nat) (a19 : Option Addr) (a20 : Nat) (a21 : Option Addr) (a22 : Nat) (a23 : Option Addr) (a24 : Nat), v = .agg #[.slice a1 x.height.length a2, .slice a3 x.own.length a4, .slice a5 x.other.length a6, .slice a7 x.advisories.length a8, .int .i64 x.pull, .int .i64 x.near, .int .i64 x.steps, .slice a9 x.ownNoise.length a10, .slice a11 x.otherNoise.length a12, .bool x.alert.neg, .slice a13 x.alert.ln.length a14, .slice a15 x.alert.ld.length a16, .bool x.strengthen.neg, .slice a17 x.strengthen.ln.length a18, .slice a19 x.strengthen.ld.length a20, .bool x.reversal.neg, .slice a21 x.reversal.ln.length a22, .slice a23 x.reversal.ld.length a24] → Ints r a1 x.height.length a2 x.height → Ints r a3 x.own.length a4 x.own → Ints r a5 x.other.length a6 x.other → BoundsDS r a7 x.advisories.length a8 x.advisories → NoiseDS r a9 x.ownNoise.length a10 x.ownNoise → NoiseDS r a11 x.otherNoise.length a12 x.otherNoise → Limbs r a13 x.alert.ln.length a14 x.alert.ln → Limbs r a15 x.alert.ld.length a16 x.alert.ld → Limbs r a17 x.strengthen.ln.length a18 x.strengthen.ln → Limbs r a19 x.strengthen.ld.length a20 x.strengthen.ld → Limbs r a21 x.reversal.ln.length a22 x.reversal.ln → Limbs r a23 x.reversal.ld.length a24 x.reversal.ld → C) : C := by
  obtain ⟨a1, a2, a3, a4, a5, a6, a7, a8, a9, a10, a11, a12, a13, a14, a15, a16, a17, a18, a19, a20, a21, a22, a23, a24, h0, h1, h2, h3, h4, h5, h6, h7, h8, h9, h10, h11, h12⟩ := h
  exact k a1 a2 a3 a4 a5 a6 a7 a8 a9 a10 a11 a12 a13 a14 a15 a16 a17 a18 a19 a20 a21 a22 a23 a24 h0 h1 h2 h3 h4 h5 h6 h7 h8 h9 h10 h11 h12
theorem ModelDAt.op {r : Rd} {a : Addr} {x : ModelD} {C : Prop} (h : ModelDAt r a x) (k : ∀ (a1 : Option Addr) (a2 : Nat) (a3 : Option Addr) (a4 : Nat) (a5 : Option Addr) (a6 : Nat) (a7 : Option Addr) (a8 : Nat) (a9 : Option Addr) (a10 : Nat) (a11 : Option Addr) (a12 : Nat) (a13 : Option Addr) (a14 : Nat) (a15 : Option Addr) (a16 : Nat) (a17 : Option Addr) (a18 : Nat) (a19 : Option Addr) (a20 : Nat) (a21 : Option Addr) (a22 : Nat) (a23 : Option Addr) (a24 : Nat), At r a [.slice a1 x.height.length a2, .slice a3 x.own.length a4, .slice a5 x.other.length a6, .slice a7 x.advisories.length a8, .int .i64 x.pull, .int .i64 x.near, .int .i64 x.steps, .slice a9 x.ownNoise.length a10, .slice a11 x.otherNoise.length a12, .bool x.alert.neg, .slice a13 x.alert.ln.length a14, .slice a15 x.alert.ld.length a16, .bool x.strengthen.neg, .slice a17 x.strengthen.ln.length a18, .slice a19 x.strengthen.ld.length a20, .bool x.reversal.neg, .slice a21 x.reversal.ln.length a22, .slice a23 x.reversal.ld.length a24] → Ints r a1 x.height.length a2 x.height → Ints r a3 x.own.length a4 x.own → Ints r a5 x.other.length a6 x.other → BoundsDS r a7 x.advisories.length a8 x.advisories → NoiseDS r a9 x.ownNoise.length a10 x.ownNoise → NoiseDS r a11 x.otherNoise.length a12 x.otherNoise → Limbs r a13 x.alert.ln.length a14 x.alert.ln → Limbs r a15 x.alert.ld.length a16 x.alert.ld → Limbs r a17 x.strengthen.ln.length a18 x.strengthen.ln → Limbs r a19 x.strengthen.ld.length a20 x.strengthen.ld → Limbs r a21 x.reversal.ln.length a22 x.reversal.ln → Limbs r a23 x.reversal.ld.length a24 x.reversal.ld → C) : C := by
  obtain ⟨a1, a2, a3, a4, a5, a6, a7, a8, a9, a10, a11, a12, a13, a14, a15, a16, a17, a18, a19, a20, a21, a22, a23, a24, h0, h1, h2, h3, h4, h5, h6, h7, h8, h9, h10, h11, h12⟩ := h
  exact k a1 a2 a3 a4 a5 a6 a7 a8 a9 a10 a11 a12 a13 a14 a15 a16 a17 a18 a19 a20 a21 a22 a23 a24 h0 h1 h2 h3 h4 h5 h6 h7 h8 h9 h10 h11 h12
theorem ModelDV.mono {r r' : Rd} {v : Value} {x : ModelD} (h : ModelDV r v x) (k : Le r r') : ModelDV r' v x := by
  obtain ⟨a1, a2, a3, a4, a5, a6, a7, a8, a9, a10, a11, a12, a13, a14, a15, a16, a17, a18, a19, a20, a21, a22, a23, a24, h0, h1, h2, h3, h4, h5, h6, h7, h8, h9, h10, h11, h12⟩ := h
  exact ⟨a1, a2, a3, a4, a5, a6, a7, a8, a9, a10, a11, a12, a13, a14, a15, a16, a17, a18, a19, a20, a21, a22, a23, a24, h0, h1.mono k, h2.mono k, h3.mono k, h4.mono k, h5.mono k, h6.mono k, h7.mono k, h8.mono k, h9.mono k, h10.mono k, h11.mono k, h12.mono k⟩
structure SpanD where
  lo : Int
  hi : Int
deriving DecidableEq
def SpanDAt (r : Rd) (a : Addr) (x : SpanD) : Prop := At r a [.int .i64 x.lo, .int .i64 x.hi]
theorem SpanDAt.mono (r r' : Rd) (a : Addr) (x : SpanD) (k : Le r r') (h : SpanDAt r a x) : SpanDAt r' a x := At.mono k h
def SpanDV (r : Rd) (v : Value) (x : SpanD) : Prop := v = .agg #[.int .i64 x.lo, .int .i64 x.hi]
theorem SpanDV.mono {r r' : Rd} {v : Value} {x : SpanD} (h : SpanDV r v x) (_ : Le r r') : SpanDV r' v x := h
def NoiseDSAt (r : Rd) (a : Addr) (x : List NoiseD) : Prop := ∃ a1 a3, At r a [.slice a1 x.length a3] ∧ NoiseDS r a1 x.length a3 x
theorem NoiseDSAt.mono (r r' : Rd) (a : Addr) (x : List NoiseD) (k : Le r r') (h : NoiseDSAt r a x) : NoiseDSAt r' a x := by
  obtain ⟨a1, a3, h1, h2⟩ := h
  exact ⟨a1, a3, h1.mono k, h2.mono k⟩
def NoiseDSCs (r : Rd) (cs : List Value) (x : List NoiseD) : Prop := ∃ a1 a3, cs = [.slice a1 x.length a3] ∧ NoiseDS r a1 x.length a3 x
theorem NoiseDSCs.at (r : Rd) (a : Addr) (cs : List Value) (x : List NoiseD) (h : NoiseDSCs r cs x) (k : At r a cs) : NoiseDSAt r a x := by
  obtain ⟨a1, a3, rfl, h2⟩ := h
  exact ⟨a1, a3, k, h2⟩
def NoiseDSS := SlR NoiseDSAt 1
theorem NoiseDSS.mono {r r' : Rd} {ad : Option Addr} {len cap : Nat} {xs : List (List NoiseD)} (h : NoiseDSS r ad len cap xs) (k : Le r r') : NoiseDSS r' ad len cap xs := SlR.mono NoiseDSAt.mono h k
def RatCs (r : Rd) (cs : List Value) (x : Raw) : Prop := ∃ a1 a2 a3 a4 a5 a6, cs = [.bool x.neg, .slice a1 a2 a3, .slice a4 a5 a6] ∧ Limbs r a1 a2 a3 x.ln ∧ Limbs r a4 a5 a6 x.ld
theorem RatCs.at (r : Rd) (a : Addr) (cs : List Value) (x : Raw) (h : RatCs r cs x) (k : At r a cs) : RatAt r a x := by
  obtain ⟨a1, a2, a3, a4, a5, a6, rfl, h0, h1⟩ := h
  exact ⟨a1, a2, a3, a4, a5, a6, k, h0, h1⟩
structure ShareD where
  index : Int
  w : Raw
deriving DecidableEq
def ShareDAt (r : Rd) (a : Addr) (x : ShareD) : Prop := ∃ a1 a2 a3 a4, At r a [.int .i64 x.index, .bool x.w.neg, .slice a1 x.w.ln.length a2, .slice a3 x.w.ld.length a4] ∧ Limbs r a1 x.w.ln.length a2 x.w.ln ∧ Limbs r a3 x.w.ld.length a4 x.w.ld
theorem ShareDAt.mono (r r' : Rd) (a : Addr) (x : ShareD) (k : Le r r') (h : ShareDAt r a x) : ShareDAt r' a x := by
  obtain ⟨a1, a2, a3, a4, h0, h1, h2⟩ := h
  exact ⟨a1, a2, a3, a4, h0.mono k, h1.mono k, h2.mono k⟩
def ShareDV (r : Rd) (v : Value) (x : ShareD) : Prop := ∃ a1 a2 a3 a4, v = .agg #[.int .i64 x.index, .bool x.w.neg, .slice a1 x.w.ln.length a2, .slice a3 x.w.ld.length a4] ∧ Limbs r a1 x.w.ln.length a2 x.w.ln ∧ Limbs r a3 x.w.ld.length a4 x.w.ld
theorem ShareDV.mono {r r' : Rd} {v : Value} {x : ShareD} (h : ShareDV r v x) (k : Le r r') : ShareDV r' v x := by
  obtain ⟨a1, a2, a3, a4, h0, h1, h2⟩ := h
  exact ⟨a1, a2, a3, a4, h0, h1.mono k, h2.mono k⟩
def ShareDCs (r : Rd) (cs : List Value) (x : ShareD) : Prop := ∃ a1 a2 a3 a4, cs = [.int .i64 x.index, .bool x.w.neg, .slice a1 x.w.ln.length a2, .slice a3 x.w.ld.length a4] ∧ Limbs r a1 x.w.ln.length a2 x.w.ln ∧ Limbs r a3 x.w.ld.length a4 x.w.ld
theorem ShareDCs.at (r : Rd) (a : Addr) (cs : List Value) (x : ShareD) (h : ShareDCs r cs x) (k : At r a cs) : ShareDAt r a x := by
  obtain ⟨a1, a2, a3, a4, rfl, h0, h1⟩ := h
  exact ⟨a1, a2, a3, a4, k, h0, h1⟩
def ShareDS := SlR ShareDAt 4
theorem ShareDS.mono {r r' : Rd} {ad : Option Addr} {len cap : Nat} {xs : List ShareD} (h : ShareDS r ad len cap xs) (k : Le r r') : ShareDS r' ad len cap xs := SlR.mono ShareDAt.mono h k
structure WeightD where
  vertex : Int
  w : Raw
deriving DecidableEq
def WeightDAt (r : Rd) (a : Addr) (x : WeightD) : Prop := ∃ a1 a2 a3 a4, At r a [.int .i64 x.vertex, .bool x.w.neg, .slice a1 x.w.ln.length a2, .slice a3 x.w.ld.length a4] ∧ Limbs r a1 x.w.ln.length a2 x.w.ln ∧ Limbs r a3 x.w.ld.length a4 x.w.ld
theorem WeightDAt.mono (r r' : Rd) (a : Addr) (x : WeightD) (k : Le r r') (h : WeightDAt r a x) : WeightDAt r' a x := by
  obtain ⟨a1, a2, a3, a4, h0, h1, h2⟩ := h
  exact ⟨a1, a2, a3, a4, h0.mono k, h1.mono k, h2.mono k⟩
def WeightDV (r : Rd) (v : Value) (x : WeightD) : Prop := ∃ a1 a2 a3 a4, v = .agg #[.int .i64 x.vertex, .bool x.w.neg, .slice a1 x.w.ln.length a2, .slice a3 x.w.ld.length a4] ∧ Limbs r a1 x.w.ln.length a2 x.w.ln ∧ Limbs r a3 x.w.ld.length a4 x.w.ld
theorem WeightDV.mono {r r' : Rd} {v : Value} {x : WeightD} (h : WeightDV r v x) (k : Le r r') : WeightDV r' v x := by
  obtain ⟨a1, a2, a3, a4, h0, h1, h2⟩ := h
  exact ⟨a1, a2, a3, a4, h0, h1.mono k, h2.mono k⟩
def WeightDCs (r : Rd) (cs : List Value) (x : WeightD) : Prop := ∃ a1 a2 a3 a4, cs = [.int .i64 x.vertex, .bool x.w.neg, .slice a1 x.w.ln.length a2, .slice a3 x.w.ld.length a4] ∧ Limbs r a1 x.w.ln.length a2 x.w.ln ∧ Limbs r a3 x.w.ld.length a4 x.w.ld
theorem WeightDCs.at (r : Rd) (a : Addr) (cs : List Value) (x : WeightD) (h : WeightDCs r cs x) (k : At r a cs) : WeightDAt r a x := by
  obtain ⟨a1, a2, a3, a4, rfl, h0, h1⟩ := h
  exact ⟨a1, a2, a3, a4, k, h0, h1⟩
def WeightDS := SlR WeightDAt 4
theorem WeightDS.mono {r r' : Rd} {ad : Option Addr} {len cap : Nat} {xs : List WeightD} (h : WeightDS r ad len cap xs) (k : Le r r') : WeightDS r' ad len cap xs := SlR.mono WeightDAt.mono h k
def OutV (r : Rd) (v : Value) (x : Out) : Prop := ∃ a1 a2 a3 a4 a5 a6, v = .agg #[.int .i64 x.to, .bool x.p.neg, .slice a1 a2 a3, .slice a4 a5 a6] ∧ Limbs r a1 a2 a3 x.p.ln ∧ Limbs r a4 a5 a6 x.p.ld
theorem OutV.mono {r r' : Rd} {v : Value} {x : Out} (h : OutV r v x) (k : Le r r') : OutV r' v x := by
  obtain ⟨a1, a2, a3, a4, a5, a6, h0, h1, h2⟩ := h
  exact ⟨a1, a2, a3, a4, a5, a6, h0, h1.mono k, h2.mono k⟩
def OutCs (r : Rd) (cs : List Value) (x : Out) : Prop := ∃ a1 a2 a3 a4 a5 a6, cs = [.int .i64 x.to, .bool x.p.neg, .slice a1 a2 a3, .slice a4 a5 a6] ∧ Limbs r a1 a2 a3 x.p.ln ∧ Limbs r a4 a5 a6 x.p.ld
theorem OutCs.at (r : Rd) (a : Addr) (cs : List Value) (x : Out) (h : OutCs r cs x) (k : At r a cs) : OutAt r a x := by
  obtain ⟨a1, a2, a3, a4, a5, a6, rfl, h0, h1⟩ := h
  exact ⟨a1, a2, a3, a4, a5, a6, k, h0, h1⟩
end Go.Gv
namespace Go.Proofs.YtjnbipmlmafahaaGreat
open Go Go.Gv Go.RowKit
set_option maxRecDepth 100000
set_option maxHeartbeats 1000000
noncomputable def rat_Check_p (p0 : Raw) : Option (Int) :=
  some p0.chk
theorem rat_Check_c (w : World) (X : Hid) (hX : ∀ k o, X k o → k < w.heap.size) (p0 : Raw) (vp0 : Value) (hp0 : RawV (rd w X) vp0 p0) (y : Int) (hp : rat_Check_p p0 = some y) : Calls Tryz.prog 79 #[vp0] w (Ret E0 w fun _ v => v = .int .i64 y) := by
  obtain ⟨a01, a02, a03, a04, a05, a06, rfl, h01, h02⟩ := hp0
  obtain rfl := Option.some.inj hp
  exact rcheck_c w X hX p0 _ _ _ h01 _ _ _ h02
noncomputable def rat_Add_p (p0 : Raw) (p1 : Raw) : Option (Raw × Int) :=
  some (opR p0 p1 (p0.rat + p1.rat), opE p0 p1 (p0.rat + p1.rat))
theorem rat_Add_c (w : World) (X : Hid) (hX : ∀ k o, X k o → k < w.heap.size) (p0 : Raw) (vp0 : Value) (hp0 : RawV (rd w X) vp0 p0) (p1 : Raw) (vp1 : Value) (hp1 : RawV (rd w X) vp1 p1) (y : Raw × Int) (hp : rat_Add_p p0 p1 = some y) : Calls Tryz.prog 57 #[vp0, vp1] w (Ret E0 w fun w' v => ∃ uu0, v = .tuple #[uu0, .int .i64 y.2] ∧ RawV (rd w' (old w)) uu0 y.1) := by
  obtain ⟨a01, a02, a03, a04, a05, a06, rfl, h01, h02⟩ := hp0
  obtain ⟨a11, a12, a13, a14, a15, a16, rfl, h11, h12⟩ := hp1
  obtain rfl := Option.some.inj hp
  exact rAdd_c w X hX p0 _ _ _ h01 _ _ _ h02 p1 _ _ _ h11 _ _ _ h12
noncomputable def rat_Mul_p (p0 : Raw) (p1 : Raw) : Option (Raw × Int) :=
  some (opR p0 p1 (p0.rat * p1.rat), opE p0 p1 (p0.rat * p1.rat))
theorem rat_Mul_c (w : World) (X : Hid) (hX : ∀ k o, X k o → k < w.heap.size) (p0 : Raw) (vp0 : Value) (hp0 : RawV (rd w X) vp0 p0) (p1 : Raw) (vp1 : Value) (hp1 : RawV (rd w X) vp1 p1) (y : Raw × Int) (hp : rat_Mul_p p0 p1 = some y) : Calls Tryz.prog 95 #[vp0, vp1] w (Ret E0 w fun w' v => ∃ uu0, v = .tuple #[uu0, .int .i64 y.2] ∧ RawV (rd w' (old w)) uu0 y.1) := by
  obtain ⟨a01, a02, a03, a04, a05, a06, rfl, h01, h02⟩ := hp0
  obtain ⟨a11, a12, a13, a14, a15, a16, rfl, h11, h12⟩ := hp1
  obtain rfl := Option.some.inj hp
  exact rMul_c w X hX p0 _ _ _ h01 _ _ _ h02 p1 _ _ _ h11 _ _ _ h12
noncomputable def rat_Cmp_p (p0 : Raw) (p1 : Raw) : Option (Int × Int) :=
  some (cmpR p0 p1, cmpE p0 p1)
theorem rat_Cmp_c (w : World) (X : Hid) (hX : ∀ k o, X k o → k < w.heap.size) (p0 : Raw) (vp0 : Value) (hp0 : RawV (rd w X) vp0 p0) (p1 : Raw) (vp1 : Value) (hp1 : RawV (rd w X) vp1 p1) (y : Int × Int) (hp : rat_Cmp_p p0 p1 = some y) : Calls Tryz.prog 80 #[vp0, vp1] w (Ret E0 w fun _ v => v = .tuple #[.int .i64 y.1, .int .i64 y.2]) := by
  obtain ⟨a01, a02, a03, a04, a05, a06, rfl, h01, h02⟩ := hp0
  obtain ⟨a11, a12, a13, a14, a15, a16, rfl, h11, h12⟩ := hp1
  obtain rfl := Option.some.inj hp
  exact rCmp_c w X hX p0 _ _ _ h01 _ _ _ h02 p1 _ _ _ h11 _ _ _ h12
noncomputable def rat_From_p (p0 : Int) : Option (Raw) :=
  grd (-9223372036854775808 ≤ p0 ∧ p0 ≤ 9223372036854775807) (some (Raw.of (p0 : Rat)))
theorem rat_From_c (w : World) (X : Hid) (hX : ∀ k o, X k o → k < w.heap.size) (p0 : Int) (y : Raw) (hp : rat_From_p p0 = some y) : Calls Tryz.prog 38 #[.int .i64 p0] w (Ret E0 w fun w' v => RawV (rd w' (old w)) v y) := by
  obtain ⟨⟨h1, h2⟩, hp⟩ := grdp hp
  obtain rfl := Option.some.inj hp
  exact rFrom_c w (old w) (fun k _ h => h) p0 h1 h2
noncomputable def rat_Of_p (p0 : Int) (p1 : Int) : Option (Raw × Int) :=
  grd ((-9223372036854775808 ≤ p0 ∧ p0 ≤ 9223372036854775807) ∧ (-9223372036854775808 ≤ p1 ∧ p1 ≤ 9223372036854775807) ∧ p1 ≠ 0) (some (Raw.of (mkRat (sgn (!(decide (p0 < 0) == decide (p1 < 0))) p0.natAbs) p1.natAbs), 0))
theorem rat_Of_c (w : World) (X : Hid) (hX : ∀ k o, X k o → k < w.heap.size) (p0 : Int) (p1 : Int) (y : Raw × Int) (hp : rat_Of_p p0 p1 = some y) : Calls Tryz.prog 84 #[.int .i64 p0, .int .i64 p1] w (Ret E0 w fun w' v => ∃ uu0, v = .tuple #[uu0, .int .i64 y.2] ∧ RawV (rd w' (old w)) uu0 y.1) := by
  obtain ⟨⟨⟨h1, h2⟩, ⟨h3, h4⟩, h5⟩, hp⟩ := grdp hp
  obtain rfl := Option.some.inj hp
  exact rOf_c w (old w) (fun k _ h => h) p0 p1 h1 h2 h3 h4 h5
instance (l : List Nat) : Decidable (Canon l) := by unfold Canon; infer_instance
instance (a : Raw) : Decidable (Vr a) := by unfold Vr; infer_instance
noncomputable def clearwaykit_EqualRat_p (p0 : Raw) (p1 : Raw) : Option (Bool) :=
  some (decide (p0 = p1))
theorem clearwaykit_EqualRat_c (w : World) (X : Hid) (hX : ∀ k o, X k o → k < w.heap.size) (p0 : Raw) (vp0 : Value) (hp0 : RawV (rd w X) vp0 p0) (p1 : Raw) (vp1 : Value) (hp1 : RawV (rd w X) vp1 p1) (y : Bool) (hp : clearwaykit_EqualRat_p p0 p1 = some y) : Calls Tryz.prog 23 #[vp0, vp1] w (Ret E0 w fun _ v => v = .bool y) := by
  obtain ⟨a01, a02, a03, a04, a05, a06, rfl, h01, h02⟩ := hp0
  obtain ⟨a11, a12, a13, a14, a15, a16, rfl, h11, h12⟩ := hp1
  obtain rfl := Option.some.inj hp
  exact EqualRat_c w X hX p0 _ _ _ h01 _ _ _ h02 p1 _ _ _ h11 _ _ _ h12
end Go.Proofs.YtjnbipmlmafahaaGreat
namespace Go.Proofs.YtjnbipmlmafahaaGreat
open Go Go.Gv Go.RowKit
set_option maxRecDepth 100000
set_option maxHeartbeats 1000000
noncomputable def interp_size_l4 (J2 : Int → Option (Int)) : List (List Int) → Int → Option (Int)
  | [], v4_0 => J2 v4_0
  | x4 :: r4, v4_0 => interp_size_l4 J2 r4 (IntKind.i64.wrap ((v4_0) * (x4.length : Int)))
noncomputable def interp_size_p (p0 : List (List Int)) : Option (Int) :=
  lt (fun (v2_0 : Int) => some v2_0) fun J2 => interp_size_l4 J2 (p0.drop 0)  1
theorem interp_size_c (w : World) (X : Hid) (hX : ∀ k o, X k o → k < w.heap.size) (p0 : List (List Int)) (vp0 : Value) (hp0 : SV IntsS (rd w X) vp0 p0) (y : Int) (hp : interp_size_p p0 = some y) : Calls Tryz.prog 98 #[vp0] w (Ret E0 w fun _ v => v = .int .i64 y) := by
 obtain ⟨p0a1, p0a2, rfl, p0a_h0⟩ := hp0
 unfold interp_size_p at hp
 refine zen Tryz.func98 ?_
 have C0 : St E0 w X w X [] := St.start hX
 refine zz 10 ?_
 have hob := ltd1 hp
 obtain ⟨J2, hJ2, hp⟩ := hob
 refine zjoin (fun (v2_0 : Int) => [(3, .int .i64 v2_0)]) (fun (v2_0 : Int) w1 => ∃ Y1 : Hid, St E0 w X w1 Y1 [] ∧ Le (rd w X) (rd w1 Y1) ∧ J2 v2_0 = some y) ?_ ?_
 ·
  rintro v2_0 w2 ⟨Y2, C2, B2, hp⟩
  have hp := (hJ2 _).symm.trans hp
  refine zz 7 ?_
  refine zr' (v := .int .i64 v2_0) ?_
  have hob := Option.some.inj hp
  subst hob
  exact ⟨C2.upd, _, rfl, rfl⟩
 intro K3 H3
 refine zz 8 ?_
 have hb4 : (p0.length : Int) ≤ 9223372036854775807 := lenb (p0a_h0).hcap (p0a_h0).hbig
 refine zlp Tryz.f98 [K3] [1, 1, 9, 1, 0] (fun ((v4_0, k4) : Int × Nat) => [(3, .int .i64 v4_0), (6, .slice p0a1 p0.length p0a2), (7, .int .i64 (p0.length : Int)), (8, .int .i64 (k4 : Int))]) (fun ((v4_0, k4) : Int × Nat) w1 => ∃ Y1 : Hid, St E0 w X w1 Y1 [] ∧ Le (rd w X) (rd w1 Y1) ∧ interp_size_l4 J2 (p0.drop k4)  v4_0 = some y) (fun ((v4_0, k4) : Int × Nat) => p0.length - k4) (1, 0) ?_ ?_
 ·
  exact ⟨_, C0, Le.refl _, hp⟩
 rintro ⟨v4_0, k4⟩ w4 K4 H4 ⟨Y4, C4, B4, hp⟩
 refine zz 6 ?_
 refine zt 9 (p := (k4 : Int) < (p0.length : Int)) (fun ht5 => ?_) (fun ht5 => ?_)
 ·
  have hob := get_lt (l := p0) (k := k4) (lt_of_int ht5)
  obtain ⟨x4, hqx4⟩ := hob
  rw [dropC hqx4, interp_size_l4] at hp
  have hzx4 : (0 : Int) ≤ (k4 : Int) := Int.natCast_nonneg _
  refine zz 7 ?_
  have hob := p0a_h0.opn hqx4
  obtain ⟨be6, oe6, rfl, B6, hEe6⟩ := hob
  obtain ⟨e61, e62, e6_at, e6_h0⟩ := hEe6
  refine zi (b := be6) (off := oe6) (len := p0.length) (cap := p0a2) (kd := .i64) (i := (k4 : Int)) 1 (oe6 + k4 * 1) ?_ (h0 := hzx4) (h1 := (ix_b hzx4 B6))
  refine zl ((e6_at.mono B4)).cells ?_
  refine zz 14 ?_
  refine zs 16 (v := .int .i64 (IntKind.i64.wrap ((k4 : Int) + 1))) (v' := .int .i64 ((k4 : Int) + 1)) (vint (wi64 (wk0 k4) (wk1 ht5 hb4))) ?_
  refine zz 2 ?_
  refine znext (fun a h => H4 (IntKind.i64.wrap ((v4_0) * (x4.length : Int)), k4 + 1) _ a h ⟨_, C4, B4, hp⟩ ?_)
  exact mu_lt ht5
 rw [List.drop_eq_nil_of_le (nlt_of_int ht5), interp_size_l4] at hp
 refine zz 5 ?_
 exact znext (fun a h => H3 v4_0 _ a h ⟨_, C4, B4, hp⟩)
noncomputable def interp_Check_l17 (x10 : List Int) (J12 : Option (Int)) : List Int → Nat → Option (Int)
  | [], k17 => J12
  | x17 :: r17, k17 => if (x17) < (-1073741824) then (some 1) else (if (x17) > 1073741824 then (some 1) else (if (k17 : Int) > 0 then ((ix x10 (IntKind.i64.wrap ((k17 : Int) - 1))).bind fun x23 => if (x17) ≤ x23 then (some 1) else (interp_Check_l17 x10 J12 r17 (k17 + 1))) else (interp_Check_l17 x10 J12 r17 (k17 + 1))))
noncomputable def interp_Check_l10 (J4 : Option (Int)) : List (List Int) → Option (Int)
  | [] => J4
  | x10 :: r10 => lt (interp_Check_l10 J4 r10 ) fun J12 => if ((x10.length : Int) == 0) = true then (some 3) else (if (x10.length : Int) > 32 then (some 4) else (interp_Check_l17 x10 J12 (x10.drop 0) 0))
noncomputable def interp_Check_p (p0 : List (List Int)) : Option (Int) :=
  if ((p0.length : Int) == 0) = true then (some 3) else (if (p0.length : Int) > 4 then (some 4) else (lt ((interp_size_p p0).bind fun y6 => if (y6) > 256 then (some 10) else (some 0)) fun J4 => interp_Check_l10 J4 (p0.drop 0) ))
theorem interp_Check_c (w : World) (X : Hid) (hX : ∀ k o, X k o → k < w.heap.size) (p0 : List (List Int)) (vp0 : Value) (hp0 : SV IntsS (rd w X) vp0 p0) (y : Int) (hp : interp_Check_p p0 = some y) : Calls Tryz.prog 59 #[vp0] w (Ret E0 w fun _ v => v = .int .i64 y) := by
 obtain ⟨p0a1, p0a2, rfl, p0a_h0⟩ := hp0
 unfold interp_Check_p at hp
 refine zen Tryz.func59 ?_
 have C0 : St E0 w X w X [] := St.start hX
 refine zz 15 ?_
 refine zb 7 (b := ((p0.length : Int) == 0)) (fun hc2 => ?_) (fun hc2 => ?_)
 ·
  have hp := ipb hc2 hp
  refine zz 9 ?_
  refine zr' (v := .int .i64 3) ?_
  have hob := Option.some.inj hp
  subst hob
  exact ⟨C0.upd, _, rfl, rfl⟩
 have hp := iqb hc2 hp
 refine zz 9 ?_
 refine zt 11 (p := (p0.length : Int) > 4) (fun ht3 => ?_) (fun ht3 => ?_)
 ·
  have hp := ip ht3 hp
  refine zz 9 ?_
  refine zr' (v := .int .i64 4) ?_
  have hob := Option.some.inj hp
  subst hob
  exact ⟨C0.upd, _, rfl, rfl⟩
 have hp := iq ht3 hp
 refine zz 4 ?_
 have hob := ltd0 hp
 obtain ⟨J4, hJ4, hp⟩ := hob
 refine zjoin (fun (_ : Unit) => [(0, .slice p0a1 p0.length p0a2)]) (fun (_ : Unit) w1 => ∃ Y1 : Hid, St E0 w X w1 Y1 [] ∧ Le (rd w X) (rd w1 Y1) ∧ J4 = some y) ?_ ?_
 ·
  rintro _ w4 ⟨Y4, C4, B4, hp⟩
  have hp := hJ4.symm.trans hp
  refine zz 4 ?_
  refine bndk hp fun y6 hy6 hp => ?_
  refine zc C4 (interp_size_c _ X0 (X0_lt _) p0 _ ⟨_, _, rfl, ((p0a_h0.mono B4).mono Le.x0)⟩ y6 hy6) ?_
  rintro v7 w7 C7 B7 hu7 rfl
  refine zz 3 ?_
  refine zt 59 (p := (y6) > 256) (fun ht8 => ?_) (fun ht8 => ?_)
  ·
   have hp := ip ht8 hp
   refine zz 8 ?_
   refine zr' (v := .int .i64 10) ?_
   have hob := Option.some.inj hp
   subst hob
   exact ⟨C7.upd, _, rfl, rfl⟩
  have hp := iq ht8 hp
  refine zz 9 ?_
  refine zr' (v := .int .i64 0) ?_
  have hob := Option.some.inj hp
  subst hob
  exact ⟨C7.upd, _, rfl, rfl⟩
 intro K9 H9
 refine zz 8 ?_
 have hb10 : (p0.length : Int) ≤ 9223372036854775807 := lenb (p0a_h0).hcap (p0a_h0).hbig
 refine zlp Tryz.f59 [K9] [1, 1, 9, 1, 0] (fun (k10 : Nat) => [(0, .slice p0a1 p0.length p0a2), (15, .slice p0a1 p0.length p0a2), (16, .int .i64 (p0.length : Int)), (17, .int .i64 (k10 : Int))]) (fun (k10 : Nat) w1 => ∃ Y1 : Hid, St E0 w X w1 Y1 [] ∧ Le (rd w X) (rd w1 Y1) ∧ interp_Check_l10 J4 (p0.drop k10)  = some y) (fun (k10 : Nat) => p0.length - k10) 0 ?_ ?_
 ·
  exact ⟨_, C0, Le.refl _, hp⟩
 rintro k10 w10 K10 H10 ⟨Y10, C10, B10, hp⟩
 refine zz 6 ?_
 refine zt 18 (p := (k10 : Int) < (p0.length : Int)) (fun ht11 => ?_) (fun ht11 => ?_)
 ·
  have hob := get_lt (l := p0) (k := k10) (lt_of_int ht11)
  obtain ⟨x10, hqx10⟩ := hob
  rw [dropC hqx10, interp_Check_l10] at hp
  have hzx10 : (0 : Int) ≤ (k10 : Int) := Int.natCast_nonneg _
  refine zz 3 ?_
  have hob := ltd0 hp
  obtain ⟨J12, hJ12, hp⟩ := hob
  refine zjoin (fun (_ : Unit) => [(0, .slice p0a1 p0.length p0a2), (15, .slice p0a1 p0.length p0a2), (16, .int .i64 (p0.length : Int)), (17, .int .i64 (k10 : Int))]) (fun (_ : Unit) w1 => ∃ Y1 : Hid, St E0 w X w1 Y1 [] ∧ Le (rd w10 Y10) (rd w1 Y1) ∧ J12 = some y) ?_ ?_
  ·
   rintro _ w12 ⟨Y12, C12, B12, hp⟩
   have hp := hJ12.symm.trans hp
   refine zz 2 ?_
   refine zs 56 (v := .int .i64 (IntKind.i64.wrap ((k10 : Int) + 1))) (v' := .int .i64 ((k10 : Int) + 1)) (vint (wi64 (wk0 k10) (wk1 ht11 hb10))) ?_
   refine zz 2 ?_
   refine znext (fun a h => H10 (k10 + 1) _ a h ⟨_, C12, (Le2 B10 B12), hp⟩ ?_)
   exact mu_lt ht11
  intro K13 H13
  refine zz 3 ?_
  have hob := p0a_h0.opn hqx10
  obtain ⟨be14, oe14, rfl, B14, hEe14⟩ := hob
  obtain ⟨e141, e142, e14_at, e14_h0⟩ := hEe14
  refine zi (b := be14) (off := oe14) (len := p0.length) (cap := p0a2) (kd := .i64) (i := (k10 : Int)) 1 (oe14 + k10 * 1) ?_ (h0 := hzx10) (h1 := (ix_b hzx10 B14))
  refine zl ((e14_at.mono B10)).cells ?_
  refine zz 13 ?_
  refine zb 21 (b := ((x10.length : Int) == 0)) (fun hc15 => ?_) (fun hc15 => ?_)
  ·
   have hp := ipb hc15 hp
   refine zz 14 ?_
   refine zr' (v := .int .i64 3) ?_
   have hob := Option.some.inj hp
   subst hob
   exact ⟨C10.upd, _, rfl, rfl⟩
  have hp := iqb hc15 hp
  refine zz 9 ?_
  refine zt 25 (p := (x10.length : Int) > 32) (fun ht16 => ?_) (fun ht16 => ?_)
  ·
   have hp := ip ht16 hp
   refine zz 14 ?_
   refine zr' (v := .int .i64 4) ?_
   have hob := Option.some.inj hp
   subst hob
   exact ⟨C10.upd, _, rfl, rfl⟩
  have hp := iq ht16 hp
  refine zz 12 ?_
  have hb17 : (x10.length : Int) ≤ 9223372036854775807 := lenb (e14_h0).hcap (e14_h0).hbig
  refine zlp Tryz.f59 [K9, K10, K13] [1, 1, 9, 1, 0, 0, 1, 1, 9, 0, 1, 1, 1, 0] (fun (k17 : Nat) => [(0, .slice (some ⟨be14, oe14, none⟩) p0.length p0a2), (4, .slice e141 x10.length e142), (15, .slice (some ⟨be14, oe14, none⟩) p0.length p0a2), (16, .int .i64 (p0.length : Int)), (17, .int .i64 (k10 : Int)), (29, .slice e141 x10.length e142), (30, .int .i64 (x10.length : Int)), (31, .int .i64 (k17 : Int))]) (fun (k17 : Nat) w1 => ∃ Y1 : Hid, St E0 w X w1 Y1 [] ∧ Le (rd w10 Y10) (rd w1 Y1) ∧ interp_Check_l17 x10 J12 (x10.drop k17) k17 = some y) (fun (k17 : Nat) => x10.length - k17) 0 ?_ ?_
  ·
   exact ⟨_, C10, Le.refl _, hp⟩
  rintro k17 w17 K17 H17 ⟨Y17, C17, B17, hp⟩
  refine zz 6 ?_
  refine zt 32 (p := (k17 : Int) < (x10.length : Int)) (fun ht18 => ?_) (fun ht18 => ?_)
  ·
   have hob := get_lt (l := x10) (k := k17) (lt_of_int ht18)
   obtain ⟨x17, hqx17⟩ := hob
   rw [dropC hqx17, interp_Check_l17] at hp
   have hzx17 : (0 : Int) ≤ (k17 : Int) := Int.natCast_nonneg _
   refine zz 8 ?_
   have hob := e14_h0.opn hqx17
   obtain ⟨be19, oe19, rfl, B19, hEe19⟩ := hob
   have hAe19 : At (rd w X) ⟨be19, oe19 + k17 * 1, none⟩ [.int .i64 x17] := hEe19
   refine zi (b := be19) (off := oe19) (len := x10.length) (cap := e142) (kd := .i64) (i := (k17 : Int)) 1 (oe19 + k17 * 1) ?_ (h0 := hzx17) (h1 := (ix_b hzx17 B19))
   refine zl ((hAe19.mono (Le2 B10 B17))).cells ?_
   refine zz 9 ?_
   refine zt 38 (p := (x17) < (-1073741824)) (fun ht20 => ?_) (fun ht20 => ?_)
   ·
    have hp := ip ht20 hp
    refine zz 34 ?_
    refine zr' (v := .int .i64 1) ?_
    have hob := Option.some.inj hp
    subst hob
    exact ⟨C17.upd, _, rfl, rfl⟩
   have hp := iq ht20 hp
   refine zz 4 ?_
   refine zt 42 (p := (x17) > 1073741824) (fun ht21 => ?_) (fun ht21 => ?_)
   ·
    have hp := ip ht21 hp
    refine zz 30 ?_
    refine zr' (v := .int .i64 1) ?_
    have hob := Option.some.inj hp
    subst hob
    exact ⟨C17.upd, _, rfl, rfl⟩
   have hp := iq ht21 hp
   refine zz 3 ?_
   refine zt 45 (p := (k17 : Int) > 0) (fun ht22 => ?_) (fun ht22 => ?_)
   ·
    have hp := ip ht22 hp
    refine zz 4 ?_
    refine bndk hp fun x23 hx23 hp => ?_
    have hob := ix_some hx23
    obtain ⟨hzx23, hqx23⟩ := hob
    have hob := e14_h0.opn2 hqx23
    obtain ⟨B24, hEe24⟩ := hob
    have hAe24 : At (rd w X) ⟨be19, oe19 + (IntKind.i64.wrap ((k17 : Int) - 1)).toNat * 1, none⟩ [.int .i64 x23] := hEe24
    refine zi (b := be19) (off := oe19) (len := x10.length) (cap := e142) (kd := .i64) (i := IntKind.i64.wrap ((k17 : Int) - 1)) 1 (oe19 + (IntKind.i64.wrap ((k17 : Int) - 1)).toNat * 1) ?_ (h0 := hzx23) (h1 := (ix_b hzx23 B24))
    refine zl ((hAe24.mono (Le2 B10 B17))).cells ?_
    refine zz 5 ?_
    refine zt 54 (p := (x17) ≤ x23) (fun ht25 => ?_) (fun ht25 => ?_)
    ·
     have hp := ip ht25 hp
     refine zz 16 ?_
     refine zr' (v := .int .i64 1) ?_
     have hob := Option.some.inj hp
     subst hob
     exact ⟨C17.upd, _, rfl, rfl⟩
    have hp := iq ht25 hp
    refine zz 6 ?_
    refine zs 55 (v := .int .i64 (IntKind.i64.wrap ((k17 : Int) + 1))) (v' := .int .i64 ((k17 : Int) + 1)) (vint (wi64 (wk0 k17) (wk1 ht18 hb17))) ?_
    refine zz 2 ?_
    refine znext (fun a h => H17 (k17 + 1) _ a h ⟨_, C17, B17, hp⟩ ?_)
    exact mu_lt ht18
   have hp := iq ht22 hp
   refine zz 17 ?_
   refine zs 55 (v := .int .i64 (IntKind.i64.wrap ((k17 : Int) + 1))) (v' := .int .i64 ((k17 : Int) + 1)) (vint (wi64 (wk0 k17) (wk1 ht18 hb17))) ?_
   refine zz 2 ?_
   refine znext (fun a h => H17 (k17 + 1) _ a h ⟨_, C17, B17, hp⟩ ?_)
   exact mu_lt ht18
  rw [List.drop_eq_nil_of_le (nlt_of_int ht18), interp_Check_l17] at hp
  refine zz 6 ?_
  exact znext (fun a h => H13 () _ a h ⟨_, C17, B17, hp⟩)
 rw [List.drop_eq_nil_of_le (nlt_of_int ht11), interp_Check_l10] at hp
 refine zz 5 ?_
 exact znext (fun a h => H9 () _ a h ⟨_, C10, B10, hp⟩)
noncomputable def dynamics_grid_p (p0 : ModelD) : Option ((List (List Int))) :=
  some ([p0.height, p0.own, p0.other])
theorem dynamics_grid_c (w : World) (X : Hid) (hX : ∀ k o, X k o → k < w.heap.size) (p0 : ModelD) (vp0 : Value) (hp0 : ModelDV (rd w X) vp0 p0) (y : (List (List Int))) (hp : dynamics_grid_p p0 = some y) : Calls Tryz.prog 60 #[vp0] w (Ret E0 w fun w' v => SV IntsS (rd w' X) v y) := by
 have hVp0 := hp0
 refine ModelDV.op hp0 fun p0a1 p0a2 p0a3 p0a4 p0a5 p0a6 p0a7 p0a8 p0a9 p0a10 p0a11 p0a12 p0a13 p0a14 p0a15 p0a16 p0a17 p0a18 p0a19 p0a20 p0a21 p0a22 p0a23 p0a24 hv9 p0a_h0 p0a_h1 p0a_h2 p0a_h3 p0a_h4 p0a_h5 p0a_h6 p0a_h7 p0a_h8 p0a_h9 p0a_h10 p0a_h11 => ?_
 subst hv9
 unfold dynamics_grid_p at hp
 refine zen Tryz.func60 ?_
 have C0 : St E0 w X w X [] := St.start hX
 refine zz 2 ?_
 refine zn pn (.cells #[.slice p0a1 p0.height.length p0a2, .slice p0a3 p0.own.length p0a4, .slice p0a5 p0.other.length p0a6, .slice p0a7 p0.advisories.length p0a8, .int .i64 p0.pull, .int .i64 p0.near, .int .i64 p0.steps, .slice p0a9 p0.ownNoise.length p0a10, .slice p0a11 p0.otherNoise.length p0a12, .bool p0.alert.neg, .slice p0a13 p0.alert.ln.length p0a14, .slice p0a15 p0.alert.ld.length p0a16, .bool p0.strengthen.neg, .slice p0a17 p0.strengthen.ln.length p0a18, .slice p0a19 p0.strengthen.ld.length p0a20, .bool p0.reversal.neg, .slice p0a21 p0.reversal.ln.length p0a22, .slice p0a23 p0.reversal.ld.length p0a24] 30 (0, 0)) C0 ?_
 intro b3 w3 Y3 C3 B3 hu3
 refine zz 6 ?_
 refine zo 0 C3 ?_
 refine zz 1 ?_
 refine zo 0 C3 ?_
 refine zz 1 ?_
 refine zo 0 C3 ?_
 refine zn (fun b => .slice (some ⟨b, 0, none⟩) 3 3) (.cells #[.slice p0a1 p0.height.length p0a2, .slice p0a3 p0.own.length p0a4, .slice p0a5 p0.other.length p0a6] 22 (0, 0)) C3 ?_
 intro b5 w5 Y5 C5 B5 hu5
 refine zz 4 ?_
 refine zr' (v := .slice (some ⟨b5, 0, none⟩) 3 3) ?_
 have hob := St.pubAt 0 C5 rfl
 obtain ⟨Y6, hSx6, B6, hat6, hatN6⟩ := hob
 have C6 : St E0 w X w5 Y6 [(b3, .cells #[.slice p0a1 p0.height.length p0a2, .slice p0a3 p0.own.length p0a4, .slice p0a5 p0.other.length p0a6, .slice p0a7 p0.advisories.length p0a8, .int .i64 p0.pull, .int .i64 p0.near, .int .i64 p0.steps, .slice p0a9 p0.ownNoise.length p0a10, .slice p0a11 p0.otherNoise.length p0a12, .bool p0.alert.neg, .slice p0a13 p0.alert.ln.length p0a14, .slice p0a15 p0.alert.ld.length p0a16, .bool p0.strengthen.neg, .slice p0a17 p0.strengthen.ln.length p0a18, .slice p0a19 p0.strengthen.ld.length p0a20, .bool p0.reversal.neg, .slice p0a21 p0.reversal.ln.length p0a22, .slice p0a23 p0.reversal.ld.length p0a24] 30 (0, 0))] := hSx6
 have hR6 : IntsS (rd w5 Y6) (some ⟨b5, 0, none⟩) 3 3 [p0.height, p0.own, p0.other] := (SlR.lit (El := IntsAt) (size := 1) (n := 3) [⟨p0.height, [.slice p0a1 p0.height.length p0a2]⟩, ⟨p0.own, [.slice p0a3 p0.own.length p0a4]⟩, ⟨p0.other, [.slice p0a5 p0.other.length p0a6]⟩] hat6 (List.forall_mem_cons.2 ⟨⟨rfl, fun r2 h2 b o h9 => ⟨_, _, h9, ((p0a_h0.mono (Le3 B3 B5 B6)).mono h2)⟩⟩, (List.forall_mem_cons.2 ⟨⟨rfl, fun r2 h2 b o h9 => ⟨_, _, h9, ((p0a_h1.mono (Le3 B3 B5 B6)).mono h2)⟩⟩, (List.forall_mem_cons.2 ⟨⟨rfl, fun r2 h2 b o h9 => ⟨_, _, h9, ((p0a_h2.mono (Le3 B3 B5 B6)).mono h2)⟩⟩, (List.forall_mem_nil _)⟩)⟩)⟩) rfl (by decide))
 have hob := Option.some.inj hp
 subst hob
 exact ⟨C6.upd, _, rfl, ⟨_, _, rfl, (hR6).mono C6.le⟩⟩
noncomputable def dynamics_size_p (p0 : ModelD) : Option (Int) :=
  (some (IntKind.i64.wrap ((IntKind.i64.wrap ((p0.height.length : Int) * (p0.own.length : Int))) * (p0.other.length : Int)))).bind fun z4 => some (IntKind.i64.wrap ((z4) * (p0.advisories.length : Int)))
theorem dynamics_size_c (w : World) (X : Hid) (hX : ∀ k o, X k o → k < w.heap.size) (p0 : ModelD) (vp0 : Value) (hp0 : ModelDV (rd w X) vp0 p0) (y : Int) (hp : dynamics_size_p p0 = some y) : Calls Tryz.prog 52 #[vp0] w (Ret E0 w fun _ v => v = .int .i64 y) := by
 have hVp0 := hp0
 refine ModelDV.op hp0 fun p0a1 p0a2 p0a3 p0a4 p0a5 p0a6 p0a7 p0a8 p0a9 p0a10 p0a11 p0a12 p0a13 p0a14 p0a15 p0a16 p0a17 p0a18 p0a19 p0a20 p0a21 p0a22 p0a23 p0a24 hv9 p0a_h0 p0a_h1 p0a_h2 p0a_h3 p0a_h4 p0a_h5 p0a_h6 p0a_h7 p0a_h8 p0a_h9 p0a_h10 p0a_h11 => ?_
 subst hv9
 unfold dynamics_size_p at hp
 refine zen Tryz.func52 ?_
 have C0 : St E0 w X w X [] := St.start hX
 refine zz 2 ?_
 refine zn pn (.cells #[.slice p0a1 p0.height.length p0a2, .slice p0a3 p0.own.length p0a4, .slice p0a5 p0.other.length p0a6, .slice p0a7 p0.advisories.length p0a8, .int .i64 p0.pull, .int .i64 p0.near, .int .i64 p0.steps, .slice p0a9 p0.ownNoise.length p0a10, .slice p0a11 p0.otherNoise.length p0a12, .bool p0.alert.neg, .slice p0a13 p0.alert.ln.length p0a14, .slice p0a15 p0.alert.ld.length p0a16, .bool p0.strengthen.neg, .slice p0a17 p0.strengthen.ln.length p0a18, .slice p0a19 p0.strengthen.ld.length p0a20, .bool p0.reversal.neg, .slice p0a21 p0.reversal.ln.length p0a22, .slice p0a23 p0.reversal.ld.length p0a24] 30 (0, 0)) C0 ?_
 intro b3 w3 Y3 C3 B3 hu3
 refine zz 6 ?_
 refine zo 0 C3 ?_
 refine zz 2 ?_
 refine zo 0 C3 ?_
 refine zz 3 ?_
 refine zo 0 C3 ?_
 refine bndk hp fun z4 hz4 hp => ?_
 refine zz 2 ?_
 refine zs 13 (v := .int .i64 (IntKind.i64.wrap ((IntKind.i64.wrap ((p0.height.length : Int) * (p0.own.length : Int))) * (p0.other.length : Int)))) (v' := .int .i64 z4) (vint (Option.some.inj hz4)) ?_
 refine zz 1 ?_
 refine zo 0 C3 ?_
 refine zz 6 ?_
 refine zr' (v := .int .i64 (IntKind.i64.wrap ((z4) * (p0.advisories.length : Int)))) ?_
 have hob := Option.some.inj hp
 subst hob
 exact ⟨C3.upd, _, rfl, rfl⟩
noncomputable def dynamics_span_has_1_p (p0 : Int) (p1 : SpanD) : Option (Bool) :=
  if (p0) < p1.lo then (some true) else (some (decide ((p0) > p1.hi)))
theorem dynamics_span_has_1_c (w : World) (X : Hid) (hX : ∀ k o, X k o → k < w.heap.size) (p0 : Int) (p1 : SpanD) (bp1 : Nat) (hp1 : SpanDAt (rd w X) ⟨bp1, 0, none⟩ p1) (y : Bool) (hp : dynamics_span_has_1_p p0 p1 = some y) : Calls Tryz.prog 100 #[.int .i64 p0, .pointer (some ⟨bp1, 0, none⟩)] w (Ret E0 w fun _ v => v = .bool y) := by
 have p1a_at : At (rd w X) ⟨bp1, 0, none⟩ [.int .i64 p1.lo, .int .i64 p1.hi] := hp1
 unfold dynamics_span_has_1_p at hp
 refine zen Tryz.func100 ?_
 have C0 : St E0 w X w X [] := St.start hX
 refine zz 9 ?_
 refine zl (p1a_at.sub 0 1).cells ?_
 refine zz 2 ?_
 refine zt 8 (p := (p0) < p1.lo) (fun ht2 => ?_) (fun ht2 => ?_)
 ·
  have hp := ip ht2 hp
  refine zz 9 ?_
  refine zr' (v := .bool true) ?_
  have hob := Option.some.inj hp
  subst hob
  exact ⟨C0.upd, _, rfl, rfl⟩
 have hp := iq ht2 hp
 refine zz 2 ?_
 refine zl (p1a_at.sub 1 1).cells ?_
 refine zz 6 ?_
 refine zr' (v := .bool (decide ((p0) > p1.hi))) ?_
 have hob := Option.some.inj hp
 subst hob
 exact ⟨C0.upd, _, rfl, rfl⟩
noncomputable def slices_IndexFunc_int_int_sdynamics_span_has_1_l4 (p1q0 : SpanD) (J2 : Option (Int)) : List Int → Nat → Option (Int)
  | [], k4 => J2
  | x4 :: r4, k4 => (dynamics_span_has_1_p (x4) p1q0).bind fun y8 => if y8 = true then (some (k4 : Int)) else (slices_IndexFunc_int_int_sdynamics_span_has_1_l4 p1q0 J2 r4 (k4 + 1))
noncomputable def slices_IndexFunc_int_int_sdynamics_span_has_1_p (p0 : List Int) (p1q0 : SpanD) : Option (Int) :=
  lt (some (-1)) fun J2 => slices_IndexFunc_int_int_sdynamics_span_has_1_l4 p1q0 J2 (p0.drop 0) 0
theorem slices_IndexFunc_int_int_sdynamics_span_has_1_c (w : World) (X : Hid) (hX : ∀ k o, X k o → k < w.heap.size) (p0 : List Int) (vp0 : Value) (hp0 : SV Ints (rd w X) vp0 p0) (p1q0 : SpanD) (bp1q0 : Nat) (hp1q0 : SpanDAt (rd w X) ⟨bp1q0, 0, none⟩ p1q0) (y : Int) (hp : slices_IndexFunc_int_int_sdynamics_span_has_1_p p0 p1q0 = some y) : Calls Tryz.prog 138 #[vp0, .func (.func 100) #[] #[.pointer (some ⟨bp1q0, 0, none⟩)]] w (Ret E0 w fun _ v => v = .int .i64 y) := by
 obtain ⟨p0a1, p0a2, rfl, p0a_h0⟩ := hp0
 have p1q0a_at : At (rd w X) ⟨bp1q0, 0, none⟩ [.int .i64 p1q0.lo, .int .i64 p1q0.hi] := hp1q0
 unfold slices_IndexFunc_int_int_sdynamics_span_has_1_p at hp
 refine zen Tryz.func138 ?_
 have C0 : St E0 w X w X [] := St.start hX
 refine zz 5 ?_
 have hob := ltd0 hp
 obtain ⟨J2, hJ2, hp⟩ := hob
 refine zjoin (fun (_ : Unit) => []) (fun (_ : Unit) w1 => ∃ Y1 : Hid, St E0 w X w1 Y1 [] ∧ Le (rd w X) (rd w1 Y1) ∧ J2 = some y) ?_ ?_
 ·
  rintro _ w2 ⟨Y2, C2, B2, hp⟩
  have hp := hJ2.symm.trans hp
  refine zz 6 ?_
  refine zr' (v := .int .i64 (-1)) ?_
  have hob := Option.some.inj hp
  subst hob
  exact ⟨C2.upd, _, rfl, rfl⟩
 intro K3 H3
 refine zz 8 ?_
 have hb4 : (p0.length : Int) ≤ 9223372036854775807 := lenb (p0a_h0).hcap (p0a_h0).hbig
 refine zlp Tryz.f138 [K3] [1, 9, 1, 0] (fun (k4 : Nat) => [(0, .slice p0a1 p0.length p0a2), (1, .func (.func 100) #[] #[.pointer (some ⟨bp1q0, 0, none⟩)]), (7, .int .i64 (p0.length : Int)), (8, .int .i64 (k4 : Int))]) (fun (k4 : Nat) w1 => ∃ Y1 : Hid, St E0 w X w1 Y1 [] ∧ Le (rd w X) (rd w1 Y1) ∧ slices_IndexFunc_int_int_sdynamics_span_has_1_l4 p1q0 J2 (p0.drop k4) k4 = some y) (fun (k4 : Nat) => p0.length - k4) 0 ?_ ?_
 ·
  exact ⟨_, C0, Le.refl _, hp⟩
 rintro k4 w4 K4 H4 ⟨Y4, C4, B4, hp⟩
 refine zz 6 ?_
 refine zt 9 (p := (k4 : Int) < (p0.length : Int)) (fun ht5 => ?_) (fun ht5 => ?_)
 ·
  have hob := get_lt (l := p0) (k := k4) (lt_of_int ht5)
  obtain ⟨x4, hqx4⟩ := hob
  rw [dropC hqx4, slices_IndexFunc_int_int_sdynamics_span_has_1_l4] at hp
  have hzx4 : (0 : Int) ≤ (k4 : Int) := Int.natCast_nonneg _
  refine zz 16 ?_
  have hob := p0a_h0.opn hqx4
  obtain ⟨be6, oe6, rfl, B6, hEe6⟩ := hob
  have hAe6 : At (rd w X) ⟨be6, oe6 + k4 * 1, none⟩ [.int .i64 x4] := hEe6
  refine zi (b := be6) (off := oe6) (len := p0.length) (cap := p0a2) (kd := .i64) (i := (k4 : Int)) 1 (oe6 + k4 * 1) ?_ (h0 := hzx4) (h1 := (ix_b hzx4 B6))
  refine zl ((hAe6.mono B4)).cells ?_
  refine bndk hp fun y8 hy8 hp => ?_
  refine zc C4 (dynamics_span_has_1_c _ X0 (X0_lt _) (x4) p1q0 _ ((p1q0a_at.mono B4).mono Le.x0) y8 hy8) ?_
  rintro v9 w9 C9 B9 hu9 rfl
  refine zz 2 ?_
  refine zb 16 (b := y8) (fun hc10 => ?_) (fun hc10 => ?_)
  ·
   have hp := ipb hc10 hp
   refine zz 13 ?_
   refine zr' (v := .int .i64 (k4 : Int)) ?_
   have hob := Option.some.inj hp
   subst hob
   exact ⟨C9.upd, _, rfl, rfl⟩
  have hp := iqb hc10 hp
  refine zz 6 ?_
  refine zs 18 (v := .int .i64 (IntKind.i64.wrap ((k4 : Int) + 1))) (v' := .int .i64 ((k4 : Int) + 1)) (vint (wi64 (wk0 k4) (wk1 ht5 hb4))) ?_
  refine zz 2 ?_
  refine znext (fun a h => H4 (k4 + 1) _ a h ⟨_, C9, (Le2 B4 B9), hp⟩ ?_)
  exact mu_lt ht5
 rw [List.drop_eq_nil_of_le (nlt_of_int ht5), slices_IndexFunc_int_int_sdynamics_span_has_1_l4] at hp
 refine zz 5 ?_
 exact znext (fun a h => H3 () _ a h ⟨_, C4, B4, hp⟩)
noncomputable def slices_ContainsFunc_int_int_sdynamics_span_has_1_p (p0 : List Int) (p1q0 : SpanD) : Option (Bool) :=
  (slices_IndexFunc_int_int_sdynamics_span_has_1_p p0 p1q0).bind fun y3 => some (decide ((y3) ≥ 0))
theorem slices_ContainsFunc_int_int_sdynamics_span_has_1_c (w : World) (X : Hid) (hX : ∀ k o, X k o → k < w.heap.size) (p0 : List Int) (vp0 : Value) (hp0 : SV Ints (rd w X) vp0 p0) (p1q0 : SpanD) (bp1q0 : Nat) (hp1q0 : SpanDAt (rd w X) ⟨bp1q0, 0, none⟩ p1q0) (y : Bool) (hp : slices_ContainsFunc_int_int_sdynamics_span_has_1_p p0 p1q0 = some y) : Calls Tryz.prog 99 #[vp0, .func (.func 100) #[] #[.pointer (some ⟨bp1q0, 0, none⟩)]] w (Ret E0 w fun _ v => v = .bool y) := by
 obtain ⟨p0a1, p0a2, rfl, p0a_h0⟩ := hp0
 have p1q0a_at : At (rd w X) ⟨bp1q0, 0, none⟩ [.int .i64 p1q0.lo, .int .i64 p1q0.hi] := hp1q0
 unfold slices_ContainsFunc_int_int_sdynamics_span_has_1_p at hp
 refine zen Tryz.func99 ?_
 have C0 : St E0 w X w X [] := St.start hX
 refine zz 9 ?_
 refine bndk hp fun y3 hy3 hp => ?_
 refine zc C0 (slices_IndexFunc_int_int_sdynamics_span_has_1_c _ X0 (X0_lt _) p0 _ ⟨_, _, rfl, (p0a_h0.mono Le.x0)⟩ p1q0 _ (p1q0a_at.mono Le.x0) y3 hy3) ?_
 rintro v4 w4 C4 B4 hu4 rfl
 refine zz 5 ?_
 refine zr' (v := .bool (decide ((y3) ≥ 0))) ?_
 have hob := Option.some.inj hp
 subst hob
 exact ⟨C4.upd, _, rfl, rfl⟩
noncomputable def dynamics_span_has_p (p0 : SpanD) (p1 : List Int) : Option (Bool) :=
  (slices_ContainsFunc_int_int_sdynamics_span_has_1_p p1 p0).bind fun y5 => some (!y5)
theorem dynamics_span_has_c (w : World) (X : Hid) (hX : ∀ k o, X k o → k < w.heap.size) (p0 : SpanD) (vp0 : Value) (hp0 : SpanDV (rd w X) vp0 p0) (p1 : List Int) (vp1 : Value) (hp1 : SV Ints (rd w X) vp1 p1) (y : Bool) (hp : dynamics_span_has_p p0 p1 = some y) : Calls Tryz.prog 61 #[vp0, vp1] w (Ret E0 w fun _ v => v = .bool y) := by
 obtain rfl := hp0
 obtain ⟨p1a1, p1a2, rfl, p1a_h0⟩ := hp1
 unfold dynamics_span_has_p at hp
 refine zen Tryz.func61 ?_
 have C0 : St E0 w X w X [] := St.start hX
 refine zz 2 ?_
 refine zn pn (.cells #[.int .i64 p0.lo, .int .i64 p0.hi] 100 (0, 0)) C0 ?_
 intro b3 w3 Y3 C3 B3 hu3
 refine zz 7 ?_
 refine bndk hp fun y5 hy5 hp => ?_
 refine zc C3 (slices_ContainsFunc_int_int_sdynamics_span_has_1_c _ X0 (X0_lt _) p1 _ ⟨_, _, rfl, ((p1a_h0.mono B3).mono Le.x0)⟩ p0 _ (C3.at0 0 rfl rfl) y5 hy5) ?_ (vs := #[.slice p1a1 p1.length p1a2, .func (.func 100) #[] #[.pointer (some ⟨b3, 0, none⟩)]])
 rintro v6 w6 C6 B6 hu6 rfl
 refine zz 5 ?_
 refine zr' (v := .bool (!y5)) ?_
 have hob := Option.some.inj hp
 subst hob
 exact ⟨C6.upd, _, rfl, rfl⟩
noncomputable def dynamics_within_1_p (p0 : List Int) (p2 : Int) : Option (Bool) :=
  (dynamics_span_has_p (SpanD.mk (IntKind.i64.wrap ((0 : Int) - p2)) p2) p0).bind fun y3 => some y3
theorem dynamics_within_1_c (w : World) (X : Hid) (hX : ∀ k o, X k o → k < w.heap.size) (p0 : List Int) (vp0 : Value) (hp0 : SV Ints (rd w X) vp0 p0) (bp1 : Nat) (hp1 : FnAt (rd w X) ⟨bp1, 0, none⟩ 61) (p2 : Int) (bp2 : Nat) (hp2 : IntAt (rd w X) ⟨bp2, 0, none⟩ p2) (y : Bool) (hp : dynamics_within_1_p p0 p2 = some y) : Calls Tryz.prog 90 #[vp0, .pointer (some ⟨bp1, 0, none⟩), .pointer (some ⟨bp2, 0, none⟩)] w (Ret E0 w fun _ v => v = .bool y) := by
 obtain ⟨p0a1, p0a2, rfl, p0a_h0⟩ := hp0
 have hAp1 : At (rd w X) ⟨bp1, 0, none⟩ [.func (.func 61) #[] #[]] := hp1
 have hAp2 : At (rd w X) ⟨bp2, 0, none⟩ [.int .i64 p2] := hp2
 unfold dynamics_within_1_p at hp
 refine zen Tryz.func90 ?_
 have C0 : St E0 w X w X [] := St.start hX
 refine zz 7 ?_
 refine zl (hAp1).cells ?_
 refine zl (hAp2).cells ?_
 refine zz 1 ?_
 refine zl (hAp2).cells ?_
 refine zz 2 ?_
 refine bndk hp fun y3 hy3 hp => ?_
 refine zc C0 (dynamics_span_has_c _ X0 (X0_lt _) (SpanD.mk (IntKind.i64.wrap ((0 : Int) - p2)) p2) _ rfl p0 _ ⟨_, _, rfl, (p0a_h0.mono Le.x0)⟩ y3 hy3) ?_
 rintro v4 w4 C4 B4 hu4 rfl
 refine zz 4 ?_
 refine zr' (v := .bool y3) ?_
 have hob := Option.some.inj hp
 subst hob
 exact ⟨C4.upd, _, rfl, rfl⟩
noncomputable def dynamics_within_p (p0 : Int) : Option (Int) :=
  some p0
theorem dynamics_within_c (w : World) (X : Hid) (hX : ∀ k o, X k o → k < w.heap.size) (p0 : Int) (y : Int) (hp : dynamics_within_p p0 = some y) : Calls Tryz.prog 54 #[.int .i64 p0] w (Ret E0 w fun w' v => ∃ b0 b1, v = .func (.func 90) #[] #[.pointer (some ⟨b0, 0, none⟩), .pointer (some ⟨b1, 0, none⟩)] ∧ FnAt (rd w' (old w)) ⟨b0, 0, none⟩ 61 ∧ IntAt (rd w' (old w)) ⟨b1, 0, none⟩ y) := by
 unfold dynamics_within_p at hp
 refine zen Tryz.func54 ?_
 have C0 : St E0 w X w X [] := St.start hX
 refine zz 2 ?_
 refine zn pn (.cells #[.int .i64 p0] 3 (0, 0)) C0 ?_
 intro b3 w3 Y3 C3 B3 hu3
 refine zz 5 ?_
 refine zn pn (.cells #[.nilFunc] 125 (0, 0)) C3 ?_
 intro b5 w5 Y5 C5 B5 hu5
 refine zx 0 #[.func (.func 61) #[] #[]] C5 ?_
 intro w6 C6 B6
 refine zz 9 ?_
 refine zr' (v := .func (.func 90) #[] #[.pointer (some ⟨b5, 0, none⟩), .pointer (some ⟨b3, 0, none⟩)]) ?_
 have hob := St.pubAt 0 C6 rfl
 obtain ⟨Y7, hSx7, B7, hat7, hatN7⟩ := hob
 have C7 : St E0 w X w6 Y7 [(b3, .cells #[.int .i64 p0] 3 (0, 0))] := hSx7
 have hob := St.pubAt 0 C7 rfl
 obtain ⟨Y8, hSx8, B8, hat8, hatN8⟩ := hob
 have C8 : St E0 w X w6 Y8 [] := hSx8
 have hob := Option.some.inj hp
 subst hob
 exact ⟨C8.upd, _, rfl, ⟨_, _, rfl, (((hatN7 _ (Nat.le_refl _))).mono (Le.or B8 _)).mono Le.orr, (((hatN8 _ (Nat.le_refl _))).mono (Le.or (Le.refl _) _)).mono Le.orr⟩⟩
noncomputable def dynamics_checkRat_p (p0 : Raw) : Option (Int) :=
  (rat_Check_p p0).bind fun y5 => if ((y5) != 0) = true then (some y5) else (if (p0.ln.length : Int) > 8 then (some 4) else (if (p0.ld.length : Int) > 8 then (some 4) else (some 0)))
theorem dynamics_checkRat_c (w : World) (X : Hid) (hX : ∀ k o, X k o → k < w.heap.size) (p0 : Raw) (vp0 : Value) (hp0 : RawV (rd w X) vp0 p0) (y : Int) (hp : dynamics_checkRat_p p0 = some y) : Calls Tryz.prog 63 #[vp0] w (Ret E0 w fun _ v => v = .int .i64 y) := by
 have hVp0 := hp0
 obtain ⟨p0a1, p0a2, p0a3, p0a4, p0a5, p0a6, rfl, p0a_h0, p0a_h1⟩ := hp0
 have hob := p0a_h0.hlen
 subst hob
 have hob := p0a_h1.hlen
 subst hob
 unfold dynamics_checkRat_p at hp
 refine zen Tryz.func63 ?_
 have C0 : St E0 w X w X [] := St.start hX
 refine zz 2 ?_
 refine zn pn (.cells #[.bool p0.neg, .slice p0a1 p0.ln.length p0a3, .slice p0a4 p0.ld.length p0a6] 28 (0, 0)) C0 ?_
 intro b3 w3 Y3 C3 B3 hu3
 refine zz 6 ?_
 refine zo 0 C3 ?_
 refine bndk hp fun y5 hy5 hp => ?_
 refine zc C3 (rat_Check_c _ X0 (X0_lt _) p0 _ ((hVp0.mono B3).mono Le.x0) y5 hy5) ?_
 rintro v6 w6 C6 B6 hu6 rfl
 refine zz 9 ?_
 refine zb 7 (b := ((y5) != 0)) (fun hc7 => ?_) (fun hc7 => ?_)
 ·
  have hp := ipb hc7 hp
  refine zz 9 ?_
  refine zr' (v := .int .i64 y5) ?_
  have hob := Option.some.inj hp
  subst hob
  exact ⟨C6.upd, _, rfl, rfl⟩
 have hp := iqb hc7 hp
 refine zz 7 ?_
 refine zo 0 C6 ?_
 refine zz 3 ?_
 refine zt 13 (p := (p0.ln.length : Int) > 8) (fun ht8 => ?_) (fun ht8 => ?_)
 ·
  have hp := ip ht8 hp
  refine zz 15 ?_
  refine zr' (v := .int .i64 4) ?_
  have hob := Option.some.inj hp
  subst hob
  exact ⟨C6.upd, _, rfl, rfl⟩
 have hp := iq ht8 hp
 refine zz 1 ?_
 refine zo 0 C6 ?_
 refine zz 5 ?_
 refine zt 18 (p := (p0.ld.length : Int) > 8) (fun ht9 => ?_) (fun ht9 => ?_)
 ·
  have hp := ip ht9 hp
  refine zz 8 ?_
  refine zr' (v := .int .i64 4) ?_
  have hob := Option.some.inj hp
  subst hob
  exact ⟨C6.upd, _, rfl, rfl⟩
 have hp := iq ht9 hp
 refine zz 9 ?_
 refine zr' (v := .int .i64 0) ?_
 have hob := Option.some.inj hp
 subst hob
 exact ⟨C6.upd, _, rfl, rfl⟩
noncomputable def dynamics_checkNoise_l17 (p0 : List NoiseD) (J7 : Raw → Option (Int)) : List NoiseD → Nat → Raw → Option (Int)
  | [], k17, v17_1 => J7 v17_1
  | x17 :: r17, k17, v17_1 => lt ((dynamics_checkRat_p x17.p).bind fun y25 => if ((y25) != 0) = true then (some y25) else (if x17.p.neg = true then (some 1) else (if ((x17.p.ln.length : Int) == 0) = true then (some 1) else ((rat_Add_p v17_1 x17.p).bind fun y31 => dynamics_checkNoise_l17 p0 J7 r17 (k17 + 1) y31.1)))) fun J23 => (dynamics_within_p (100 : Int)).bind fun y36 => (dynamics_within_1_p ([x17.delta]) y36).bind fun y40 => if (!y40) = true then (some 1) else (if (k17 : Int) > 0 then ((ix p0 (IntKind.i64.wrap ((k17 : Int) - 1))).bind fun x45 => if (x17.delta) ≤ x45.delta then (some 16) else (J23)) else (J23))
noncomputable def dynamics_checkNoise_p (p0 : List NoiseD) : Option (Int) :=
  if ((p0.length : Int) == 0) = true then (some 3) else (if (p0.length : Int) > 5 then (some 4) else (lt (fun (v7_0 : Raw) => (rat_From_p (1 : Int)).bind fun y9 => (rat_Cmp_p v7_0 y9).bind fun y12 => if ((y12.1) != 0) = true then (some 2) else (some 0)) fun J7 => dynamics_checkNoise_l17 p0 J7 (p0.drop 0) 0 Raw.zero))
theorem dynamics_checkNoise_c (w : World) (X : Hid) (hX : ∀ k o, X k o → k < w.heap.size) (p0 : List NoiseD) (vp0 : Value) (hp0 : SV NoiseDS (rd w X) vp0 p0) (y : Int) (hp : dynamics_checkNoise_p p0 = some y) : Calls Tryz.prog 62 #[vp0] w (Ret E0 w fun _ v => v = .int .i64 y) := by
 obtain ⟨p0a1, p0a2, rfl, p0a_h0⟩ := hp0
 unfold dynamics_checkNoise_p at hp
 refine zen Tryz.func62 ?_
 have C0 : St E0 w X w X [] := St.start hX
 refine zz 15 ?_
 refine zb 9 (b := ((p0.length : Int) == 0)) (fun hc2 => ?_) (fun hc2 => ?_)
 ·
  have hp := ipb hc2 hp
  refine zz 9 ?_
  refine zr' (v := .int .i64 3) ?_
  have hob := Option.some.inj hp
  subst hob
  exact ⟨C0.upd, _, rfl, rfl⟩
 have hp := iqb hc2 hp
 refine zz 9 ?_
 refine zt 13 (p := (p0.length : Int) > 5) (fun ht3 => ?_) (fun ht3 => ?_)
 ·
  have hp := ip ht3 hp
  refine zz 9 ?_
  refine zr' (v := .int .i64 4) ?_
  have hob := Option.some.inj hp
  subst hob
  exact ⟨C0.upd, _, rfl, rfl⟩
 have hp := iq ht3 hp
 refine zz 7 ?_
 refine zn pn (.cells #[.bool false, .slice none 0 0, .slice none 0 0] 28 (0, 0)) C0 ?_
 intro b5 w5 Y5 C5 B5 hu5
 refine zx 0 #[.bool false, .slice none 0 0, .slice none 0 0] C5 ?_
 intro w6 C6 B6
 refine zz 2 ?_
 have hob := ltd1 hp
 obtain ⟨J7, hJ7, hp⟩ := hob
 refine zjoin (fun ((v7_0, a7_0_1, a7_0_2, a7_0_3, a7_0_4) : Raw × (Option Addr) × Nat × (Option Addr) × Nat) => [(3, .pointer (some ⟨b5, 0, none⟩))]) (fun ((v7_0, a7_0_1, a7_0_2, a7_0_3, a7_0_4) : Raw × (Option Addr) × Nat × (Option Addr) × Nat) w1 => ∃ Y1 : Hid, St E0 w X w1 Y1 [(b5, .cells #[.bool v7_0.neg, .slice a7_0_1 v7_0.ln.length a7_0_2, .slice a7_0_3 v7_0.ld.length a7_0_4] 28 (0, 0))] ∧ Le (rd w6 Y5) (rd w1 Y1) ∧ Limbs (rd w1 (orN Y1 w.heap.size)) a7_0_1 v7_0.ln.length a7_0_2 v7_0.ln ∧ Limbs (rd w1 (orN Y1 w.heap.size)) a7_0_3 v7_0.ld.length a7_0_4 v7_0.ld ∧ J7 v7_0 = some y) ?_ ?_
 ·
  rintro ⟨v7_0, a7_0_1, a7_0_2, a7_0_3, a7_0_4⟩ w7 ⟨Y7, C7, B7, hfv7_0_0, hfv7_0_1, hp⟩
  have hp := (hJ7 _).symm.trans hp
  refine zz 2 ?_
  refine zdr C7 ?_
  refine gw 0 0 ?_
  refine bndk hp fun y9 hy9 hp => ?_
  refine gC 1 (fun w8 Y8 _ C8 B8 => (rat_From_c _ X0 (X0_lt _) (1 : Int) y9 hy9)) ?_
  rintro v10 w8 Y10 w10 C8 B10 ⟨u10_0_1, u10_0_2, u10_0_3, u10_0_4, u10_0_5, u10_0_6, rfl, u10_0__h0, u10_0__h1⟩
  have hob := u10_0__h0.hlen
  subst hob
  have hob := u10_0__h1.hlen
  subst hob
  refine bndk hp fun y12 hy12 hp => ?_
  refine gC 2 (fun w11 Y11 _ C11 B11 => (rat_Cmp_c _ X0 (X0_lt _) v7_0 _ ⟨_, _, _, _, _, _, rfl, (((hfv7_0_0.mono Le.orl).mono (Le2 B10 B11)).mono Le.x0), (((hfv7_0_1.mono Le.orl).mono (Le2 B10 B11)).mono Le.x0)⟩ y9 _ ⟨_, _, _, _, _, _, rfl, (((u10_0__h0.mono (Le.new C8.lt)).mono B11).mono Le.x0), (((u10_0__h1.mono (Le.new C8.lt)).mono B11).mono Le.x0)⟩ y12 hy12)) ?_
  rintro v13 w11 Y13 w13 C11 B13 rfl
  refine gz [3, 4, 5, 6, 7] ?_
  refine gend (fun w14 Y14 C14 B14 => ?_)
  refine zz 7 ?_
  refine zb 77 (b := ((y12.1) != 0)) (fun hc15 => ?_) (fun hc15 => ?_)
  ·
   have hp := ipb hc15 hp
   refine zz 8 ?_
   refine zr' (v := .int .i64 2) ?_
   have hob := Option.some.inj hp
   subst hob
   exact ⟨C14.upd, _, rfl, rfl⟩
  have hp := iqb hc15 hp
  refine zz 9 ?_
  refine zr' (v := .int .i64 0) ?_
  have hob := Option.some.inj hp
  subst hob
  exact ⟨C14.upd, _, rfl, rfl⟩
 intro K16 H16
 refine zz 8 ?_
 have hb17 : (p0.length : Int) ≤ 9223372036854775807 := lenb (p0a_h0).hcap (p0a_h0).hbig
 refine zlp Tryz.f62 [K16] [1, 1, 1, 9, 1, 0] (fun ((k17, v17_1, a17_1_1, a17_1_2, a17_1_3, a17_1_4) : Nat × Raw × (Option Addr) × Nat × (Option Addr) × Nat) => [(0, .slice p0a1 p0.length p0a2), (3, .pointer (some ⟨b5, 0, none⟩)), (18, .slice p0a1 p0.length p0a2), (19, .int .i64 (p0.length : Int)), (20, .int .i64 (k17 : Int))]) (fun ((k17, v17_1, a17_1_1, a17_1_2, a17_1_3, a17_1_4) : Nat × Raw × (Option Addr) × Nat × (Option Addr) × Nat) w1 => ∃ Y1 : Hid, St E0 w X w1 Y1 [(b5, .cells #[.bool v17_1.neg, .slice a17_1_1 v17_1.ln.length a17_1_2, .slice a17_1_3 v17_1.ld.length a17_1_4] 28 (0, 0))] ∧ Le (rd w6 Y5) (rd w1 Y1) ∧ Limbs (rd w1 (orN Y1 w.heap.size)) a17_1_1 v17_1.ln.length a17_1_2 v17_1.ln ∧ Limbs (rd w1 (orN Y1 w.heap.size)) a17_1_3 v17_1.ld.length a17_1_4 v17_1.ld ∧ dynamics_checkNoise_l17 p0 J7 (p0.drop k17) k17 v17_1 = some y) (fun ((k17, v17_1, a17_1_1, a17_1_2, a17_1_3, a17_1_4) : Nat × Raw × (Option Addr) × Nat × (Option Addr) × Nat) => p0.length - k17) (0, Raw.zero, none, 0, none, 0) ?_ ?_
 ·
  exact ⟨_, C6, Le.refl _, Limbs.nil0, Limbs.nil0, hp⟩
 rintro ⟨k17, v17_1, a17_1_1, a17_1_2, a17_1_3, a17_1_4⟩ w17 K17 H17 ⟨Y17, C17, B17, hfv17_1_0, hfv17_1_1, hp⟩
 refine zz 6 ?_
 refine zt 21 (p := (k17 : Int) < (p0.length : Int)) (fun ht18 => ?_) (fun ht18 => ?_)
 ·
  have hob := get_lt (l := p0) (k := k17) (lt_of_int ht18)
  obtain ⟨x17, hqx17⟩ := hob
  rw [dropC hqx17, dynamics_checkNoise_l17] at hp
  have hzx17 : (0 : Int) ≤ (k17 : Int) := Int.natCast_nonneg _
  refine zz 8 ?_
  have hob := p0a_h0.opn hqx17
  obtain ⟨be19, oe19, rfl, B19, hEe19⟩ := hob
  obtain ⟨e191, e192, e193, e194, e19_at, e19_h0, e19_h1⟩ := hEe19
  refine zi (b := be19) (off := oe19) (len := p0.length) (cap := p0a2) (kd := .i64) (i := (k17 : Int)) 4 (oe19 + k17 * 4) ?_ (h0 := hzx17) (h1 := (ix_b hzx17 B19))
  refine zl ((e19_at.mono (Le3 B5 B6 B17))).cells ?_
  refine zn pn (.cells #[.int .i64 0, .bool false, .slice none 0 0, .slice none 0 0] 76 (0, 0)) C17 ?_
  intro b21 w21 Y21 C21 B21 hu21
  refine zz 1 ?_
  refine zx 0 #[.int .i64 x17.delta, .bool x17.p.neg, .slice e191 x17.p.ln.length e192, .slice e193 x17.p.ld.length e194] C21 ?_
  intro w22 C22 B22
  refine zz 2 ?_
  have hob := ltd0 hp
  obtain ⟨J23, hJ23, hp⟩ := hob
  refine zjoin (fun (_ : Unit) => [(0, .slice (some ⟨be19, oe19, none⟩) p0.length p0a2), (3, .pointer (some ⟨b5, 0, none⟩)), (5, .pointer (some ⟨b21, 0, none⟩)), (18, .slice (some ⟨be19, oe19, none⟩) p0.length p0a2), (19, .int .i64 (p0.length : Int)), (20, .int .i64 (k17 : Int))]) (fun (_ : Unit) w1 => ∃ Y1 : Hid, St E0 w X w1 Y1 [(b21, .cells #[.int .i64 x17.delta, .bool x17.p.neg, .slice e191 x17.p.ln.length e192, .slice e193 x17.p.ld.length e194] 76 (0, 0)), (b5, .cells #[.bool v17_1.neg, .slice a17_1_1 v17_1.ln.length a17_1_2, .slice a17_1_3 v17_1.ld.length a17_1_4] 28 (0, 0))] ∧ Le (rd w22 Y21) (rd w1 Y1) ∧ J23 = some y) ?_ ?_
  ·
   rintro _ w23 ⟨Y23, C23, B23, hp⟩
   have hp := hJ23.symm.trans hp
   refine zz 4 ?_
   refine zo 0 C23 ?_
   have hc1_ := (Le5 B5 B6 B17 B21 B22).trans B23
   refine bndk hp fun y25 hy25 hp => ?_
   refine zc C23 (dynamics_checkRat_c _ X0 (X0_lt _) x17.p _ ⟨_, _, _, _, _, _, rfl, ((e19_h0.mono hc1_).mono Le.x0), ((e19_h1.mono hc1_).mono Le.x0)⟩ y25 hy25) ?_
   rintro v26 w26 C26 B26 hu26 rfl
   refine zz 9 ?_
   refine zb 50 (b := ((y25) != 0)) (fun hc27 => ?_) (fun hc27 => ?_)
   ·
    have hp := ipb hc27 hp
    refine zz 14 ?_
    refine zr' (v := .int .i64 y25) ?_
    have hob := Option.some.inj hp
    subst hob
    exact ⟨C26.upd, _, rfl, rfl⟩
   have hp := iqb hc27 hp
   refine zz 8 ?_
   refine zo 0 C26 ?_
   refine zz 1 ?_
   refine zb 55 (b := x17.p.neg) (fun hc28 => ?_) (fun hc28 => ?_)
   ·
    have hp := ipb hc28 hp
    refine zz 21 ?_
    refine zr' (v := .int .i64 1) ?_
    have hob := Option.some.inj hp
    subst hob
    exact ⟨C26.upd, _, rfl, rfl⟩
   have hp := iqb hc28 hp
   refine zz 2 ?_
   refine zo 0 C26 ?_
   refine zz 5 ?_
   refine zb 61 (b := ((x17.p.ln.length : Int) == 0)) (fun hc29 => ?_) (fun hc29 => ?_)
   ·
    have hp := ipb hc29 hp
    refine zz 13 ?_
    refine zr' (v := .int .i64 1) ?_
    have hob := Option.some.inj hp
    subst hob
    exact ⟨C26.upd, _, rfl, rfl⟩
   have hp := iqb hc29 hp
   refine zz 4 ?_
   refine zo 1 C26 ?_
   refine zz 1 ?_
   refine zo 0 C26 ?_
   have hc2_ := (Le3 B21 B22 B23).trans B26
   have hc3_ := hc1_.trans B26
   refine bndk hp fun y31 hy31 hp => ?_
   refine zc C26 (rat_Add_c _ X0 (X0_lt _) v17_1 _ ⟨_, _, _, _, _, _, rfl, (((hfv17_1_0.mono Le.orl).mono hc2_).mono Le.x0), (((hfv17_1_1.mono Le.orl).mono hc2_).mono Le.x0)⟩ x17.p _ ⟨_, _, _, _, _, _, rfl, ((e19_h0.mono hc3_).mono Le.x0), ((e19_h1.mono hc3_).mono Le.x0)⟩ y31 hy31) ?_
   rintro v32 w32 C32 B32 hu32 ⟨uu32_0, rfl, ⟨u32_0_1, u32_0_2, u32_0_3, u32_0_4, u32_0_5, u32_0_6, rfl, u32_0__h0, u32_0__h1⟩⟩
   have hob := u32_0__h0.hlen
   subst hob
   have hob := u32_0__h1.hlen
   subst hob
   refine zz 3 ?_
   refine zx 1 #[.bool y31.1.neg, .slice u32_0_1 y31.1.ln.length u32_0_3, .slice u32_0_4 y31.1.ld.length u32_0_6] C32 ?_
   intro w33 C33 B33
   refine zz 5 ?_
   refine zs 69 (v := .int .i64 (IntKind.i64.wrap ((k17 : Int) + 1))) (v' := .int .i64 ((k17 : Int) + 1)) (vint (wi64 (wk0 k17) (wk1 ht18 hb17))) ?_
   refine zz 2 ?_
   have hc4_ := (Le6 B17 B21 B22 B23 B26 B32).trans B33
   refine znext (fun a h => H17 (k17 + 1, y31.1, u32_0_1, u32_0_3, u32_0_4, u32_0_6) _ a h ⟨_, C33.tail, hc4_, (u32_0__h0.mono (Le.own C26.lt C26.upd.size B33)), (u32_0__h1.mono (Le.own C26.lt C26.upd.size B33)), hp⟩ ?_)
   exact mu_lt ht18
  intro K34 H34
  refine zz 2 ?_
  refine zdr C22 ?_
  refine gz [1] ?_
  refine gw 2 0 ?_
  refine gp (al 3 29 (fun b => .slice (some ⟨b, 0, none⟩) 1 1) (.cells #[.int .i64 x17.delta] 3 (0, 0))) ?_
  refine bndk hp fun y36 hy36 hp => ?_
  refine gC 0 (fun w35 Y35 _ C35 B35 => (dynamics_within_c _ X0 (X0_lt _) (100 : Int) y36 hy36)) ?_ (hPd := PdOk.nil.k)
  rintro v37 w35 Y37 w37 C35 B37 ⟨u37_0_b0, u37_0_b1, rfl, u37_0_h0, u37_0_h1⟩
  have hAu37_0_b0 : At (rd w37 Y37) ⟨u37_0_b0, 0, none⟩ [.func (.func 61) #[] #[]] := (At.mono (Le.new C35.lt) u37_0_h0)
  have hAu37_0_b1 : At (rd w37 Y37) ⟨u37_0_b1, 0, none⟩ [.int .i64 y36] := (At.mono (Le.new C35.lt) u37_0_h1)
  refine gs1 (fun b38 => ?_) PdOk.nil.k
  refine bndk hp fun y40 hy40 hp => ?_
  refine gC 4 (vs := #[.slice (some ⟨b38, 0, none⟩) 1 1, .pointer (some ⟨u37_0_b0, 0, none⟩), .pointer (some ⟨u37_0_b1, 0, none⟩)]) (fun w39 Y39 _ C39 B39 => (dynamics_within_1_c _ X0 (X0_lt _) ([x17.delta]) _ ⟨_, _, rfl, (SlR.lit (El := IntAt) (size := 1) (n := 1) [⟨(x17.delta : Int), [.int .i64 x17.delta]⟩] (C39.at0 0 rfl rfl) (List.forall_mem_cons.2 ⟨⟨rfl, fun r2 h2 b o h9 => h9⟩, (List.forall_mem_nil _)⟩) rfl (by decide))⟩ _ ((hAu37_0_b0.mono B39).mono Le.x0) y36 _ ((hAu37_0_b1.mono B39).mono Le.x0) y40 hy40)) ?_
  rintro v41 w39 Y41 w41 C39 B41 rfl
  refine gz [5, 6] ?_
  refine gend (fun w42 Y42 C42 B42 => ?_)
  refine zz 1 ?_
  refine zb 25 (b := !y40) (fun hc43 => ?_) (fun hc43 => ?_)
  ·
   have hp := ipb hc43 hp
   refine zz 14 ?_
   refine zr' (v := .int .i64 1) ?_
   have hob := Option.some.inj hp
   subst hob
   exact ⟨C42.upd, _, rfl, rfl⟩
  have hp := iqb hc43 hp
  refine zz 2 ?_
  refine zdr C42 ?_
  refine gz [0, 1, 2] ?_
  refine gt 35 (p := (k17 : Int) > 0) (fun ht44 => ?_) (fun ht44 => ?_)
  ·
   have hp := ip ht44 hp
   refine gz [3] ?_
   refine gw 4 1 ?_
   refine bndk hp fun x45 hx45 hp => ?_
   have hob := ix_some hx45
   obtain ⟨hzx45, hqx45⟩ := hob
   have hob := p0a_h0.opn2 hqx45
   obtain ⟨B46, hEe46⟩ := hob
   obtain ⟨e461, e462, e463, e464, e46_at, e46_h0, e46_h1⟩ := hEe46
   refine gz [5, 6, 7] ?_
   refine gi 8 (b := be19) (off := oe19) (len := p0.length) (cap := p0a2) (kd := .i64) (i := IntKind.i64.wrap ((k17 : Int) - 1)) 4 (oe19 + (IntKind.i64.wrap ((k17 : Int) - 1)).toNat * 4) ?_ (h0 := hzx45) (h1 := (ix_b hzx45 B46))
   have hc5_ := (Le7 B5 B6 B17 B21 B22 B37 B41).trans B42
   refine gz [9] ?_
   refine gl 10 ((e46_at.mono hc5_).sub 0 1) ?_
   refine gz [11, 12, 13] ?_
   refine gend (fun w47 Y47 C47 B47 => ?_)
   refine zz 1 ?_
   refine zt 32 (p := (x17.delta) ≤ x45.delta) (fun ht48 => ?_) (fun ht48 => ?_)
   ·
    have hp := ip ht48 hp
    refine zz 14 ?_
    refine zr' (v := .int .i64 16) ?_
    have hob := Option.some.inj hp
    subst hob
    exact ⟨C47.upd, _, rfl, rfl⟩
   have hp := iq ht48 hp
   refine zz 3 ?_
   have hc6_ := (Le3 B37 B41 B42).trans B47
   exact znext (fun a h => H34 () _ a h ⟨_, C47.tail, hc6_, hp⟩)
  have hp := iq ht44 hp
  refine gz [3, 4, 5, 6, 7, 8, 9, 10, 11, 12, 13] ?_
  refine gend (fun w49 Y49 C49 B49 => ?_)
  refine zz 4 ?_
  have hc7_ := (Le3 B37 B41 B42).trans B49
  exact znext (fun a h => H34 () _ a h ⟨_, C49.tail, hc7_, hp⟩)
 rw [List.drop_eq_nil_of_le (nlt_of_int ht18), dynamics_checkNoise_l17] at hp
 refine zz 5 ?_
 exact znext (fun a h => H16 (v17_1, a17_1_1, a17_1_2, a17_1_3, a17_1_4) _ a h ⟨_, C17, B17, (hfv17_1_0.mono (Le.or (Le.refl _) _)), (hfv17_1_1.mono (Le.or (Le.refl _) _)), hp⟩)
noncomputable def dynamics_Check_l62 (p0 : ModelD) (J54 : Option (Int)) : Nat → Nat → Option (Int)
  | 0, k62 => J54
  | r62 + 1, k62 => (ix ([p0.alert, p0.strengthen, p0.reversal]) (k62 : Int)).bind fun x65 => (dynamics_checkRat_p x65).bind fun y71 => if ((y71) != 0) = true then (some y71) else (if x65.neg = true then (some 1) else (dynamics_Check_l62 p0 J54 r62 (k62 + 1)))
noncomputable def dynamics_Check_l78 (p0 : ModelD) (J53 : Option (Int)) : Nat → Nat → Option (Int)
  | 0, k78 => J53
  | r78 + 1, k78 => (ix ([p0.ownNoise, p0.otherNoise]) (k78 : Int)).bind fun x81 => (dynamics_checkNoise_p x81).bind fun y84 => if ((y84) != 0) = true then (some y84) else (dynamics_Check_l78 p0 J53 r78 (k78 + 1))
noncomputable def dynamics_Check_l92 (y5 : Int) (J34 : Option (Int)) : List BoundsD → Option (Int)
  | [] => J34
  | x92 :: r92 => lt (fun (v98_0 : Bool) => if v98_0 = true then (some 6) else (if (x92.lo) > x92.hi then (some 1) else ((dynamics_within_1_p ([x92.lo, x92.hi]) y5).bind fun y104 => if (!y104) = true then (some 1) else (dynamics_Check_l92 y5 J34 r92 )))) fun J98 => if ((x92.sense) != 1) = true then (J98 ((x92.sense) != 2)) else (J98 false)
noncomputable def dynamics_Check_p (p0 : ModelD) : Option (Int) :=
  (dynamics_within_p (100 : Int)).bind fun y5 => (dynamics_grid_p p0).bind fun y8 => (interp_Check_p y8).bind fun y11 => if ((y11) != 0) = true then (some y11) else ((dynamics_within_p (50000 : Int)).bind fun y15 => (dynamics_within_1_p p0.height y15).bind fun y18 => if (!y18) = true then (some 1) else ((dynamics_within_1_p p0.own y5).bind fun y23 => if (!y23) = true then (some 1) else ((dynamics_within_1_p p0.other y5).bind fun y28 => if (!y28) = true then (some 1) else (if ((p0.advisories.length : Int) == 0) = true then (some 3) else (if (p0.advisories.length : Int) > 6 then (some 4) else (lt ((dynamics_span_has_p (SpanD.mk 0 100) ([p0.pull])).bind fun y38 => if (!y38) = true then (some 1) else ((dynamics_span_has_p (SpanD.mk 0 50000) ([p0.near])).bind fun y44 => if (!y44) = true then (some 1) else ((dynamics_span_has_p (SpanD.mk 0 24) ([p0.steps])).bind fun y50 => if (!y50) = true then (some 1) else (lt (lt ((dynamics_size_p p0).bind fun y56 => if (y56) > 200 then (some 10) else (some 0)) fun J54 => dynamics_Check_l62 p0 J54 ((3 : Int).toNat - 0) 0) fun J53 => dynamics_Check_l78 p0 J53 ((2 : Int).toNat - 0) 0)))) fun J34 => grd (0 ≤ (1 : Int) ∧ (1 : Int) ≤ (p0.advisories.length : Int) ∧ (p0.advisories.length : Int) ≤ (p0.advisories.length : Int)) <| dynamics_Check_l92 y5 J34 ((p0.advisories.drop 1).drop 0) ))))))
theorem dynamics_Check_c (w : World) (X : Hid) (hX : ∀ k o, X k o → k < w.heap.size) (p0 : ModelD) (vp0 : Value) (hp0 : ModelDV (rd w X) vp0 p0) (y : Int) (hp : dynamics_Check_p p0 = some y) : Calls Tryz.prog 21 #[vp0] w (Ret E0 w fun _ v => v = .int .i64 y) := by
 have hVp0 := hp0
 refine ModelDV.op hp0 fun p0a1 p0a2 p0a3 p0a4 p0a5 p0a6 p0a7 p0a8 p0a9 p0a10 p0a11 p0a12 p0a13 p0a14 p0a15 p0a16 p0a17 p0a18 p0a19 p0a20 p0a21 p0a22 p0a23 p0a24 hv9 p0a_h0 p0a_h1 p0a_h2 p0a_h3 p0a_h4 p0a_h5 p0a_h6 p0a_h7 p0a_h8 p0a_h9 p0a_h10 p0a_h11 => ?_
 subst hv9
 unfold dynamics_Check_p at hp
 refine zen Tryz.func21 ?_
 have C0 : St E0 w X w X [] := St.start hX
 refine zz 2 ?_
 refine zn pn (.cells #[.slice p0a1 p0.height.length p0a2, .slice p0a3 p0.own.length p0a4, .slice p0a5 p0.other.length p0a6, .slice p0a7 p0.advisories.length p0a8, .int .i64 p0.pull, .int .i64 p0.near, .int .i64 p0.steps, .slice p0a9 p0.ownNoise.length p0a10, .slice p0a11 p0.otherNoise.length p0a12, .bool p0.alert.neg, .slice p0a13 p0.alert.ln.length p0a14, .slice p0a15 p0.alert.ld.length p0a16, .bool p0.strengthen.neg, .slice p0a17 p0.strengthen.ln.length p0a18, .slice p0a19 p0.strengthen.ld.length p0a20, .bool p0.reversal.neg, .slice p0a21 p0.reversal.ln.length p0a22, .slice p0a23 p0.reversal.ld.length p0a24] 30 (0, 0)) C0 ?_
 intro b3 w3 Y3 C3 B3 hu3
 refine zz 5 ?_
 refine bndk hp fun y5 hy5 hp => ?_
 refine zc C3 (dynamics_within_c _ X0 (X0_lt _) (100 : Int) y5 hy5) ?_
 rintro v6 w6 C6 B6 hu6 ⟨u6_0_b0, u6_0_b1, rfl, u6_0_h0, u6_0_h1⟩
 have hAu6_0_b0 : At (rd w6 Y3) ⟨u6_0_b0, 0, none⟩ [.func (.func 61) #[] #[]] := (At.mono (Le.new C3.lt) u6_0_h0)
 have hAu6_0_b1 : At (rd w6 Y3) ⟨u6_0_b1, 0, none⟩ [.int .i64 y5] := (At.mono (Le.new C3.lt) u6_0_h1)
 refine zz 6 ?_
 refine zo 0 C6 ?_
 refine bndk hp fun y8 hy8 hp => ?_
 refine zc C6 (dynamics_grid_c _ _ C6.lt p0 _ (hVp0.mono (Le2 B3 B6)) y8 hy8) ?_
 rintro v9 w9 C9 B9 hu9 ⟨u9_0_1, u9_0_2, rfl, u9_0__h0⟩
 refine bndk hp fun y11 hy11 hp => ?_
 refine zc C9 (interp_Check_c _ X0 (X0_lt _) y8 _ ⟨_, _, rfl, (u9_0__h0.mono Le.x0)⟩ y11 hy11) ?_
 rintro v12 w12 C12 B12 hu12 rfl
 refine zz 11 ?_
 refine zb 17 (b := ((y11) != 0)) (fun hc13 => ?_) (fun hc13 => ?_)
 ·
  have hp := ipb hc13 hp
  refine zz 10 ?_
  refine zr' (v := .int .i64 y11) ?_
  have hob := Option.some.inj hp
  subst hob
  exact ⟨C12.upd, _, rfl, rfl⟩
 have hp := iqb hc13 hp
 refine zz 2 ?_
 refine zdr C12 ?_
 refine gz [1] ?_
 refine gw 2 0 ?_
 refine bndk hp fun y15 hy15 hp => ?_
 refine gC 0 (fun w14 Y14 _ C14 B14 => (dynamics_within_c _ X0 (X0_lt _) (50000 : Int) y15 hy15)) ?_
 rintro v16 w14 Y16 w16 C14 B16 ⟨u16_0_b0, u16_0_b1, rfl, u16_0_h0, u16_0_h1⟩
 have hAu16_0_b0 : At (rd w16 Y16) ⟨u16_0_b0, 0, none⟩ [.func (.func 61) #[] #[]] := (At.mono (Le.new C14.lt) u16_0_h0)
 have hAu16_0_b1 : At (rd w16 Y16) ⟨u16_0_b1, 0, none⟩ [.int .i64 y15] := (At.mono (Le.new C14.lt) u16_0_h1)
 have hc1_ := (Le4 B3 B6 B9 B12).trans B16
 refine bndk hp fun y18 hy18 hp => ?_
 refine gC 3 (fun w17 Y17 _ C17 B17 => (dynamics_within_1_c _ X0 (X0_lt _) p0.height _ ⟨_, _, rfl, ((p0a_h0.mono (hc1_.trans B17)).mono Le.x0)⟩ _ ((hAu16_0_b0.mono B17).mono Le.x0) y15 _ ((hAu16_0_b1.mono B17).mono Le.x0) y18 hy18)) ?_
 rintro v19 w17 Y19 w19 C17 B19 rfl
 refine gz [4, 5] ?_
 refine gb 27 (b := !y18) (fun hc20 => ?_) (fun hc20 => ?_)
 ·
  have hp := ipb hc20 hp
  refine gz [6, 7, 8, 9, 10, 11, 12, 13, 14, 15, 16, 17, 18, 19] ?_
  refine gend (fun w21 Y21 C21 B21 => ?_)
  refine zz 10 ?_
  refine zr' (v := .int .i64 1) ?_
  have hob := Option.some.inj hp
  subst hob
  exact ⟨C21.upd, _, rfl, rfl⟩
 have hp := iqb hc20 hp
 refine gz [6, 7] ?_
 refine gw 8 0 ?_
 have hc2_ := hc1_.trans B19
 have hc3_ := (Le3 B9 B12 B16).trans B19
 refine bndk hp fun y23 hy23 hp => ?_
 refine gC 9 (fun w22 Y22 _ C22 B22 => (dynamics_within_1_c _ X0 (X0_lt _) p0.own _ ⟨_, _, rfl, ((p0a_h1.mono (hc2_.trans B22)).mono Le.x0)⟩ _ ((hAu6_0_b0.mono (hc3_.trans B22)).mono Le.x0) y5 _ ((hAu6_0_b1.mono (hc3_.trans B22)).mono Le.x0) y23 hy23)) ?_
 rintro v24 w22 Y24 w24 C22 B24 rfl
 refine gz [10, 11, 12] ?_
 refine gb 34 (b := !y23) (fun hc25 => ?_) (fun hc25 => ?_)
 ·
  have hp := ipb hc25 hp
  refine gz [13, 14, 15, 16, 17, 18, 19] ?_
  refine gend (fun w26 Y26 C26 B26 => ?_)
  refine zz 10 ?_
  refine zr' (v := .int .i64 1) ?_
  have hob := Option.some.inj hp
  subst hob
  exact ⟨C26.upd, _, rfl, rfl⟩
 have hp := iqb hc25 hp
 refine gz [13, 14] ?_
 refine gw 15 0 ?_
 have hc4_ := hc2_.trans B24
 have hc5_ := hc3_.trans B24
 refine bndk hp fun y28 hy28 hp => ?_
 refine gC 16 (fun w27 Y27 _ C27 B27 => (dynamics_within_1_c _ X0 (X0_lt _) p0.other _ ⟨_, _, rfl, ((p0a_h2.mono (hc4_.trans B27)).mono Le.x0)⟩ _ ((hAu6_0_b0.mono (hc5_.trans B27)).mono Le.x0) y5 _ ((hAu6_0_b1.mono (hc5_.trans B27)).mono Le.x0) y28 hy28)) ?_
 rintro v29 w27 Y29 w29 C27 B29 rfl
 refine gz [17, 18, 19] ?_
 refine gend (fun w30 Y30 C30 B30 => ?_)
 refine zz 1 ?_
 refine zb 21 (b := !y28) (fun hc31 => ?_) (fun hc31 => ?_)
 ·
  have hp := ipb hc31 hp
  refine zz 9 ?_
  refine zr' (v := .int .i64 1) ?_
  have hob := Option.some.inj hp
  subst hob
  exact ⟨C30.upd, _, rfl, rfl⟩
 have hp := iqb hc31 hp
 refine zz 4 ?_
 refine zo 0 C30 ?_
 refine zz 5 ?_
 refine zb 41 (b := ((p0.advisories.length : Int) == 0)) (fun hc32 => ?_) (fun hc32 => ?_)
 ·
  have hp := ipb hc32 hp
  refine zz 9 ?_
  refine zr' (v := .int .i64 3) ?_
  have hob := Option.some.inj hp
  subst hob
  exact ⟨C30.upd, _, rfl, rfl⟩
 have hp := iqb hc32 hp
 refine zz 4 ?_
 refine zo 0 C30 ?_
 refine zz 5 ?_
 refine zt 46 (p := (p0.advisories.length : Int) > 6) (fun ht33 => ?_) (fun ht33 => ?_)
 ·
  have hp := ip ht33 hp
  refine zz 9 ?_
  refine zr' (v := .int .i64 4) ?_
  have hob := Option.some.inj hp
  subst hob
  exact ⟨C30.upd, _, rfl, rfl⟩
 have hp := iq ht33 hp
 refine zz 4 ?_
 have hob := ltd0 hp
 obtain ⟨J34, hJ34, hp⟩ := hob
 refine zjoin (fun (_ : Unit) => [(1, .pointer (some ⟨b3, 0, none⟩))]) (fun (_ : Unit) w1 => ∃ Y1 : Hid, St E0 w X w1 Y1 [(b3, .cells #[.slice p0a1 p0.height.length p0a2, .slice p0a3 p0.own.length p0a4, .slice p0a5 p0.other.length p0a6, .slice p0a7 p0.advisories.length p0a8, .int .i64 p0.pull, .int .i64 p0.near, .int .i64 p0.steps, .slice p0a9 p0.ownNoise.length p0a10, .slice p0a11 p0.otherNoise.length p0a12, .bool p0.alert.neg, .slice p0a13 p0.alert.ln.length p0a14, .slice p0a15 p0.alert.ld.length p0a16, .bool p0.strengthen.neg, .slice p0a17 p0.strengthen.ln.length p0a18, .slice p0a19 p0.strengthen.ld.length p0a20, .bool p0.reversal.neg, .slice p0a21 p0.reversal.ln.length p0a22, .slice p0a23 p0.reversal.ld.length p0a24] 30 (0, 0))] ∧ Le (rd w30 Y30) (rd w1 Y1) ∧ J34 = some y) ?_ ?_
 ·
  rintro _ w34 ⟨Y34, C34, B34, hp⟩
  have hp := hJ34.symm.trans hp
  refine zz 5 ?_
  refine zo 0 C34 ?_
  refine zn (fun b => .slice (some ⟨b, 0, none⟩) 1 1) (.cells #[.int .i64 p0.pull] 3 (0, 0)) C34 ?_
  intro b36 w36 Y36 C36 B36 hu36
  refine bndk hp fun y38 hy38 hp => ?_
  refine zc C36 (dynamics_span_has_c _ X0 (X0_lt _) (SpanD.mk 0 100) _ rfl ([p0.pull]) _ ⟨_, _, rfl, (SlR.lit (El := IntAt) (size := 1) (n := 1) [⟨(p0.pull : Int), [.int .i64 p0.pull]⟩] (C36.at0 0 rfl rfl) (List.forall_mem_cons.2 ⟨⟨rfl, fun r2 h2 b o h9 => h9⟩, (List.forall_mem_nil _)⟩) rfl (by decide))⟩ y38 hy38) ?_ (vs := #[.agg #[.int .i64 0, .int .i64 100], .slice (some ⟨b36, 0, none⟩) 1 1])
  rintro v39 w39 C39 B39 hu39 rfl
  refine zz 2 ?_
  refine zb 91 (b := !y38) (fun hc40 => ?_) (fun hc40 => ?_)
  ·
   have hp := ipb hc40 hp
   refine zz 25 ?_
   refine zr' (v := .int .i64 1) ?_
   have hob := Option.some.inj hp
   subst hob
   exact ⟨C39.upd, _, rfl, rfl⟩
  have hp := iqb hc40 hp
  refine zz 2 ?_
  refine zo 1 C39 ?_
  refine zn (fun b => .slice (some ⟨b, 0, none⟩) 1 1) (.cells #[.int .i64 p0.near] 3 (0, 0)) C39 ?_
  intro b42 w42 Y42 C42 B42 hu42
  refine bndk hp fun y44 hy44 hp => ?_
  refine zc C42 (dynamics_span_has_c _ X0 (X0_lt _) (SpanD.mk 0 50000) _ rfl ([p0.near]) _ ⟨_, _, rfl, (SlR.lit (El := IntAt) (size := 1) (n := 1) [⟨(p0.near : Int), [.int .i64 p0.near]⟩] (C42.at0 0 rfl rfl) (List.forall_mem_cons.2 ⟨⟨rfl, fun r2 h2 b o h9 => h9⟩, (List.forall_mem_nil _)⟩) rfl (by decide))⟩ y44 hy44) ?_ (vs := #[.agg #[.int .i64 0, .int .i64 50000], .slice (some ⟨b42, 0, none⟩) 1 1])
  rintro v45 w45 C45 B45 hu45 rfl
  refine zz 3 ?_
  refine zb 99 (b := !y44) (fun hc46 => ?_) (fun hc46 => ?_)
  ·
   have hp := ipb hc46 hp
   refine zz 17 ?_
   refine zr' (v := .int .i64 1) ?_
   have hob := Option.some.inj hp
   subst hob
   exact ⟨C45.upd, _, rfl, rfl⟩
  have hp := iqb hc46 hp
  refine zz 2 ?_
  refine zo 2 C45 ?_
  refine zn (fun b => .slice (some ⟨b, 0, none⟩) 1 1) (.cells #[.int .i64 p0.steps] 3 (0, 0)) C45 ?_
  intro b48 w48 Y48 C48 B48 hu48
  refine bndk hp fun y50 hy50 hp => ?_
  refine zc C48 (dynamics_span_has_c _ X0 (X0_lt _) (SpanD.mk 0 24) _ rfl ([p0.steps]) _ ⟨_, _, rfl, (SlR.lit (El := IntAt) (size := 1) (n := 1) [⟨(p0.steps : Int), [.int .i64 p0.steps]⟩] (C48.at0 0 rfl rfl) (List.forall_mem_cons.2 ⟨⟨rfl, fun r2 h2 b o h9 => h9⟩, (List.forall_mem_nil _)⟩) rfl (by decide))⟩ y50 hy50) ?_ (vs := #[.agg #[.int .i64 0, .int .i64 24], .slice (some ⟨b48, 0, none⟩) 1 1])
  rintro v51 w51 C51 B51 hu51 rfl
  refine zz 4 ?_
  refine zb 106 (b := !y50) (fun hc52 => ?_) (fun hc52 => ?_)
  ·
   have hp := ipb hc52 hp
   refine zz 8 ?_
   refine zr' (v := .int .i64 1) ?_
   have hob := Option.some.inj hp
   subst hob
   exact ⟨C51.upd, _, rfl, rfl⟩
  have hp := iqb hc52 hp
  refine zz 3 ?_
  have hob := ltd0 hp
  obtain ⟨J53, hJ53, hp⟩ := hob
  refine zjoin (fun (_ : Unit) => [(1, .pointer (some ⟨b3, 0, none⟩))]) (fun (_ : Unit) w1 => ∃ Y1 : Hid, St E0 w X w1 Y1 [(b48, .cells #[.int .i64 p0.steps] 3 (0, 0)), (b42, .cells #[.int .i64 p0.near] 3 (0, 0)), (b36, .cells #[.int .i64 p0.pull] 3 (0, 0)), (b3, .cells #[.slice p0a1 p0.height.length p0a2, .slice p0a3 p0.own.length p0a4, .slice p0a5 p0.other.length p0a6, .slice p0a7 p0.advisories.length p0a8, .int .i64 p0.pull, .int .i64 p0.near, .int .i64 p0.steps, .slice p0a9 p0.ownNoise.length p0a10, .slice p0a11 p0.otherNoise.length p0a12, .bool p0.alert.neg, .slice p0a13 p0.alert.ln.length p0a14, .slice p0a15 p0.alert.ld.length p0a16, .bool p0.strengthen.neg, .slice p0a17 p0.strengthen.ln.length p0a18, .slice p0a19 p0.strengthen.ld.length p0a20, .bool p0.reversal.neg, .slice p0a21 p0.reversal.ln.length p0a22, .slice p0a23 p0.reversal.ld.length p0a24] 30 (0, 0))] ∧ Le (rd w51 Y48) (rd w1 Y1) ∧ J53 = some y) ?_ ?_
  ·
   rintro _ w53 ⟨Y53, C53, B53, hp⟩
   have hp := hJ53.symm.trans hp
   have hob := ltd0 hp
   obtain ⟨J54, hJ54, hp⟩ := hob
   refine zjoin (fun (_ : Unit) => [(1, .pointer (some ⟨b3, 0, none⟩))]) (fun (_ : Unit) w1 => ∃ Y1 : Hid, St E0 w X w1 Y1 [(b48, .cells #[.int .i64 p0.steps] 3 (0, 0)), (b42, .cells #[.int .i64 p0.near] 3 (0, 0)), (b36, .cells #[.int .i64 p0.pull] 3 (0, 0)), (b3, .cells #[.slice p0a1 p0.height.length p0a2, .slice p0a3 p0.own.length p0a4, .slice p0a5 p0.other.length p0a6, .slice p0a7 p0.advisories.length p0a8, .int .i64 p0.pull, .int .i64 p0.near, .int .i64 p0.steps, .slice p0a9 p0.ownNoise.length p0a10, .slice p0a11 p0.otherNoise.length p0a12, .bool p0.alert.neg, .slice p0a13 p0.alert.ln.length p0a14, .slice p0a15 p0.alert.ld.length p0a16, .bool p0.strengthen.neg, .slice p0a17 p0.strengthen.ln.length p0a18, .slice p0a19 p0.strengthen.ld.length p0a20, .bool p0.reversal.neg, .slice p0a21 p0.reversal.ln.length p0a22, .slice p0a23 p0.reversal.ld.length p0a24] 30 (0, 0))] ∧ Le (rd w53 Y53) (rd w1 Y1) ∧ J54 = some y) ?_ ?_
   ·
    rintro _ w54 ⟨Y54, C54, B54, hp⟩
    have hp := hJ54.symm.trans hp
    refine zz 3 ?_
    refine zo 3 C54 ?_
    have hc6_ := ((((((((((hc4_.trans B29).trans B30).trans B34).trans B36).trans B39).trans B42).trans B45).trans B48).trans B51).trans B53).trans B54
    refine bndk hp fun y56 hy56 hp => ?_
    refine zc C54 (dynamics_size_c _ X0 (X0_lt _) p0 _ ((hVp0.mono hc6_).mono Le.x0) y56 hy56) ?_
    rintro v57 w57 C57 B57 hu57 rfl
    refine zz 3 ?_
    refine zt 145 (p := (y56) > 200) (fun ht58 => ?_) (fun ht58 => ?_)
    ·
     have hp := ip ht58 hp
     refine zz 8 ?_
     refine zr' (v := .int .i64 10) ?_
     have hob := Option.some.inj hp
     subst hob
     exact ⟨C57.upd, _, rfl, rfl⟩
    have hp := iq ht58 hp
    refine zz 9 ?_
    refine zr' (v := .int .i64 0) ?_
    have hob := Option.some.inj hp
    subst hob
    exact ⟨C57.upd, _, rfl, rfl⟩
   intro K59 H59
   refine zz 3 ?_
   refine zo 3 C53 ?_
   refine zz 1 ?_
   refine zo 3 C53 ?_
   refine zz 1 ?_
   refine zo 3 C53 ?_
   refine zn (fun b => .slice (some ⟨b, 0, none⟩) 3 3) (.cells #[.bool p0.alert.neg, .slice p0a13 p0.alert.ln.length p0a14, .slice p0a15 p0.alert.ld.length p0a16, .bool p0.strengthen.neg, .slice p0a17 p0.strengthen.ln.length p0a18, .slice p0a19 p0.strengthen.ld.length p0a20, .bool p0.reversal.neg, .slice p0a21 p0.reversal.ln.length p0a22, .slice p0a23 p0.reversal.ld.length p0a24] 28 (0, 0)) C53 ?_
   intro b61 w61 Y61 C61 B61 hu61
   refine zz 5 ?_
   have hob := St.pubAt 0 C61 rfl
   obtain ⟨Y63, hSx63, B63, hat63, hatN63⟩ := hob
   have C63 : St E0 w X w61 Y63 [(b48, .cells #[.int .i64 p0.steps] 3 (0, 0)), (b42, .cells #[.int .i64 p0.near] 3 (0, 0)), (b36, .cells #[.int .i64 p0.pull] 3 (0, 0)), (b3, .cells #[.slice p0a1 p0.height.length p0a2, .slice p0a3 p0.own.length p0a4, .slice p0a5 p0.other.length p0a6, .slice p0a7 p0.advisories.length p0a8, .int .i64 p0.pull, .int .i64 p0.near, .int .i64 p0.steps, .slice p0a9 p0.ownNoise.length p0a10, .slice p0a11 p0.otherNoise.length p0a12, .bool p0.alert.neg, .slice p0a13 p0.alert.ln.length p0a14, .slice p0a15 p0.alert.ld.length p0a16, .bool p0.strengthen.neg, .slice p0a17 p0.strengthen.ln.length p0a18, .slice p0a19 p0.strengthen.ld.length p0a20, .bool p0.reversal.neg, .slice p0a21 p0.reversal.ln.length p0a22, .slice p0a23 p0.reversal.ld.length p0a24] 30 (0, 0))] := hSx63
   have hc7_ := (((((((((((hc4_.trans B29).trans B30).trans B34).trans B36).trans B39).trans B42).trans B45).trans B48).trans B51).trans B53).trans B61).trans B63
   have hR63 : Rats (rd w61 Y63) (some ⟨b61, 0, none⟩) 3 3 [p0.alert, p0.strengthen, p0.reversal] := (Rats.ofSl (SlR.lit (El := RatAt) (size := 3) (n := 3) [⟨p0.alert, [.bool p0.alert.neg, .slice p0a13 p0.alert.ln.length p0a14, .slice p0a15 p0.alert.ld.length p0a16]⟩, ⟨p0.strengthen, [.bool p0.strengthen.neg, .slice p0a17 p0.strengthen.ln.length p0a18, .slice p0a19 p0.strengthen.ld.length p0a20]⟩, ⟨p0.reversal, [.bool p0.reversal.neg, .slice p0a21 p0.reversal.ln.length p0a22, .slice p0a23 p0.reversal.ld.length p0a24]⟩] hat63 (List.forall_mem_cons.2 ⟨⟨rfl, fun r2 h2 b o h9 => ⟨_, _, _, _, _, _, h9, ((p0a_h6.mono hc7_).mono h2), ((p0a_h7.mono hc7_).mono h2)⟩⟩, (List.forall_mem_cons.2 ⟨⟨rfl, fun r2 h2 b o h9 => ⟨_, _, _, _, _, _, h9, ((p0a_h8.mono hc7_).mono h2), ((p0a_h9.mono hc7_).mono h2)⟩⟩, (List.forall_mem_cons.2 ⟨⟨rfl, fun r2 h2 b o h9 => ⟨_, _, _, _, _, _, h9, ((p0a_h10.mono hc7_).mono h2), ((p0a_h11.mono hc7_).mono h2)⟩⟩, (List.forall_mem_nil _)⟩)⟩)⟩) rfl (by decide)))
   refine zlp Tryz.f21 [K59] [1, 1, 1, 1, 1, 1, 9, 1, 0] (fun (k62 : Nat) => [(1, .pointer (some ⟨b3, 0, none⟩)), (129, .slice (some ⟨b61, 0, none⟩) 3 3), (130, .int .i64 3), (131, .int .i64 (k62 : Int))]) (fun (k62 : Nat) w1 => ∃ Y1 : Hid, St E0 w X w1 Y1 [(b48, .cells #[.int .i64 p0.steps] 3 (0, 0)), (b42, .cells #[.int .i64 p0.near] 3 (0, 0)), (b36, .cells #[.int .i64 p0.pull] 3 (0, 0)), (b3, .cells #[.slice p0a1 p0.height.length p0a2, .slice p0a3 p0.own.length p0a4, .slice p0a5 p0.other.length p0a6, .slice p0a7 p0.advisories.length p0a8, .int .i64 p0.pull, .int .i64 p0.near, .int .i64 p0.steps, .slice p0a9 p0.ownNoise.length p0a10, .slice p0a11 p0.otherNoise.length p0a12, .bool p0.alert.neg, .slice p0a13 p0.alert.ln.length p0a14, .slice p0a15 p0.alert.ld.length p0a16, .bool p0.strengthen.neg, .slice p0a17 p0.strengthen.ln.length p0a18, .slice p0a19 p0.strengthen.ld.length p0a20, .bool p0.reversal.neg, .slice p0a21 p0.reversal.ln.length p0a22, .slice p0a23 p0.reversal.ld.length p0a24] 30 (0, 0))] ∧ Le (rd w61 Y63) (rd w1 Y1) ∧ dynamics_Check_l62 p0 J54 ((3 : Int).toNat - k62) k62 = some y) (fun (k62 : Nat) => (3 : Int).toNat - k62) 0 ?_ ?_
   ·
    exact ⟨_, C63, Le.refl _, hp⟩
   rintro k62 w62 K62 H62 ⟨Y62, C62, B62, hp⟩
   refine zz 6 ?_
   refine zt 132 (p := (k62 : Int) < 3) (fun ht64 => ?_) (fun ht64 => ?_)
   ·
    have hob := cnt_ltI (N := (3 : Int)) (k := k62) ht64
    obtain ⟨r62, hm62, hn62⟩ := hob
    rw [hm62, dynamics_Check_l62] at hp
    refine zz 7 ?_
    refine bndk hp fun x65 hx65 hp => ?_
    have hob := ix_some hx65
    obtain ⟨hzx65, hqx65⟩ := hob
    have hwx65 : ([p0.alert, p0.strengthen, p0.reversal])[k62]? = some x65 := hqx65
    have hob := hR63.sl.opn2 hwx65
    obtain ⟨B66, hEe66⟩ := hob
    obtain ⟨e661, e662, e663, e664, e665, e666, e66_at, e66_h0, e66_h1⟩ := hEe66
    have hob := e66_h0.hlen
    subst hob
    have hob := e66_h1.hlen
    subst hob
    refine zi (b := b61) (off := 0) (len := 3) (cap := 3) (kd := .i64) (i := (k62 : Int)) 3 (0 + k62 * 3) ?_ (h0 := hzx65) (h1 := (ix_b hzx65 B66))
    refine zl ((e66_at.mono B62)).cells ?_
    refine zn pn (.cells #[.bool false, .slice none 0 0, .slice none 0 0] 28 (0, 0)) C62 ?_
    intro b68 w68 Y68 C68 B68 hu68
    refine zx 0 #[.bool x65.neg, .slice e661 x65.ln.length e663, .slice e664 x65.ld.length e666] C68 ?_
    intro w69 C69 B69
    refine zz 5 ?_
    refine zo 0 C69 ?_
    refine bndk hp fun y71 hy71 hp => ?_
    refine zc C69 (dynamics_checkRat_c _ X0 (X0_lt _) x65 _ ⟨_, _, _, _, _, _, rfl, ((e66_h0.mono (Le3 B62 B68 B69)).mono Le.x0), ((e66_h1.mono (Le3 B62 B68 B69)).mono Le.x0)⟩ y71 hy71) ?_
    rintro v72 w72 C72 B72 hu72 rfl
    refine zz 9 ?_
    refine zb 138 (b := ((y71) != 0)) (fun hc73 => ?_) (fun hc73 => ?_)
    ·
     have hp := ipb hc73 hp
     refine zz 14 ?_
     refine zr' (v := .int .i64 y71) ?_
     have hob := Option.some.inj hp
     subst hob
     exact ⟨C72.upd, _, rfl, rfl⟩
    have hp := iqb hc73 hp
    refine zz 6 ?_
    refine zo 0 C72 ?_
    refine zz 2 ?_
    refine zb 141 (b := x65.neg) (fun hc74 => ?_) (fun hc74 => ?_)
    ·
     have hp := ipb hc74 hp
     refine zz 12 ?_
     refine zr' (v := .int .i64 1) ?_
     have hob := Option.some.inj hp
     subst hob
     exact ⟨C72.upd, _, rfl, rfl⟩
    have hp := iqb hc74 hp
    refine zz 6 ?_
    refine zs 142 (v := .int .i64 (IntKind.i64.wrap ((k62 : Int) + 1))) (v' := .int .i64 ((k62 : Int) + 1)) (vint (wi64 (wk0 k62) (wk1 ht64 (by decide)))) ?_
    refine zz 2 ?_
    have hc8_ := (Le3 B62 B68 B69).trans B72
    refine znext (fun a h => H62 (k62 + 1) _ a h ⟨_, C72.tail, hc8_, (by rw [hn62]; exact hp)⟩ ?_)
    exact mu_ltN ht64
   rw [cnt_end (N := (3 : Int)) ht64, dynamics_Check_l62] at hp
   refine zz 5 ?_
   exact znext (fun a h => H59 () _ a h ⟨_, C62, (Le3 B61 B63 B62), hp⟩)
  intro K75 H75
  refine zz 3 ?_
  refine zo 3 C51 ?_
  refine zz 1 ?_
  refine zo 3 C51 ?_
  refine zn (fun b => .slice (some ⟨b, 0, none⟩) 2 2) (.cells #[.slice p0a9 p0.ownNoise.length p0a10, .slice p0a11 p0.otherNoise.length p0a12] 24 (0, 0)) C51 ?_
  intro b77 w77 Y77 C77 B77 hu77
  refine zz 5 ?_
  have hob := St.pubAt 0 C77 rfl
  obtain ⟨Y79, hSx79, B79, hat79, hatN79⟩ := hob
  have C79 : St E0 w X w77 Y79 [(b48, .cells #[.int .i64 p0.steps] 3 (0, 0)), (b42, .cells #[.int .i64 p0.near] 3 (0, 0)), (b36, .cells #[.int .i64 p0.pull] 3 (0, 0)), (b3, .cells #[.slice p0a1 p0.height.length p0a2, .slice p0a3 p0.own.length p0a4, .slice p0a5 p0.other.length p0a6, .slice p0a7 p0.advisories.length p0a8, .int .i64 p0.pull, .int .i64 p0.near, .int .i64 p0.steps, .slice p0a9 p0.ownNoise.length p0a10, .slice p0a11 p0.otherNoise.length p0a12, .bool p0.alert.neg, .slice p0a13 p0.alert.ln.length p0a14, .slice p0a15 p0.alert.ld.length p0a16, .bool p0.strengthen.neg, .slice p0a17 p0.strengthen.ln.length p0a18, .slice p0a19 p0.strengthen.ld.length p0a20, .bool p0.reversal.neg, .slice p0a21 p0.reversal.ln.length p0a22, .slice p0a23 p0.reversal.ld.length p0a24] 30 (0, 0))] := hSx79
  have hc9_ := ((((((((((hc4_.trans B29).trans B30).trans B34).trans B36).trans B39).trans B42).trans B45).trans B48).trans B51).trans B77).trans B79
  have hR79 : NoiseDSS (rd w77 Y79) (some ⟨b77, 0, none⟩) 2 2 [p0.ownNoise, p0.otherNoise] := (SlR.lit (El := NoiseDSAt) (size := 1) (n := 2) [⟨p0.ownNoise, [.slice p0a9 p0.ownNoise.length p0a10]⟩, ⟨p0.otherNoise, [.slice p0a11 p0.otherNoise.length p0a12]⟩] hat79 (List.forall_mem_cons.2 ⟨⟨rfl, fun r2 h2 b o h9 => ⟨_, _, h9, ((p0a_h4.mono hc9_).mono h2)⟩⟩, (List.forall_mem_cons.2 ⟨⟨rfl, fun r2 h2 b o h9 => ⟨_, _, h9, ((p0a_h5.mono hc9_).mono h2)⟩⟩, (List.forall_mem_nil _)⟩)⟩) rfl (by decide))
  refine zlp Tryz.f21 [K75] [1, 1, 1, 1, 1, 9, 1, 0] (fun (k78 : Nat) => [(1, .pointer (some ⟨b3, 0, none⟩)), (111, .slice (some ⟨b77, 0, none⟩) 2 2), (112, .int .i64 2), (113, .int .i64 (k78 : Int))]) (fun (k78 : Nat) w1 => ∃ Y1 : Hid, St E0 w X w1 Y1 [(b48, .cells #[.int .i64 p0.steps] 3 (0, 0)), (b42, .cells #[.int .i64 p0.near] 3 (0, 0)), (b36, .cells #[.int .i64 p0.pull] 3 (0, 0)), (b3, .cells #[.slice p0a1 p0.height.length p0a2, .slice p0a3 p0.own.length p0a4, .slice p0a5 p0.other.length p0a6, .slice p0a7 p0.advisories.length p0a8, .int .i64 p0.pull, .int .i64 p0.near, .int .i64 p0.steps, .slice p0a9 p0.ownNoise.length p0a10, .slice p0a11 p0.otherNoise.length p0a12, .bool p0.alert.neg, .slice p0a13 p0.alert.ln.length p0a14, .slice p0a15 p0.alert.ld.length p0a16, .bool p0.strengthen.neg, .slice p0a17 p0.strengthen.ln.length p0a18, .slice p0a19 p0.strengthen.ld.length p0a20, .bool p0.reversal.neg, .slice p0a21 p0.reversal.ln.length p0a22, .slice p0a23 p0.reversal.ld.length p0a24] 30 (0, 0))] ∧ Le (rd w77 Y79) (rd w1 Y1) ∧ dynamics_Check_l78 p0 J53 ((2 : Int).toNat - k78) k78 = some y) (fun (k78 : Nat) => (2 : Int).toNat - k78) 0 ?_ ?_
  ·
   exact ⟨_, C79, Le.refl _, hp⟩
  rintro k78 w78 K78 H78 ⟨Y78, C78, B78, hp⟩
  refine zz 6 ?_
  refine zt 114 (p := (k78 : Int) < 2) (fun ht80 => ?_) (fun ht80 => ?_)
  ·
   have hob := cnt_ltI (N := (2 : Int)) (k := k78) ht80
   obtain ⟨r78, hm78, hn78⟩ := hob
   rw [hm78, dynamics_Check_l78] at hp
   refine zz 7 ?_
   refine bndk hp fun x81 hx81 hp => ?_
   have hob := ix_some hx81
   obtain ⟨hzx81, hqx81⟩ := hob
   have hwx81 : ([p0.ownNoise, p0.otherNoise])[k78]? = some x81 := hqx81
   have hob := hR79.opn2 hwx81
   obtain ⟨B82, hEe82⟩ := hob
   obtain ⟨e821, e822, e82_at, e82_h0⟩ := hEe82
   refine zi (b := b77) (off := 0) (len := 2) (cap := 2) (kd := .i64) (i := (k78 : Int)) 1 (0 + k78 * 1) ?_ (h0 := hzx81) (h1 := (ix_b hzx81 B82))
   refine zl ((e82_at.mono B78)).cells ?_
   refine zz 6 ?_
   refine bndk hp fun y84 hy84 hp => ?_
   refine zc C78 (dynamics_checkNoise_c _ X0 (X0_lt _) x81 _ ⟨_, _, rfl, ((e82_h0.mono B78).mono Le.x0)⟩ y84 hy84) ?_
   rintro v85 w85 C85 B85 hu85 rfl
   refine zz 9 ?_
   refine zb 120 (b := ((y84) != 0)) (fun hc86 => ?_) (fun hc86 => ?_)
   ·
    have hp := ipb hc86 hp
    refine zz 13 ?_
    refine zr' (v := .int .i64 y84) ?_
    have hob := Option.some.inj hp
    subst hob
    exact ⟨C85.upd, _, rfl, rfl⟩
   have hp := iqb hc86 hp
   refine zz 6 ?_
   refine zs 122 (v := .int .i64 (IntKind.i64.wrap ((k78 : Int) + 1))) (v' := .int .i64 ((k78 : Int) + 1)) (vint (wi64 (wk0 k78) (wk1 ht80 (by decide)))) ?_
   refine zz 2 ?_
   refine znext (fun a h => H78 (k78 + 1) _ a h ⟨_, C85, (Le2 B78 B85), (by rw [hn78]; exact hp)⟩ ?_)
   exact mu_ltN ht80
  rw [cnt_end (N := (2 : Int)) ht80, dynamics_Check_l78] at hp
  refine zz 5 ?_
  exact znext (fun a h => H75 () _ a h ⟨_, C78, (Le3 B77 B79 B78), hp⟩)
 intro K87 H87
 refine zz 3 ?_
 refine zo 0 C30 ?_
 have hob := grdp hp
 obtain ⟨hg89, hp⟩ := hob
 have hob := SlR.cutN (k := 1) (n := p0.advisories.length) (p0a_h3) (cutbn hg89) (Nat.le_refl _)
 obtain ⟨ad90, cap90, hcu90, hsl90⟩ := hob
 have hpe90 : ((p0.advisories.take p0.advisories.length).drop 1) = (p0.advisories.drop 1) := by simp
 rw [hpe90] at hsl90 hcu90
 have hsf90 : BoundsDS (rd w X) ad90 (p0.advisories.drop 1).length cap90 (p0.advisories.drop 1) := hsl90
 refine zop (at1 [K87] Tryz.f21 [1, 1, 1, 9, 0]) 2 (fun a88 _ G88 hz88 => zF (d := 53) (v := .slice ad90 ((p0.advisories.drop 1).length) cap90) G88 kr (run_cutLoN (kd := .i64) (i := 1) (t := 23) (e := 96) (g := true) (m := 3) (ad := p0a7) (len := p0.advisories.length) (cap := p0a8) hcu90 rfl kr kr kr kr hg89.1 hg89.2.1 rfl _) ?_)
 intro a91 G91
 refine hz88 G91 ?_
 refine zz 5 ?_
 have hb92 : ((p0.advisories.drop 1).length : Int) ≤ 9223372036854775807 := lenb (hsf90).hcap (hsf90).hbig
 refine zlp Tryz.f21 [K87] [1, 1, 1, 9, 1, 0] (fun (k92 : Nat) => [(1, .pointer (some ⟨b3, 0, none⟩)), (3, .func (.func 90) #[] #[.pointer (some ⟨u6_0_b0, 0, none⟩), .pointer (some ⟨u6_0_b1, 0, none⟩)]), (53, .slice ad90 ((p0.advisories.drop 1).length) cap90), (54, .int .i64 ((p0.advisories.drop 1).length : Int)), (55, .int .i64 (k92 : Int))]) (fun (k92 : Nat) w1 => ∃ Y1 : Hid, St E0 w X w1 Y1 [(b3, .cells #[.slice p0a1 p0.height.length p0a2, .slice p0a3 p0.own.length p0a4, .slice p0a5 p0.other.length p0a6, .slice p0a7 p0.advisories.length p0a8, .int .i64 p0.pull, .int .i64 p0.near, .int .i64 p0.steps, .slice p0a9 p0.ownNoise.length p0a10, .slice p0a11 p0.otherNoise.length p0a12, .bool p0.alert.neg, .slice p0a13 p0.alert.ln.length p0a14, .slice p0a15 p0.alert.ld.length p0a16, .bool p0.strengthen.neg, .slice p0a17 p0.strengthen.ln.length p0a18, .slice p0a19 p0.strengthen.ld.length p0a20, .bool p0.reversal.neg, .slice p0a21 p0.reversal.ln.length p0a22, .slice p0a23 p0.reversal.ld.length p0a24] 30 (0, 0))] ∧ Le (rd w30 Y30) (rd w1 Y1) ∧ dynamics_Check_l92 y5 J34 ((p0.advisories.drop 1).drop k92)  = some y) (fun (k92 : Nat) => (p0.advisories.drop 1).length - k92) 0 ?_ ?_
 ·
  exact ⟨_, C30, Le.refl _, hp⟩
 rintro k92 w92 K92 H92 ⟨Y92, C92, B92, hp⟩
 refine zz 6 ?_
 refine zt 56 (p := (k92 : Int) < ((p0.advisories.drop 1).length : Int)) (fun ht93 => ?_) (fun ht93 => ?_)
 ·
  have hob := get_lt (l := (p0.advisories.drop 1)) (k := k92) (lt_of_int ht93)
  obtain ⟨x92, hqx92⟩ := hob
  rw [dropC hqx92, dynamics_Check_l92] at hp
  have hzx92 : (0 : Int) ≤ (k92 : Int) := Int.natCast_nonneg _
  refine zz 7 ?_
  have hob := hsf90.opn hqx92
  obtain ⟨be94, oe94, rfl, B94, hEe94⟩ := hob
  have e94_at : At (rd w X) ⟨be94, oe94 + k92 * 3, none⟩ [.int .u8 x92.sense, .int .i64 x92.lo, .int .i64 x92.hi] := hEe94
  refine zi (b := be94) (off := oe94) (len := (p0.advisories.drop 1).length) (cap := cap90) (kd := .i64) (i := (k92 : Int)) 3 (oe94 + k92 * 3) ?_ (h0 := hzx92) (h1 := (ix_b hzx92 B94))
  have hc10_ := ((hc4_.trans B29).trans B30).trans B92
  refine zl ((e94_at.mono hc10_)).cells ?_
  refine zn pn (.cells #[.int .u8 0, .int .i64 0, .int .i64 0] 96 (0, 0)) C92 ?_
  intro b96 w96 Y96 C96 B96 hu96
  refine zx 0 #[.int .u8 x92.sense, .int .i64 x92.lo, .int .i64 x92.hi] C96 ?_
  intro w97 C97 B97
  refine zz 3 ?_
  have hob := ltd1 hp
  obtain ⟨J98, hJ98, hp⟩ := hob
  refine zjoin (fun (v98_0 : Bool) => [(59, .bool v98_0), (1, .pointer (some ⟨b3, 0, none⟩)), (3, .func (.func 90) #[] #[.pointer (some ⟨u6_0_b0, 0, none⟩), .pointer (some ⟨u6_0_b1, 0, none⟩)]), (6, .pointer (some ⟨b96, 0, none⟩)), (53, .slice (some ⟨be94, oe94, none⟩) ((p0.advisories.drop 1).length) cap90), (54, .int .i64 ((p0.advisories.drop 1).length : Int)), (55, .int .i64 (k92 : Int))]) (fun (v98_0 : Bool) w1 => ∃ Y1 : Hid, St E0 w X w1 Y1 [(b96, .cells #[.int .u8 x92.sense, .int .i64 x92.lo, .int .i64 x92.hi] 96 (0, 0)), (b3, .cells #[.slice p0a1 p0.height.length p0a2, .slice p0a3 p0.own.length p0a4, .slice p0a5 p0.other.length p0a6, .slice p0a7 p0.advisories.length p0a8, .int .i64 p0.pull, .int .i64 p0.near, .int .i64 p0.steps, .slice p0a9 p0.ownNoise.length p0a10, .slice p0a11 p0.otherNoise.length p0a12, .bool p0.alert.neg, .slice p0a13 p0.alert.ln.length p0a14, .slice p0a15 p0.alert.ld.length p0a16, .bool p0.strengthen.neg, .slice p0a17 p0.strengthen.ln.length p0a18, .slice p0a19 p0.strengthen.ld.length p0a20, .bool p0.reversal.neg, .slice p0a21 p0.reversal.ln.length p0a22, .slice p0a23 p0.reversal.ld.length p0a24] 30 (0, 0))] ∧ Le (rd w97 Y96) (rd w1 Y1) ∧ J98 v98_0 = some y) ?_ ?_
  ·
   rintro v98_0 w98 ⟨Y98, C98, B98, hp⟩
   have hp := (hJ98 _).symm.trans hp
   refine zb 59 (b := v98_0) (fun hc99 => ?_) (fun hc99 => ?_)
   ·
    have hp := ipb hc99 hp
    refine zz 13 ?_
    refine zr' (v := .int .i64 6) ?_
    have hob := Option.some.inj hp
    subst hob
    exact ⟨C98.upd, _, rfl, rfl⟩
   have hp := iqb hc99 hp
   refine zz 4 ?_
   refine zo 0 C98 ?_
   refine zz 1 ?_
   refine zo 0 C98 ?_
   refine zz 2 ?_
   refine zt 74 (p := (x92.lo) > x92.hi) (fun ht100 => ?_) (fun ht100 => ?_)
   ·
    have hp := ip ht100 hp
    refine zz 25 ?_
    refine zr' (v := .int .i64 1) ?_
    have hob := Option.some.inj hp
    subst hob
    exact ⟨C98.upd, _, rfl, rfl⟩
   have hp := iq ht100 hp
   refine zz 2 ?_
   refine zo 0 C98 ?_
   refine zz 1 ?_
   refine zo 0 C98 ?_
   refine zn (fun b => .slice (some ⟨b, 0, none⟩) 2 2) (.cells #[.int .i64 x92.lo, .int .i64 x92.hi] 3 (0, 0)) C98 ?_
   intro b102 w102 Y102 C102 B102 hu102
   have hc11_ := ((((((hc5_.trans B29).trans B30).trans B92).trans B96).trans B97).trans B98).trans B102
   refine bndk hp fun y104 hy104 hp => ?_
   refine zc C102 (dynamics_within_1_c _ X0 (X0_lt _) ([x92.lo, x92.hi]) _ ⟨_, _, rfl, (SlR.lit (El := IntAt) (size := 1) (n := 2) [⟨(x92.lo : Int), [.int .i64 x92.lo]⟩, ⟨(x92.hi : Int), [.int .i64 x92.hi]⟩] (C102.at0 0 rfl rfl) (List.forall_mem_cons.2 ⟨⟨rfl, fun r2 h2 b o h9 => h9⟩, (List.forall_mem_cons.2 ⟨⟨rfl, fun r2 h2 b o h9 => h9⟩, (List.forall_mem_nil _)⟩)⟩) rfl (by decide))⟩ _ ((hAu6_0_b0.mono hc11_).mono Le.x0) y5 _ ((hAu6_0_b1.mono hc11_).mono Le.x0) y104 hy104) ?_ (vs := #[.slice (some ⟨b102, 0, none⟩) 2 2, .pointer (some ⟨u6_0_b0, 0, none⟩), .pointer (some ⟨u6_0_b1, 0, none⟩)])
   rintro v105 w105 C105 B105 hu105 rfl
   refine zz 5 ?_
   refine zb 68 (b := !y104) (fun hc106 => ?_) (fun hc106 => ?_)
   ·
    have hp := ipb hc106 hp
    refine zz 13 ?_
    refine zr' (v := .int .i64 1) ?_
    have hob := Option.some.inj hp
    subst hob
    exact ⟨C105.upd, _, rfl, rfl⟩
   have hp := iqb hc106 hp
   refine zz 7 ?_
   refine zs 84 (v := .int .i64 (IntKind.i64.wrap ((k92 : Int) + 1))) (v' := .int .i64 ((k92 : Int) + 1)) (vint (wi64 (wk0 k92) (wk1 ht93 hb92))) ?_
   refine zz 2 ?_
   have hc12_ := (Le5 B92 B96 B97 B98 B102).trans B105
   refine znext (fun a h => H92 (k92 + 1) _ a h ⟨_, C105.tail.tail, hc12_, hp⟩ ?_)
   exact mu_lt ht93
  intro K107 H107
  refine zz 2 ?_
  refine zo 0 C97 ?_
  refine zz 2 ?_
  refine zb 63 (b := ((x92.sense) != 1)) (fun hc108 => ?_) (fun hc108 => ?_)
  ·
   have hp := ipb hc108 hp
   refine zz 1 ?_
   refine zo 0 C97 ?_
   refine zz 4 ?_
   exact znext (fun a h => H107 ((x92.sense) != 2) _ a h ⟨_, C97, (Le.refl _), hp⟩)
  have hp := iqb hc108 hp
  refine zz 6 ?_
  exact znext (fun a h => H107 false _ a h ⟨_, C97, (Le.refl _), hp⟩)
 rw [List.drop_eq_nil_of_le (nlt_of_int ht93), dynamics_Check_l92] at hp
 refine zz 5 ?_
 exact znext (fun a h => H87 () _ a h ⟨_, C92, B92, hp⟩)
end Go.Proofs.YtjnbipmlmafahaaGreat

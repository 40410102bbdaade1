/- Parts of the proof: F17 F18 F19 F20 F21 F22 F23 F24 F25 F28 F40 F49 R1 R2 R3 R5 R6 R7 R8 R9 R10 R12 R16 R17 EvA. By an AI agent. -/
import Derived.Test.YtdfmdiakjdggbaaGreatDoorBaseA
import Derived.Test.YtdfmdiakjdggbaaGreatDoorBaseB
set_option linter.unusedVariables false
set_option linter.unusedSimpArgs false
set_option linter.unnecessarySimpa false
namespace Go.Proofs.YtdfmdiakjdggbaaGreatDoor
open Go Go.Gv Go.RowKit
set_option maxRecDepth 100000
set_option maxHeartbeats 1000000
theorem cmpI_ge {x y : Nat} (h : cmpI (x : Int) (y : Int) ≥ 0) : y ≤ x := cmpI_ge0 (by omega)
theorem cmpI_nge {x y : Nat} (h : ¬ cmpI (x : Int) (y : Int) ≥ 0) : x < y := cmpI_lt0 (by omega)
theorem divide_c (w : World) (X : Hid) (hX : ∀ k o, X k o → k < w.heap.size) (ad : Option Addr) (len cap : Nat) (l : List Nat) (h : Limbs (rd w X) ad len cap l) (ad2 : Option Addr) (len2 cap2 : Nat) (l2 : List Nat) (h2 : Limbs (rd w X) ad2 len2 cap2 l2) (hc1 : Canon l) (hc2 : Canon l2) (hl1 : len ≤ 512) (hl2 : len2 ≤ 512) (hd : 0 < val l2) : Calls Tryz.prog 268 #[.slice ad len cap, .slice ad2 len2 cap2] w (Ret E0 w fun w' v => ∃ u u2 lq lr ad len cap ad2 len2 cap2, v = .tuple #[u, u2] ∧ OwnN 214 w w' u lq ad len cap (val l / val l2) ∧ OwnN 214 w w' u2 lr ad2 len2 cap2 (val l % val l2)) := by
 obtain rfl := h.hlen
 obtain rfl := h2.hlen
 have hcap := h.hcap
 have hbig := h.hbig
 have hcap2 := h2.hcap
 have hbig2 := h2.hbig
 refine m_enter (n := 38) (vs := [.slice ad l.length cap, .slice ad2 l2.length cap2]) Tryz.func268 rfl rfl rfl kr (fun a0 G0 => ?_)
 have G0 : Fr 38 a0 [(0, .slice ad l.length cap), (1, .slice ad2 l2.length cap2)] := G0
 have A0 : St E0 w X w X [] := St.start hX
 refine zG (fun K1 V1 => ?_)
 refine zC ?_
 refine wplI G0 kr (op_new (d := 3) (fun b => .pointer (some ⟨b, 0, none⟩)) (.cells #[.slice ad2 l2.length cap2] 26 (0, 0)) G0 kr A0 kw ?_)
 intro b2 w2 Y2 A2 y2 hu2 a3 G3
 refine wplI G3 kr (op_new (d := 4) (fun b => .pointer (some ⟨b, 0, none⟩)) (.cells #[.slice none 0 0] 26 (0, 0)) G3 kr A2 kw ?_)
 intro b4 w4 Y4 A4 y4 hu4 a5 G5
 refine wplI G5 kr (op_new (d := 5) (fun b => .pointer (some ⟨b, 0, none⟩)) (.cells #[.slice none 0 0] 26 (0, 0)) G5 kr A4 kw ?_)
 intro b6 w6 Y6 A6 y6 hu6 a7 G7
 refine zH ?_
 refine zA (V1 _ _ ?_)
 refine zG (fun K8 V8 => ?_)
 refine zC ?_
 refine zD 2 [(9, .int .i64 (l.length : Int)), (8, .slice ad l.length cap)] G7 kr kr (fun a9 G9 => ?_)
 refine wplI G9 kr (op_make (d := 10) (t := 26) (e := 214) (m := l.length) (l := (l.length : Int)) (z := .int .u32 0) (i0 := Tryz.t214) G9 kr A6 rfl kr (by first | rfl | omega) kr kr kr kr kr (by show 4 * _ ≤ _; omega) (by omega) ?_)
 intro b10 w10 Y10 A10 y10 hu10 a11 G11
 have hrow10 := URow.zeros l.length (by simp only [maxLen]; omega)
 refine wplI G11 kr (zF (t := 26) (b := b4) (off := 0) (c' := #[.slice (some ⟨b10, 0, none⟩) l.length l.length]) (g := false) (m := 1) 2 _ G11 kr A10 rfl kr rfl kr kr kr rfl (by first | decide | (simp; done)) kr rfl ?_)
 intro w12 A12 y12
 refine zH ?_
 refine zA (V8 _ _ ?_)
 refine zG (fun K13 V13 => ?_)
 refine zG (fun K14 V14 => ?_)
 refine zC ?_
 refine zD 1 [(11, .slice ad l.length cap)] G11 kr kr (fun a15 G15 => ?_)
 refine wplI G15 kr (op_call (d := 12) (f := 284) (cap := #[]) (vs := #[.slice ad l.length cap]) G15 kr A12 rfl kr kr (fun w => Tryz.call284 _ w) (digits_c _ _ A12.lt ad l.length cap) ?_)
 rintro v16 w16 A16 y16 hu16 ⟨bx16, rfl, hge16, hget16⟩ a17 G17
 have A18 := St.adopt A16 (fun o h => Nat.not_lt.2 hge16 (A12.lt _ _ h)) (Nat.le_trans A12.upd.size hge16) hget16
 have y18 := Le.adopt y16 hge16
 refine zH ?_
 refine zA (V14 _ _ ?_)
 refine i_block ?_
 refine i_range2 (f := 297) (caps := #[.pointer (some ⟨bx16, 0, none⟩)]) G17 A18 kr kr (fun args w => Tryz.call297 args w) ?_
 intro rec19 l19 b19 w19 Y19 hr19 A19 y19 hu19
 have G20 := fr_marked b19 G17
 refine digits1_c l19 bx16 ad l.length cap l (by omega) (fun k w' => ∃ (Y' : Hid) (curq : Array Value) (lq : List Nat) (rb : List (Nat × Obj)) (adr : Option Addr) (capr : Nat) (lr : List Nat) (q : Nat), St E0 w X w' Y' ((l19, .loop rec19) :: (b19, .deferred (some [])) :: (bx16, .cells #[.slice ad l.length cap] 26 (0, 0)) :: (b10, .cells curq 214 (0, 0)) :: (b6, .cells #[.slice adr lr.length capr] 26 (0, 0)) :: (b4, .cells #[.slice (some ⟨b10, 0, none⟩) l.length l.length] 26 (0, 0)) :: (b2, .cells #[.slice ad2 l2.length cap2] 26 (0, 0)) :: rb) ∧ Le (rd w19 Y19) (rd w' Y') ∧ (URow l.length l.length curq lq) ∧ (RSt 214 rb adr capr lr) ∧ (Canon lr) ∧ (val lq = 2 ^ k * q) ∧ (val l / 2 ^ k = q * val l2 + val lr) ∧ (val lr < val l2)) _ _ ((h.mono (Le7 y2 y4 y6 y10 y12 y18 y19)).mono Le.x0) ?_ ?_ ?_ ?_ (A19.at0 2 rfl rfl) ?_
 ·
  rintro k w21 ⟨Y21, curq, lq, rb, adr, capr, lr, q, A21, y21, hp21_0, hp21_1, hp21_2, hp21_3, hp21_4, hp21_5⟩
  exact A21.at0 2 rfl rfl
 ·
  rintro k w22 ⟨Y22, curq, lq, rb, adr, capr, lr, q, A22, y22, hp22_0, hp22_1, hp22_2, hp22_3, hp22_4, hp22_5⟩
  intro hk
  obtain ⟨b, off, rfl, _⟩ := h.addr (by omega)
  exact ⟨b, off, rfl, ((h.cell (i := k / 32) (by omega)).mono (Le8 y2 y4 y6 y10 y12 y18 y19 y22)).mono Le.x0⟩
 ·
  intro k w23 hk
  rintro ⟨Y23, curq, lq, rb, adr, capr, lr, q, A23, y23, hp23_0, hp23_1, hp23_2, hp23_3, hp23_4, hp23_5⟩
  refine y_round2 (p := 13) (q := 14) hr19 G17 A23 kr kr (fun a24 G24 => ?_)
  have hkl : k / 32 < l.length := by omega
  have hrowq := hp23_0
  have hrst := hp23_1
  have hcanlr := hp23_2
  have hvq := hp23_3
  have hdiv := hp23_4
  have hlt := hp23_5
  rcases hrst with ⟨rfl, rfl, rfl, rfl⟩ | ⟨gr, curr, rfl, rfl, hrowr⟩
  ·
   refine zG (fun K25 V25 => ?_)
   refine zC ?_
   refine zD 1 [(6, .int .i64 (k : Int))] G24 kr kr (fun a26 G26 => ?_)
   refine zH ?_
   refine zA (V25 _ _ ?_)
   refine zC ?_
   refine zD 1 [(7, .int .u32 ((val l / 2 ^ k % 2 : Nat) : Int))] G26 kr kr (fun a27 G27 => ?_)
   refine zH ?_
   refine zA ?_
   refine y_begin2 hr19 A23 (fun w28 A28 y28 => ?_)
   refine i_block ?_
   refine zG (fun K29 V29 => ?_)
   refine zC ?_
   refine wplI G27 kr (zE (d := 15) (v := .slice none 0 0) G27 kr (zB (t := 26) (g := false) (vs := [.slice none 0 0]) (ad := ⟨b6, 0, none⟩) rfl kr kr ir (A28.cells 4 rfl rfl)) ?_)
   intro a30 G30
   refine zD 1 [(16, .int .u32 ((val l / 2 ^ k % 2 : Nat) : Int))] G30 kr kr (fun a31 G31 => ?_)
   refine wplI G31 kr (op_call (d := 17) (f := 227) (cap := #[]) (vs := #[.slice none 0 0, .int .u32 ((val l / 2 ^ k % 2 : Nat) : Int)]) G31 kr A28 rfl kr kr (fun w => Tryz.call227 _ w) (double_nil _ X0 (X0_lt _) (val l / 2 ^ k % 2) (by omega)) ?_)
   rintro v32 w32 A32 y32 hu32 ⟨ls32, ad32, len32, cap32, ⟨⟨rfl, hl32, hlt32, ho32⟩, hcan32, hval32⟩, hlen32⟩ a33 G33
   have hx32 : val ls32 = 2 * val ([] : List Nat) + val l / 2 ^ k % 2 := by simp only [val]; omega
   rcases ho32 with ⟨rfl, rfl, rfl⟩ | ⟨g32, cur32, rfl, hge32, hget32, hrow32⟩
   ·
    have hn32 : ls32 = [] := List.eq_nil_of_length_eq_zero hl32.symm
    subst hn32
    refine wplI G33 kr (zF (t := 26) (b := b6) (off := 0) (c' := #[.slice none 0 0]) (g := false) (m := 1) 4 _ G33 kr A32 rfl kr rfl kr kr kr rfl (by first | decide | (simp; done)) kr rfl ?_)
    intro w36 A36 y36
    refine zH ?_
    refine zA (V29 _ _ ?_)
    refine zG (fun K37 V37 => ?_)
    refine zC ?_
    refine wplI G33 kr (zE (d := 18) (v := .slice none 0 0) G33 kr (zB (t := 26) (g := false) (vs := [.slice none 0 0]) (ad := ⟨b6, 0, none⟩) rfl kr kr ir (A36.cells 4 rfl rfl)) ?_)
    intro a38 G38
    refine wplI G38 kr (zE (d := 19) (v := .slice ad2 l2.length cap2) G38 kr (zB (t := 26) (g := false) (vs := [.slice ad2 l2.length cap2]) (ad := ⟨b2, 0, none⟩) rfl kr kr ir (A36.cells 6 rfl rfl)) ?_)
    intro a39 G39
    refine wplI G39 kr (op_call (d := 20) (f := 225) (cap := #[]) (vs := #[.slice none 0 0, .slice ad2 l2.length cap2]) G39 kr A36 rfl kr kr (fun w => Tryz.call225 _ w) (order_c _ X0 (X0_lt _) _ _ _ ([]) (Limbs.nil none (by omega)) _ _ _ l2 ((h2.mono (Le11 y2 y4 y6 y10 y12 y18 y19 y23 y28 y32 y36)).mono Le.x0) (.inl rfl) hc2 (by omega)) ?_)
    rintro v40 w40 A40 y40 hu40 rfl a41 G41
    refine zD 1 [(21, .bool (decide ((cmpI (val ([])) (val l2)) ≥ 0)))] G41 kr kr (fun a42 G42 => ?_)
    refine zH ?_
    refine zA (V37 _ _ ?_)
    refine i_cond (decide ((cmpI (val ([])) (val l2)) ≥ 0)) G42 kr kr (fun hc43 => ?_) (fun hc43 => ?_)
    ·
     have G44 := G42.set 21 (v' := .bool true) kr rfl (zJ hc43)
     have ht45 : (cmpI (val ([])) (val l2)) ≥ 0 := of_decide_eq_true hc43
     have hcmp := cmpI_ge ht45
     simp only [val] at hcmp; omega
    have G46 := G42.set 21 (v' := .bool false) kr rfl (zJ hc43)
    have ht47 : ¬ ((cmpI (val ([])) (val l2)) ≥ 0) := of_decide_eq_false hc43
    have hcmp := cmpI_nge ht47
    refine i_skip ?_
    refine blk_norm ?_
    refine y_next2 hr19 A40 (fun w48 A48 y48 => Rounds.next ?_)
    exact ⟨_, curq, lq, [], none, 0, [], (2 * q), A48, (Le6 y23 y28 y32 y36 y40 y48), hrowq, .inl ⟨rfl, rfl, rfl, rfl⟩, (.inl rfl), by rw [hvq, Nat.pow_succ]; ac_rfl, divB hdiv hx32, hcmp⟩
   ·
    subst hl32
    have A34 := St.adopt A32 (fun o h => Nat.not_lt.2 hge32 (A28.lt _ _ h)) (Nat.le_trans A28.upd.size hge32) hget32
    have y34 := Le.adopt y32 hge32
    have A35 := St.mid (B := []) [(l19, .loop (busyL rec19)), (b19, .deferred (some [])), (bx16, .cells #[.slice ad l.length cap] 26 (0, 0)), (b10, .cells curq 214 (0, 0)), (b6, .cells #[.slice none 0 0] 26 (0, 0)), (b4, .cells #[.slice (some ⟨b10, 0, none⟩) l.length l.length] 26 (0, 0)), (b2, .cells #[.slice ad2 l2.length cap2] 26 (0, 0))] A34
    have y35 : Le (rd w32 (hide g32 Y23)) (rd w32 (hide g32 Y23)) := Le.refl _
    refine wplI G33 kr (zF (t := 26) (b := b6) (off := 0) (c' := #[.slice (some ⟨g32, 0, none⟩) ls32.length cap32]) (g := false) (m := 1) 4 _ G33 kr A35 rfl kr rfl kr kr kr rfl (by first | decide | (simp; done)) kr rfl ?_)
    intro w49 A49 y49
    refine zH ?_
    refine zA (V29 _ _ ?_)
    refine zG (fun K50 V50 => ?_)
    refine zC ?_
    refine wplI G33 kr (zE (d := 18) (v := .slice (some ⟨g32, 0, none⟩) ls32.length cap32) G33 kr (zB (t := 26) (g := false) (vs := [.slice (some ⟨g32, 0, none⟩) ls32.length cap32]) (ad := ⟨b6, 0, none⟩) rfl kr kr ir (A49.cells 4 rfl rfl)) ?_)
    intro a51 G51
    refine wplI G51 kr (zE (d := 19) (v := .slice ad2 l2.length cap2) G51 kr (zB (t := 26) (g := false) (vs := [.slice ad2 l2.length cap2]) (ad := ⟨b2, 0, none⟩) rfl kr kr ir (A49.cells 6 rfl rfl)) ?_)
    intro a52 G52
    refine wplI G52 kr (op_call (d := 20) (f := 225) (cap := #[]) (vs := #[.slice (some ⟨g32, 0, none⟩) ls32.length cap32, .slice ad2 l2.length cap2]) G52 kr A49 rfl kr kr (fun w => Tryz.call225 _ w) (order_c _ X0 (X0_lt _) _ _ _ ls32 (URow.limbs (Y := X0) hrow32 (A49.get 7 rfl) (fun _ h => h.elim)) _ _ _ l2 ((h2.mono (Le12 y2 y4 y6 y10 y12 y18 y19 y23 y28 y34 y35 y49)).mono Le.x0) hcan32 hc2 (by omega)) ?_)
    rintro v53 w53 A53 y53 hu53 rfl a54 G54
    refine zD 1 [(21, .bool (decide ((cmpI (val ls32) (val l2)) ≥ 0)))] G54 kr kr (fun a55 G55 => ?_)
    refine zH ?_
    refine zA (V50 _ _ ?_)
    refine i_cond (decide ((cmpI (val ls32) (val l2)) ≥ 0)) G55 kr kr (fun hc56 => ?_) (fun hc56 => ?_)
    ·
     have G57 := G55.set 21 (v' := .bool true) kr rfl (zJ hc56)
     have ht58 : (cmpI (val ls32) (val l2)) ≥ 0 := of_decide_eq_true hc56
     have hcmp := cmpI_ge ht58
     obtain ⟨hset1, hset2, hset3⟩ := setbit lq hrowq.lt k q (by rw [hrowq.len]; exact hkl) hvq
     refine zG (fun K59 V59 => ?_)
     refine zC ?_
     refine wplI G57 kr (zE (d := 22) (v := .slice (some ⟨g32, 0, none⟩) ls32.length cap32) G57 kr (zB (t := 26) (g := false) (vs := [.slice (some ⟨g32, 0, none⟩) ls32.length cap32]) (ad := ⟨b6, 0, none⟩) rfl kr kr ir (A53.cells 4 rfl rfl)) ?_)
     intro a60 G60
     refine wplI G60 kr (zE (d := 23) (v := .slice ad2 l2.length cap2) G60 kr (zB (t := 26) (g := false) (vs := [.slice ad2 l2.length cap2]) (ad := ⟨b2, 0, none⟩) rfl kr kr ir (A53.cells 6 rfl rfl)) ?_)
     intro a61 G61
     refine wplI G61 kr (op_callE (d := 24) (f := 226) (cap := #[]) (vs := #[.slice (some ⟨g32, 0, none⟩) ls32.length cap32, .slice ad2 l2.length cap2]) 7 G61 kr A53 rfl kr kr (fun w => Tryz.call226 _ w) rfl (subtract_c _ g32 ls32.length cap32 _ ls32 (A53.get 7 rfl) hrow32 (by omega) _ _ _ l2 ((h2.mono (Le13 y2 y4 y6 y10 y12 y18 y19 y23 y28 y34 y35 y49 y53)).mono (A53.leHG 7 rfl)) (canon_len hrow32.lt hc2 (by omega)) (by omega)) ?_)
     rintro v62 w62 ob62 ⟨cur62, ls62, rfl, hg62, hrow62, hcan62, hval62⟩ hob62 A62 y62 a63 G63
     obtain rfl := Option.some.inj (hob62.symm.trans hg62)
     refine wplI G63 kr (zF (t := 26) (b := b6) (off := 0) (c' := #[.slice (some ⟨g32, 0, none⟩) ls62.length cap32]) (g := false) (m := 1) 4 _ G63 kr A62 rfl kr rfl kr kr kr rfl (by first | decide | (simp; done)) kr rfl ?_)
     intro w64 A64 y64
     refine zH ?_
     refine zA (V59 _ _ ?_)
     refine i_drawN (N := 11) (Held [(⟨b4, 0, none⟩, [.slice (some ⟨b10, 0, none⟩) l.length l.length]), (⟨b10, k / 32, none⟩, [.int .u32 ((lq.getD (k / 32) 0 : Nat) : Int)])]) [10] kr kr kr A64 ?_
     intro w65 A65 y65 hu65
     refine with_held (Held.cons (A65.cells 5 rfl rfl) (Held.cons (A65.rowCells 3 rfl hrowq (by have := hrowq.len; (try simp only [List.length_set] at *); omega)) (Held.nil _))) (fun hH65 => ?_)
     refine t_load (d := 25) (v := .slice (some ⟨b10, 0, none⟩) l.length l.length) 0 G63 rfl kr kr kr (fun w hw => zB (t := 26) (g := false) (vs := [.slice (some ⟨b10, 0, none⟩) l.length l.length]) (ad := ⟨b4, 0, none⟩) rfl kr kr ir (hw.get 0 kr)) hH65 ?_
     intro a66 G66
     refine zK (d := 26) (v := .int .i64 (k : Int)) 1 G66 rfl kr kr kw (fun _ => hH65) ?_
     intro a67 G67
     refine zK (d := 27) (v := .int .i64 (IntKind.i64.wrap (Int.tdiv ((k : Int)) (32)))) 2 G67 rfl kr kr kw (fun _ => hH65) ?_
     intro a68 G68
     have G69 := G68.set 27 (v' := .int .i64 ((k / 32 : Nat) : Int)) kr rfl (vint (tdiv32 _ (by omega)))
     refine zK (d := 28) (v := .pointer (some ⟨b10, k / 32, none⟩)) 3 G69 rfl kr kr (fun w => run_indexOp (t := 26) (e := 214) (b := b10) (off := 0) (len := l.length) (cap := l.length) (kd := .i64) (i := ((k / 32 : Nat) : Int)) (g := false) (m := 1) (off' := k / 32) rfl kr kr kr kr (by omega) (by omega) (by first | rfl | omega | (simp; done) | (simp; omega)) w) (fun _ => hH65) ?_
     intro a70 G70
     refine t_load (d := 29) (v := .int .u32 ((lq.getD (k / 32) 0 : Nat) : Int)) 4 G70 rfl kr kr kr (fun w hw => zB (t := 214) (g := false) (vs := [.int .u32 ((lq.getD (k / 32) 0 : Nat) : Int)]) (ad := ⟨b10, k / 32, none⟩) rfl kr kr ir (hw.get 1 kr)) hH65 ?_
     intro a71 G71
     refine zK (d := 30) (v := .int .i64 (k : Int)) 5 G71 rfl kr kr kw (fun _ => hH65) ?_
     intro a72 G72
     refine zK (d := 31) (v := .int .i64 (Int.tmod ((k : Int)) (32))) 6 G72 rfl kr kr kw (fun _ => hH65) ?_
     intro a73 G73
     have G74 := G73.set 31 (v' := .int .i64 ((k % 32 : Nat) : Int)) kr rfl (vint (tmod32 _))
     refine zK (d := 32) (v := .int .u32 ((2 ^ (k % 32) : Nat) : Int)) 7 G74 rfl kr kr (fun w => run_shl1 rfl rfl rfl (by omega)) (fun _ => hH65) ?_
     intro a75 G75
     refine zK (d := 33) (v := .int .u32 (bor32 ((lq.getD (k / 32) 0 : Nat) : Int) ((2 ^ (k % 32) : Nat) : Int))) 8 G75 rfl kr kr kw (fun _ => hH65) ?_
     intro a76 G76
     have G77 := G76.set 33 (v' := .int .u32 ((lq.getD (k / 32) 0 + 2 ^ (k % 32) : Nat) : Int)) kr rfl (vint hset1)
     refine zK (d := 34) (v := .pointer (some ⟨b10, k / 32, none⟩)) 9 G77 rfl kr kr (fun w => run_indexOp (t := 26) (e := 214) (b := b10) (off := 0) (len := l.length) (cap := l.length) (kd := .i64) (i := ((k / 32 : Nat) : Int)) (g := false) (m := 1) (off' := k / 32) rfl kr kr kr kr (by omega) (by omega) (by first | rfl | omega | (simp; done) | (simp; omega)) w) (fun _ => hH65) ?_
     intro a78 G78
     refine t_fork [10] kr rfl ?_
     refine ForkT.cons (i := 10) G78 rfl kr (op_storeU (t := 214) (y := (lq.getD (k / 32) 0 + 2 ^ (k % 32))) (k := k / 32) (e := ((lq.getD (k / 32) 0 + 2 ^ (k % 32) : Nat) : Int)) 3 G78 kr A65 rfl rfl rfl (rfl) kr rfl hrowq (by have := hrowq.len; (try simp only [List.length_set] at *); omega) (hset2) ?_) ForkT.nil
     intro cur79 w79 hrow79 A79 y79
     refine ⟨begun_tt kr, ?_⟩
     refine t_done kr (nrm ?_)
     refine blk_norm ?_
     refine y_next2 hr19 A79 (fun w80 A80 y80 => Rounds.next ?_)
     exact ⟨_, cur79, (lq.set (k / 32) (lq.getD (k / 32) 0 + 2 ^ (k % 32))), [(g32, .cells cur62 214 (0, 0))], (some ⟨g32, 0, none⟩), cap32, ls62, (2 * q + 1), A80, (Le11 y23 y28 y34 y35 y49 y53 y62 y64 y65 y79 y80), hrow79, .inr ⟨_, _, rfl, rfl, hrow62⟩, hcan62, by rw [hset3, hvq, Nat.pow_succ, Nat.mul_add, Nat.mul_one]; congr 1; ac_rfl, divA hdiv (hval62.trans (by rw [hx32])) (by omega), by have := hval62; omega⟩
    have G81 := G55.set 21 (v' := .bool false) kr rfl (zJ hc56)
    have ht82 : ¬ ((cmpI (val ls32) (val l2)) ≥ 0) := of_decide_eq_false hc56
    have hcmp := cmpI_nge ht82
    refine i_skip ?_
    refine blk_norm ?_
    refine y_next2 hr19 A53 (fun w83 A83 y83 => Rounds.next ?_)
    exact ⟨_, curq, lq, [(g32, .cells cur32 214 (0, 0))], (some ⟨g32, 0, none⟩), cap32, ls32, (2 * q), A83, (Le7 y23 y28 y34 y35 y49 y53 y83), hrowq, .inr ⟨_, _, rfl, rfl, hrow32⟩, hcan32, by rw [hvq, Nat.pow_succ]; ac_rfl, divB hdiv hx32, hcmp⟩
  ·
   refine zG (fun K84 V84 => ?_)
   refine zC ?_
   refine zD 1 [(6, .int .i64 (k : Int))] G24 kr kr (fun a85 G85 => ?_)
   refine zH ?_
   refine zA (V84 _ _ ?_)
   refine zC ?_
   refine zD 1 [(7, .int .u32 ((val l / 2 ^ k % 2 : Nat) : Int))] G85 kr kr (fun a86 G86 => ?_)
   refine zH ?_
   refine zA ?_
   refine y_begin2 hr19 A23 (fun w87 A87 y87 => ?_)
   refine i_block ?_
   refine zG (fun K88 V88 => ?_)
   refine zC ?_
   refine wplI G86 kr (zE (d := 15) (v := .slice (some ⟨gr, 0, none⟩) lr.length capr) G86 kr (zB (t := 26) (g := false) (vs := [.slice (some ⟨gr, 0, none⟩) lr.length capr]) (ad := ⟨b6, 0, none⟩) rfl kr kr ir (A87.cells 4 rfl rfl)) ?_)
   intro a89 G89
   refine zD 1 [(16, .int .u32 ((val l / 2 ^ k % 2 : Nat) : Int))] G89 kr kr (fun a90 G90 => ?_)
   have hlnr := canon_len h2.hlt hcanlr (Nat.le_of_lt hlt)
   refine wplI G90 kr (op_callG (d := 17) (f := 227) (cap := #[]) (vs := #[.slice (some ⟨gr, 0, none⟩) lr.length capr, .int .u32 ((val l / 2 ^ k % 2 : Nat) : Int)]) 7 G90 kr A87 rfl kr kr (fun w => Tryz.call227 _ w) rfl (double_c _ gr lr.length capr _ lr (A87.get 7 rfl) hrowr (by omega) hcanlr (val l / 2 ^ k % 2) (by omega)) ?_)
   rintro v91 w91 Y91 g91 o91 ⟨cur91, cap91, ls91, rfl, rfl, hrow91, hlen91, hcan91, hval91⟩ A91 y91 a92 G92
   refine wplI G92 kr (zF (t := 26) (b := b6) (off := 0) (c' := #[.slice (some ⟨g91, 0, none⟩) ls91.length cap91]) (g := false) (m := 1) 4 _ G92 kr A91 rfl kr rfl kr kr kr rfl (by first | decide | (simp; done)) kr rfl ?_)
   intro w93 A93 y93
   refine zH ?_
   refine zA (V88 _ _ ?_)
   refine zG (fun K94 V94 => ?_)
   refine zC ?_
   refine wplI G92 kr (zE (d := 18) (v := .slice (some ⟨g91, 0, none⟩) ls91.length cap91) G92 kr (zB (t := 26) (g := false) (vs := [.slice (some ⟨g91, 0, none⟩) ls91.length cap91]) (ad := ⟨b6, 0, none⟩) rfl kr kr ir (A93.cells 4 rfl rfl)) ?_)
   intro a95 G95
   refine wplI G95 kr (zE (d := 19) (v := .slice ad2 l2.length cap2) G95 kr (zB (t := 26) (g := false) (vs := [.slice ad2 l2.length cap2]) (ad := ⟨b2, 0, none⟩) rfl kr kr ir (A93.cells 6 rfl rfl)) ?_)
   intro a96 G96
   refine wplI G96 kr (op_call (d := 20) (f := 225) (cap := #[]) (vs := #[.slice (some ⟨g91, 0, none⟩) ls91.length cap91, .slice ad2 l2.length cap2]) G96 kr A93 rfl kr kr (fun w => Tryz.call225 _ w) (order_c _ X0 (X0_lt _) _ _ _ ls91 (URow.limbs (Y := X0) hrow91 (A93.get 7 rfl) (fun _ h => h.elim)) _ _ _ l2 ((h2.mono (Le11 y2 y4 y6 y10 y12 y18 y19 y23 y87 y91 y93)).mono Le.x0) hcan91 hc2 (by omega)) ?_)
   rintro v97 w97 A97 y97 hu97 rfl a98 G98
   refine zD 1 [(21, .bool (decide ((cmpI (val ls91) (val l2)) ≥ 0)))] G98 kr kr (fun a99 G99 => ?_)
   refine zH ?_
   refine zA (V94 _ _ ?_)
   refine i_cond (decide ((cmpI (val ls91) (val l2)) ≥ 0)) G99 kr kr (fun hc100 => ?_) (fun hc100 => ?_)
   ·
    have G101 := G99.set 21 (v' := .bool true) kr rfl (zJ hc100)
    have ht102 : (cmpI (val ls91) (val l2)) ≥ 0 := of_decide_eq_true hc100
    have hcmp := cmpI_ge ht102
    obtain ⟨hset1, hset2, hset3⟩ := setbit lq hrowq.lt k q (by rw [hrowq.len]; exact hkl) hvq
    refine zG (fun K103 V103 => ?_)
    refine zC ?_
    refine wplI G101 kr (zE (d := 22) (v := .slice (some ⟨g91, 0, none⟩) ls91.length cap91) G101 kr (zB (t := 26) (g := false) (vs := [.slice (some ⟨g91, 0, none⟩) ls91.length cap91]) (ad := ⟨b6, 0, none⟩) rfl kr kr ir (A97.cells 4 rfl rfl)) ?_)
    intro a104 G104
    refine wplI G104 kr (zE (d := 23) (v := .slice ad2 l2.length cap2) G104 kr (zB (t := 26) (g := false) (vs := [.slice ad2 l2.length cap2]) (ad := ⟨b2, 0, none⟩) rfl kr kr ir (A97.cells 6 rfl rfl)) ?_)
    intro a105 G105
    refine wplI G105 kr (op_callE (d := 24) (f := 226) (cap := #[]) (vs := #[.slice (some ⟨g91, 0, none⟩) ls91.length cap91, .slice ad2 l2.length cap2]) 7 G105 kr A97 rfl kr kr (fun w => Tryz.call226 _ w) rfl (subtract_c _ g91 ls91.length cap91 _ ls91 (A97.get 7 rfl) hrow91 (by omega) _ _ _ l2 ((h2.mono (Le12 y2 y4 y6 y10 y12 y18 y19 y23 y87 y91 y93 y97)).mono (A97.leHG 7 rfl)) (canon_len hrow91.lt hc2 (by omega)) (by omega)) ?_)
    rintro v106 w106 ob106 ⟨cur106, ls106, rfl, hg106, hrow106, hcan106, hval106⟩ hob106 A106 y106 a107 G107
    obtain rfl := Option.some.inj (hob106.symm.trans hg106)
    refine wplI G107 kr (zF (t := 26) (b := b6) (off := 0) (c' := #[.slice (some ⟨g91, 0, none⟩) ls106.length cap91]) (g := false) (m := 1) 4 _ G107 kr A106 rfl kr rfl kr kr kr rfl (by first | decide | (simp; done)) kr rfl ?_)
    intro w108 A108 y108
    refine zH ?_
    refine zA (V103 _ _ ?_)
    refine i_drawN (N := 11) (Held [(⟨b4, 0, none⟩, [.slice (some ⟨b10, 0, none⟩) l.length l.length]), (⟨b10, k / 32, none⟩, [.int .u32 ((lq.getD (k / 32) 0 : Nat) : Int)])]) [10] kr kr kr A108 ?_
    intro w109 A109 y109 hu109
    refine with_held (Held.cons (A109.cells 5 rfl rfl) (Held.cons (A109.rowCells 3 rfl hrowq (by have := hrowq.len; (try simp only [List.length_set] at *); omega)) (Held.nil _))) (fun hH109 => ?_)
    refine t_load (d := 25) (v := .slice (some ⟨b10, 0, none⟩) l.length l.length) 0 G107 rfl kr kr kr (fun w hw => zB (t := 26) (g := false) (vs := [.slice (some ⟨b10, 0, none⟩) l.length l.length]) (ad := ⟨b4, 0, none⟩) rfl kr kr ir (hw.get 0 kr)) hH109 ?_
    intro a110 G110
    refine zK (d := 26) (v := .int .i64 (k : Int)) 1 G110 rfl kr kr kw (fun _ => hH109) ?_
    intro a111 G111
    refine zK (d := 27) (v := .int .i64 (IntKind.i64.wrap (Int.tdiv ((k : Int)) (32)))) 2 G111 rfl kr kr kw (fun _ => hH109) ?_
    intro a112 G112
    have G113 := G112.set 27 (v' := .int .i64 ((k / 32 : Nat) : Int)) kr rfl (vint (tdiv32 _ (by omega)))
    refine zK (d := 28) (v := .pointer (some ⟨b10, k / 32, none⟩)) 3 G113 rfl kr kr (fun w => run_indexOp (t := 26) (e := 214) (b := b10) (off := 0) (len := l.length) (cap := l.length) (kd := .i64) (i := ((k / 32 : Nat) : Int)) (g := false) (m := 1) (off' := k / 32) rfl kr kr kr kr (by omega) (by omega) (by first | rfl | omega | (simp; done) | (simp; omega)) w) (fun _ => hH109) ?_
    intro a114 G114
    refine t_load (d := 29) (v := .int .u32 ((lq.getD (k / 32) 0 : Nat) : Int)) 4 G114 rfl kr kr kr (fun w hw => zB (t := 214) (g := false) (vs := [.int .u32 ((lq.getD (k / 32) 0 : Nat) : Int)]) (ad := ⟨b10, k / 32, none⟩) rfl kr kr ir (hw.get 1 kr)) hH109 ?_
    intro a115 G115
    refine zK (d := 30) (v := .int .i64 (k : Int)) 5 G115 rfl kr kr kw (fun _ => hH109) ?_
    intro a116 G116
    refine zK (d := 31) (v := .int .i64 (Int.tmod ((k : Int)) (32))) 6 G116 rfl kr kr kw (fun _ => hH109) ?_
    intro a117 G117
    have G118 := G117.set 31 (v' := .int .i64 ((k % 32 : Nat) : Int)) kr rfl (vint (tmod32 _))
    refine zK (d := 32) (v := .int .u32 ((2 ^ (k % 32) : Nat) : Int)) 7 G118 rfl kr kr (fun w => run_shl1 rfl rfl rfl (by omega)) (fun _ => hH109) ?_
    intro a119 G119
    refine zK (d := 33) (v := .int .u32 (bor32 ((lq.getD (k / 32) 0 : Nat) : Int) ((2 ^ (k % 32) : Nat) : Int))) 8 G119 rfl kr kr kw (fun _ => hH109) ?_
    intro a120 G120
    have G121 := G120.set 33 (v' := .int .u32 ((lq.getD (k / 32) 0 + 2 ^ (k % 32) : Nat) : Int)) kr rfl (vint hset1)
    refine zK (d := 34) (v := .pointer (some ⟨b10, k / 32, none⟩)) 9 G121 rfl kr kr (fun w => run_indexOp (t := 26) (e := 214) (b := b10) (off := 0) (len := l.length) (cap := l.length) (kd := .i64) (i := ((k / 32 : Nat) : Int)) (g := false) (m := 1) (off' := k / 32) rfl kr kr kr kr (by omega) (by omega) (by first | rfl | omega | (simp; done) | (simp; omega)) w) (fun _ => hH109) ?_
    intro a122 G122
    refine t_fork [10] kr rfl ?_
    refine ForkT.cons (i := 10) G122 rfl kr (op_storeU (t := 214) (y := (lq.getD (k / 32) 0 + 2 ^ (k % 32))) (k := k / 32) (e := ((lq.getD (k / 32) 0 + 2 ^ (k % 32) : Nat) : Int)) 3 G122 kr A109 rfl rfl rfl (rfl) kr rfl hrowq (by have := hrowq.len; (try simp only [List.length_set] at *); omega) (hset2) ?_) ForkT.nil
    intro cur123 w123 hrow123 A123 y123
    refine ⟨begun_tt kr, ?_⟩
    refine t_done kr (nrm ?_)
    refine blk_norm ?_
    refine y_next2 hr19 A123 (fun w124 A124 y124 => Rounds.next ?_)
    exact ⟨_, cur123, (lq.set (k / 32) (lq.getD (k / 32) 0 + 2 ^ (k % 32))), [(g91, .cells cur106 214 (0, 0))], (some ⟨g91, 0, none⟩), cap91, ls106, (2 * q + 1), A124, (Le10 y23 y87 y91 y93 y97 y106 y108 y109 y123 y124), hrow123, .inr ⟨_, _, rfl, rfl, hrow106⟩, hcan106, by rw [hset3, hvq, Nat.pow_succ, Nat.mul_add, Nat.mul_one]; congr 1; ac_rfl, divA hdiv (hval106.trans (by rw [hval91])) (by omega), by have := hval106; omega⟩
   have G125 := G99.set 21 (v' := .bool false) kr rfl (zJ hc100)
   have ht126 : ¬ ((cmpI (val ls91) (val l2)) ≥ 0) := of_decide_eq_false hc100
   have hcmp := cmpI_nge ht126
   refine i_skip ?_
   refine blk_norm ?_
   refine y_next2 hr19 A97 (fun w127 A127 y127 => Rounds.next ?_)
   exact ⟨_, curq, lq, [(g91, .cells cur91 214 (0, 0))], (some ⟨g91, 0, none⟩), cap91, ls91, (2 * q), A127, (Le6 y23 y87 y91 y93 y97 y127), hrowq, .inr ⟨_, _, rfl, rfl, hrow91⟩, hcan91, by rw [hvq, Nat.pow_succ]; ac_rfl, divB hdiv hval91, hcmp⟩
 ·
  rintro w128 ⟨Y128, curq, lq, rb, adr, capr, lr, q, A128, y128, hp128_0, hp128_1, hp128_2, hp128_3, hp128_4, hp128_5⟩
  refine RangeEnd.norm hr19 A128 (fun w129 A129 y129 => ?_)
  have hrowq := hp128_0
  have hrst := hp128_1
  have hcanlr := hp128_2
  have hvq := hp128_3
  have hdiv := hp128_4
  have hlt := hp128_5
  rcases hrst with ⟨rfl, rfl, rfl, rfl⟩ | ⟨gr, curr, rfl, rfl, hrowr⟩
  ·
   refine blk_norm ?_
   refine zA (V13 _ _ ?_)
   refine zG (fun K130 V130 => ?_)
   refine i_drawN (N := 5) (Held [(⟨b6, 0, none⟩, [.slice none 0 0])]) [4] kr kr kr A129 ?_
   intro w131 A131 y131 hu131
   refine with_held (Held.cons (A131.cells 4 rfl rfl) (Held.nil _)) (fun hH131 => ?_)
   refine t_load (d := 37) (v := .slice none 0 0) 2 G20 rfl kr kr kr (fun w hw => zB (t := 26) (g := false) (vs := [.slice none 0 0]) (ad := ⟨b6, 0, none⟩) rfl kr kr ir (hw.get 0 kr)) hH131 ?_
   intro a132 G132
   refine t_fork [0] kr rfl ?_
   refine ForkT.cons (i := 0) G132 rfl kr (zE (d := 35) (v := .slice (some ⟨b10, 0, none⟩) l.length l.length) G132 kr (zB (t := 26) (g := false) (vs := [.slice (some ⟨b10, 0, none⟩) l.length l.length]) (ad := ⟨b4, 0, none⟩) rfl kr kr ir (A131.cells 5 rfl rfl)) ?_) ForkT.nil
   intro a133 G133
   refine held_next (Held.cons (A131.cells 4 rfl rfl) (Held.nil _)) (fun hH131 => ?_)
   refine t_fork [1] kr rfl ?_
   refine ForkT.cons (i := 1) G133 rfl kr (op_call (d := 36) (f := 235) (cap := #[]) (vs := #[.slice (some ⟨b10, 0, none⟩) l.length l.length]) G133 kr A131 rfl kr kr (fun w => Tryz.call235 _ w) (trim_c _ X0 (X0_lt _) _ _ _ lq (URow.limbs (Y := X0) hrowq (A131.get 3 rfl) (fun _ h => h.elim))) ?_) ForkT.nil
   rintro v134 w134 A134 y134 hu134 rfl a135 G135
   refine held_next (Held.cons (A134.cells 4 rfl rfl) (Held.nil _)) (fun hH134 => ?_)
   refine t_fork [3] kr rfl ?_
   refine ForkT.cons (i := 3) G135 rfl kr (zF (t := 26) (b := b4) (off := 0) (c' := #[.slice (some ⟨b10, 0, none⟩) (trimN lq) l.length]) (g := false) (m := 1) 5 _ G135 kr A134 rfl kr rfl kr kr kr rfl (by first | decide | (simp; done)) kr rfl ?_) ForkT.nil
   intro w136 A136 y136
   refine held_next (Held.cons (A136.cells 4 rfl rfl) (Held.nil _)) (fun hH136 => ?_)
   refine t_fork [4] kr rfl ?_
   refine ForkT.cons (i := 4) G135 rfl kr (zF (t := 26) (b := b6) (off := 0) (c' := #[.slice none 0 0]) (g := false) (m := 1) 4 _ G135 kr A136 rfl kr rfl kr kr kr rfl (by first | decide | (simp; done)) kr rfl ?_) ForkT.nil
   intro w137 A137 y137
   refine ⟨begun_tt kr, ?_⟩
   refine t_done kr (nrm ?_)
   refine zA (V130 _ _ ?_)
   refine i_ret ?_
   refine m_ret1 (v := .tuple #[.slice (some ⟨b10, 0, none⟩) (trimN lq) l.length, .slice none 0 0]) (rs := [.cell 4 26, .cell 5 26]) (vs := [.slice (some ⟨b10, 0, none⟩) (trimN lq) l.length, .slice none 0 0]) 1 G135 A137 rfl kr kr (fun w138 A138 y138 => ?_)
   refine ⟨(Res.cell (ad := ⟨b4, 0, none⟩) (cs := [.slice (some ⟨b10, 0, none⟩) (trimN lq) l.length]) (g := false) kr kr kr ir (A138.cells 5 rfl rfl) (Res.cell (ad := ⟨b6, 0, none⟩) (cs := [.slice none 0 0]) (g := false) kr kr kr ir (A138.cells 4 rfl rfl) Res.nil)), ?_⟩
   obtain ⟨he1, he2⟩ := divEnd hdiv hlt hvq
   exact ⟨A138.upd, _, rfl, _, _, Go.Gv.trimmed lq, [], _, _, _, _, _, _, rfl, ⟨⟨rfl, (trimmed_length _).symm, trimmed_lt hrowq.lt, .inr ⟨_, _, rfl, A138.own_ge 3 rfl, A138.get 3 rfl, hrowq.trimmed⟩⟩, canon_trimmed _, by rw [val_trimmed]; exact he1⟩, ⟨⟨rfl, rfl, fun x hx => by simp at hx, .inl ⟨rfl, rfl, rfl⟩⟩, .inl rfl, he2⟩⟩
  ·
   refine blk_norm ?_
   refine zA (V13 _ _ ?_)
   refine zG (fun K139 V139 => ?_)
   refine i_drawN (N := 5) (Held [(⟨b6, 0, none⟩, [.slice (some ⟨gr, 0, none⟩) lr.length capr])]) [4] kr kr kr A129 ?_
   intro w140 A140 y140 hu140
   refine with_held (Held.cons (A140.cells 4 rfl rfl) (Held.nil _)) (fun hH140 => ?_)
   refine t_load (d := 37) (v := .slice (some ⟨gr, 0, none⟩) lr.length capr) 2 G20 rfl kr kr kr (fun w hw => zB (t := 26) (g := false) (vs := [.slice (some ⟨gr, 0, none⟩) lr.length capr]) (ad := ⟨b6, 0, none⟩) rfl kr kr ir (hw.get 0 kr)) hH140 ?_
   intro a141 G141
   refine t_fork [0] kr rfl ?_
   refine ForkT.cons (i := 0) G141 rfl kr (zE (d := 35) (v := .slice (some ⟨b10, 0, none⟩) l.length l.length) G141 kr (zB (t := 26) (g := false) (vs := [.slice (some ⟨b10, 0, none⟩) l.length l.length]) (ad := ⟨b4, 0, none⟩) rfl kr kr ir (A140.cells 5 rfl rfl)) ?_) ForkT.nil
   intro a142 G142
   refine held_next (Held.cons (A140.cells 4 rfl rfl) (Held.nil _)) (fun hH140 => ?_)
   refine t_fork [1] kr rfl ?_
   refine ForkT.cons (i := 1) G142 rfl kr (op_call (d := 36) (f := 235) (cap := #[]) (vs := #[.slice (some ⟨b10, 0, none⟩) l.length l.length]) G142 kr A140 rfl kr kr (fun w => Tryz.call235 _ w) (trim_c _ X0 (X0_lt _) _ _ _ lq (URow.limbs (Y := X0) hrowq (A140.get 3 rfl) (fun _ h => h.elim))) ?_) ForkT.nil
   rintro v143 w143 A143 y143 hu143 rfl a144 G144
   refine held_next (Held.cons (A143.cells 4 rfl rfl) (Held.nil _)) (fun hH143 => ?_)
   refine t_fork [3] kr rfl ?_
   refine ForkT.cons (i := 3) G144 rfl kr (zF (t := 26) (b := b4) (off := 0) (c' := #[.slice (some ⟨b10, 0, none⟩) (trimN lq) l.length]) (g := false) (m := 1) 5 _ G144 kr A143 rfl kr rfl kr kr kr rfl (by first | decide | (simp; done)) kr rfl ?_) ForkT.nil
   intro w145 A145 y145
   refine held_next (Held.cons (A145.cells 4 rfl rfl) (Held.nil _)) (fun hH145 => ?_)
   refine t_fork [4] kr rfl ?_
   refine ForkT.cons (i := 4) G144 rfl kr (zF (t := 26) (b := b6) (off := 0) (c' := #[.slice (some ⟨gr, 0, none⟩) lr.length capr]) (g := false) (m := 1) 4 _ G144 kr A145 rfl kr rfl kr kr kr rfl (by first | decide | (simp; done)) kr rfl ?_) ForkT.nil
   intro w146 A146 y146
   refine ⟨begun_tt kr, ?_⟩
   refine t_done kr (nrm ?_)
   refine zA (V139 _ _ ?_)
   refine i_ret ?_
   refine m_ret1 (v := .tuple #[.slice (some ⟨b10, 0, none⟩) (trimN lq) l.length, .slice (some ⟨gr, 0, none⟩) lr.length capr]) (rs := [.cell 4 26, .cell 5 26]) (vs := [.slice (some ⟨b10, 0, none⟩) (trimN lq) l.length, .slice (some ⟨gr, 0, none⟩) lr.length capr]) 1 G144 A146 rfl kr kr (fun w147 A147 y147 => ?_)
   refine ⟨(Res.cell (ad := ⟨b4, 0, none⟩) (cs := [.slice (some ⟨b10, 0, none⟩) (trimN lq) l.length]) (g := false) kr kr kr ir (A147.cells 5 rfl rfl) (Res.cell (ad := ⟨b6, 0, none⟩) (cs := [.slice (some ⟨gr, 0, none⟩) lr.length capr]) (g := false) kr kr kr ir (A147.cells 4 rfl rfl) Res.nil)), ?_⟩
   obtain ⟨he1, he2⟩ := divEnd hdiv hlt hvq
   exact ⟨A147.upd, _, rfl, _, _, Go.Gv.trimmed lq, lr, _, _, _, _, _, _, rfl, ⟨⟨rfl, (trimmed_length _).symm, trimmed_lt hrowq.lt, .inr ⟨_, _, rfl, A147.own_ge 3 rfl, A147.get 3 rfl, hrowq.trimmed⟩⟩, canon_trimmed _, by rw [val_trimmed]; exact he1⟩, ⟨⟨rfl, rfl, hrowr.lt, .inr ⟨_, _, rfl, A147.own_ge 7 rfl, A147.get 7 rfl, hrowr⟩⟩, hcanlr, he2⟩⟩
 ·
  intro k w9 hu9 hm1 hm2
  exact ⟨_, (List.replicate l.length (Value.int .u32 0)).toArray, (List.replicate l.length 0), [], none, 0, [], 0, A19.call hu9, hu9.le _, hrow10, .inl ⟨rfl, rfl, rfl, rfl⟩, .inl rfl, by rw [val_replicate]; rfl, by rw [Nat.div_eq_of_lt hm1]; simp [val], hd⟩
end Go.Proofs.YtdfmdiakjdggbaaGreatDoor
namespace Go.Proofs.YtdfmdiakjdggbaaGreatDoor
open Go Go.Gv Go.RowKit
set_option maxRecDepth 100000
set_option maxHeartbeats 1000000
def zeroE (y : Nat) : Int := if y = 0 then 14 else 0
theorem DivMod_c (w : World) (X : Hid) (hX : ∀ k o, X k o → k < w.heap.size) (ad : Option Addr) (len cap : Nat) (l : List Nat) (h : Limbs (rd w X) ad len cap l) (ad2 : Option Addr) (len2 cap2 : Nat) (l2 : List Nat) (h2 : Limbs (rd w X) ad2 len2 cap2 l2) : Calls Tryz.prog 233 #[.slice ad len cap, .slice ad2 len2 cap2] w (Ret E0 w fun w' v => DivV 214 w w' (or2 (chk2 l l2) (zeroE (val l2))) (val l / val l2) (val l % val l2) v) := by
 obtain rfl := h.hlen
 obtain rfl := h2.hlen
 have hcap := h.hcap
 have hbig := h.hbig
 have hcap2 := h2.hcap
 have hbig2 := h2.hbig
 refine zen Tryz.func233 ?_
 have A0 : St E0 w X w X [] := St.start hX
 refine zz 12 ?_
 refine zc A0 (bcheck2 _ X0 (X0_lt _) _ _ _ l (h.mono Le.x0) _ _ _ l2 (h2.mono Le.x0)) ?_
 rintro v3 w3 A3 y3 hu3 rfl
 refine zz 11 ?_
 refine zb 11 (b := ((chk2 l l2) != 0)) (fun hc4 => ?_) (fun hc4 => ?_)
 ·
  have ht5 : (chk2 l l2) ≠ 0 := by simpa using hc4
  refine zz 12 ?_
  refine zr' (v := .tuple #[.slice none 0 0, .slice none 0 0, .int .i64 (chk2 l l2)]) ?_
  exact ⟨A3.upd, _, rfl, by rw [or2_err ht5]; exact .inl ⟨ht5, rfl⟩⟩
 have ht6 : (chk2 l l2) = 0 := by simpa using hc4
 obtain ⟨⟨hl1, c1⟩, hl2, c2⟩ := chk2_ok ht6
 refine zz 9 ?_
 refine zb 15 (b := ((l2.length : Int) == 0)) (fun hc7 => ?_) (fun hc7 => ?_)
 ·
  have ht8 : (l2.length : Int) = 0 := by simpa using hc7
  have hz : val l2 = 0 := by rw [List.eq_nil_of_length_eq_zero (by omega : l2.length = 0)]; rfl
  refine zz 11 ?_
  refine zr' (v := .tuple #[.slice none 0 0, .slice none 0 0, .int .i64 14]) ?_
  exact ⟨A3.upd, _, rfl, by rw [or2_ok ht6, zeroE, if_pos hz]; exact .inl ⟨by decide, rfl⟩⟩
 have ht9 : (l2.length : Int) ≠ 0 := by simpa using hc7
 have hp : 0 < val l2 := canon_pos c2 (by rintro rfl; simp at ht9)
 refine zz 8 ?_
 refine zc A3 (divide_c _ X0 (X0_lt _) _ _ _ l ((h.mono y3).mono Le.x0) _ _ _ l2 ((h2.mono y3).mono Le.x0) c1 c2 (by omega) (by omega) hp) ?_
 rintro v11 w11 A11 y11 hu11 ⟨u11, v211, lq11, lr11, adq11, lenq11, capq11, adr11, lenr11, capr11, rfl, hq11, hr11⟩
 obtain rfl := hq11.own.hv; obtain rfl := hr11.own.hv
 refine zz 17 ?_
 refine zr' (v := .tuple #[.slice adq11 lenq11 capq11, .slice adr11 lenr11 capr11, .int .i64 0]) ?_
 have hsz := (A3).upd.size
 exact ⟨A11.upd, _, rfl, by rw [or2_ok ht6, zeroE, if_neg (by omega)]; exact .inr ⟨rfl, _, _, _, _, _, _, _, _, _, _, rfl, hq11.back hsz, Nat.le_trans (canon_len h.hlt hq11.canon (by rw [hq11.val]; exact Nat.div_le_self _ _)) hl1, hr11.back hsz, Nat.le_trans (canon_len h.hlt hr11.canon (by rw [hr11.val]; exact Nat.mod_le _ _)) hl1⟩⟩
end Go.Proofs.YtdfmdiakjdggbaaGreatDoor
namespace Go.Proofs.YtdfmdiakjdggbaaGreatDoor
open Go Go.Gv Go.RowKit
set_option maxRecDepth 100000
set_option maxHeartbeats 1000000
theorem chk2_of {l l2 : List Nat} (h : l.length ≤ 512) (hc : Canon l) (h2 : l2.length ≤ 512) (hc2 : Canon l2) : chk2 l l2 = 0 := by
  unfold chk2; rw [chkN_of h hc, chkN_of h2 hc2]; rfl
theorem Mul_n (w : World) (ad : Option Addr) (len cap x : Nat) (h : NatR (rd w X0) ad len cap x) (ad2 : Option Addr) (len2 cap2 y : Nat) (h2 : NatR (rd w X0) ad2 len2 cap2 y) (hx : x < 4294967296 ^ 512) (hy : y < 4294967296 ^ 512) (hf : x * y < 4294967296 ^ 512) : Calls Tryz.prog 230 #[.slice ad len cap, .slice ad2 len2 cap2] w (Ret E0 w fun w' v => ∃ u, v = .tuple #[u, .int .i64 0] ∧ NatV w w' u (x * y)) := by
  obtain ⟨l, hl, hc, rfl, hn⟩ := h.limbs hx
  obtain ⟨l2, hl2, hc2, rfl, hn2⟩ := h2.limbs hy
  refine (Mul_c w X0 (X0_lt _) ad len cap l hl ad2 len2 cap2 l2 hl2).mono ?_
  rintro e w' ⟨hu, v, rfl, hv⟩
  obtain ⟨u, lr, adr, lenr, capr, rfl, hown, _⟩ := hv.ok (by rw [or2_ok (chk2_of hn hc hn2 hc2)]; unfold fitE; rw [if_pos hf])
  exact ⟨hu, _, rfl, u, rfl, hown.natV⟩
theorem Add_n (w : World) (ad : Option Addr) (len cap x : Nat) (h : NatR (rd w X0) ad len cap x) (ad2 : Option Addr) (len2 cap2 y : Nat) (h2 : NatR (rd w X0) ad2 len2 cap2 y) (hx : x < 4294967296 ^ 512) (hy : y < 4294967296 ^ 512) (hf : x + y < 4294967296 ^ 512) : Calls Tryz.prog 231 #[.slice ad len cap, .slice ad2 len2 cap2] w (Ret E0 w fun w' v => ∃ u, v = .tuple #[u, .int .i64 0] ∧ NatV w w' u (x + y)) := by
  obtain ⟨l, hl, hc, rfl, hn⟩ := h.limbs hx
  obtain ⟨l2, hl2, hc2, rfl, hn2⟩ := h2.limbs hy
  refine (Add_c w X0 (X0_lt _) ad len cap l hl ad2 len2 cap2 l2 hl2).mono ?_
  rintro e w' ⟨hu, v, rfl, hv⟩
  obtain ⟨u, lr, adr, lenr, capr, rfl, hown, _⟩ := hv.ok (by rw [or2_ok (chk2_of hn hc hn2 hc2)]; unfold fitE; rw [if_pos hf])
  exact ⟨hu, _, rfl, u, rfl, hown.natV⟩
theorem Sub_n (w : World) (ad : Option Addr) (len cap x : Nat) (h : NatR (rd w X0) ad len cap x) (ad2 : Option Addr) (len2 cap2 y : Nat) (h2 : NatR (rd w X0) ad2 len2 cap2 y) (hx : x < 4294967296 ^ 512) (hy : y < 4294967296 ^ 512) (hf : y ≤ x) : Calls Tryz.prog 232 #[.slice ad len cap, .slice ad2 len2 cap2] w (Ret E0 w fun w' v => ∃ u, v = .tuple #[u, .int .i64 0] ∧ NatV w w' u (x - y)) := by
  obtain ⟨l, hl, hc, rfl, hn⟩ := h.limbs hx
  obtain ⟨l2, hl2, hc2, rfl, hn2⟩ := h2.limbs hy
  refine (Sub_c w X0 (X0_lt _) ad len cap l hl ad2 len2 cap2 l2 hl2).mono ?_
  rintro e w' ⟨hu, v, rfl, hv⟩
  obtain ⟨u, lr, adr, lenr, capr, rfl, hown, _⟩ := hv.ok (by rw [or2_ok (chk2_of hn hc hn2 hc2)]; unfold subE; rw [if_neg (by omega)])
  exact ⟨hu, _, rfl, u, rfl, hown.natV⟩
theorem Sub_less (w : World) (ad : Option Addr) (len cap x : Nat) (h : NatR (rd w X0) ad len cap x) (ad2 : Option Addr) (len2 cap2 y : Nat) (h2 : NatR (rd w X0) ad2 len2 cap2 y) (hx : x < 4294967296 ^ 512) (hy : y < 4294967296 ^ 512) (hf : x < y) : Calls Tryz.prog 232 #[.slice ad len cap, .slice ad2 len2 cap2] w (Ret E0 w fun _ v => v = .tuple #[.slice none 0 0, .int .i64 7]) := by
  obtain ⟨l, hl, hc, rfl, hn⟩ := h.limbs hx
  obtain ⟨l2, hl2, hc2, rfl, hn2⟩ := h2.limbs hy
  refine (Sub_c w X0 (X0_lt _) ad len cap l hl ad2 len2 cap2 l2 hl2).mono ?_
  rintro e w' ⟨hu, v, rfl, hv⟩
  have he : or2 (chk2 l l2) (subE (val l) (val l2)) = 7 := by rw [or2_ok (chk2_of hn hc hn2 hc2)]; unfold subE; rw [if_pos hf]
  rw [he] at hv
  exact ⟨hu, _, rfl, hv.err (by decide)⟩
theorem GCD_n (w : World) (ad : Option Addr) (len cap x : Nat) (h : NatR (rd w X0) ad len cap x) (ad2 : Option Addr) (len2 cap2 y : Nat) (h2 : NatR (rd w X0) ad2 len2 cap2 y) (hx : x < 4294967296 ^ 512) (hy : y < 4294967296 ^ 512) : Calls Tryz.prog 155 #[.slice ad len cap, .slice ad2 len2 cap2] w (Ret E0 w fun w' v => ∃ u, v = .tuple #[u, .int .i64 0] ∧ NatV w w' u (Nat.gcd x y)) := by
  obtain ⟨l, hl, hc, rfl, hn⟩ := h.limbs hx
  obtain ⟨l2, hl2, hc2, rfl, hn2⟩ := h2.limbs hy
  refine (GCD_c w X0 (X0_lt _) ad len cap l hl ad2 len2 cap2 l2 hl2).mono ?_
  rintro e w' ⟨hu, v, rfl, hv⟩
  obtain ⟨u, lr, adr, lenr, capr, rfl, hown, _⟩ := hv.ok (chk2_of hn hc hn2 hc2)
  exact ⟨hu, _, rfl, u, rfl, hown.natV⟩
theorem DivMod_n (w : World) (ad : Option Addr) (len cap x : Nat) (h : NatR (rd w X0) ad len cap x) (ad2 : Option Addr) (len2 cap2 y : Nat) (h2 : NatR (rd w X0) ad2 len2 cap2 y) (hx : x < 4294967296 ^ 512) (hy : y < 4294967296 ^ 512) (hd : 0 < y) : Calls Tryz.prog 233 #[.slice ad len cap, .slice ad2 len2 cap2] w (Ret E0 w fun w' v => ∃ u u2, v = .tuple #[u, u2, .int .i64 0] ∧ NatV w w' u (x / y) ∧ NatV w w' u2 (x % y)) := by
  obtain ⟨l, hl, hc, rfl, hn⟩ := h.limbs hx
  obtain ⟨l2, hl2, hc2, rfl, hn2⟩ := h2.limbs hy
  refine (DivMod_c w X0 (X0_lt _) ad len cap l hl ad2 len2 cap2 l2 hl2).mono ?_
  rintro e w' ⟨hu, v, rfl, hv⟩
  have he : or2 (chk2 l l2) (zeroE (val l2)) = 0 := by rw [or2_ok (chk2_of hn hc hn2 hc2)]; unfold zeroE; rw [if_neg (by omega)]
  rcases hv with ⟨h0, _⟩ | ⟨_, u, u2, a1, a2, a3, a4, a5, a6, a7, a8, rfl, hq, _, hr, _⟩
  · exact absurd he h0
  · exact ⟨hu, _, rfl, u, u2, rfl, hq.natV, hr.natV⟩
theorem clone_n (w : World) (ad : Option Addr) (len cap x : Nat) (h : NatR (rd w X0) ad len cap x) (hx : x < 4294967296 ^ 512) : Calls Tryz.prog 223 #[.slice ad len cap] w (Ret E0 w fun w' v => NatV w w' v x) := by
  obtain ⟨l, hl, hc, rfl, hn⟩ := h.limbs hx
  refine (clone_c w X0 (X0_lt _) ad len cap l hl (by rw [hl.hlen]; omega)).mono ?_
  rintro e w' ⟨hu, v, rfl, ad', len', cap', hown⟩
  exact ⟨hu, _, rfl, OwnN.natV ⟨hown, hc, rfl⟩⟩
theorem from_n (w : World) (x : Nat) (hx : x < 18446744073709551616) : Calls Tryz.prog 174 #[.int .u64 (x : Int)] w (Ret E0 w fun w' v => NatV w w' v x) := by
  refine (from_c w X0 (X0_lt _) x hx).mono ?_
  rintro e w' ⟨hu, v, rfl, l, ad, len, cap, h1, h2, h3⟩
  exact ⟨hu, _, rfl, OwnN.natV ⟨h1, h2, h3⟩⟩
end Go.Proofs.YtdfmdiakjdggbaaGreatDoor
namespace Go.Proofs.YtdfmdiakjdggbaaGreatDoor
open Go Go.Gv Go.RowKit
set_option maxRecDepth 100000
set_option maxHeartbeats 1000000
theorem times_c (w : World) (X : Hid) (hX : ∀ k o, X k o → k < w.heap.size) (ad : Option Addr) (len cap x : Nat) (h : NatR (rd w X) ad len cap x) (ad2 : Option Addr) (len2 cap2 y : Nat) (h2 : NatR (rd w X) ad2 len2 cap2 y) (hx : x < 4294967296 ^ 512) (hy : y < 4294967296 ^ 512) (hf : x * y < 4294967296 ^ 512) : Calls Tryz.prog 160 #[.slice ad len cap, .slice ad2 len2 cap2] w (Ret E0 w fun w' v => NatX X w' v (x * y)) := by
 refine zen Tryz.func160 ?_
 have A0 : St E0 w X w X [] := St.start hX
 refine zz 9 ?_
 refine zc A0 (Mul_n _ _ _ _ x (h.mono Le.x0) _ _ _ y (h2.mono Le.x0) (by first | assumption | omega) (by first | assumption | omega) (by first | assumption | omega)) ?_
 rintro v3 w3 A3 y3 hu3 ⟨u3, rfl, ⟨ad3, len3, cap3, rfl, hn3⟩⟩
 have hN3 := hn3 _ A0.lt
 refine zz 14 ?_
 refine zr' (v := .slice ad3 len3 cap3) ?_
 exact ⟨A3.upd, _, rfl, A3.lastN hN3⟩
theorem plus_c (w : World) (X : Hid) (hX : ∀ k o, X k o → k < w.heap.size) (ad : Option Addr) (len cap x : Nat) (h : NatR (rd w X) ad len cap x) (ad2 : Option Addr) (len2 cap2 y : Nat) (h2 : NatR (rd w X) ad2 len2 cap2 y) (hx : x < 4294967296 ^ 512) (hy : y < 4294967296 ^ 512) (hf : x + y < 4294967296 ^ 512) : Calls Tryz.prog 161 #[.slice ad len cap, .slice ad2 len2 cap2] w (Ret E0 w fun w' v => NatX X w' v (x + y)) := by
 refine zen Tryz.func161 ?_
 have A0 : St E0 w X w X [] := St.start hX
 refine zz 9 ?_
 refine zc A0 (Add_n _ _ _ _ x (h.mono Le.x0) _ _ _ y (h2.mono Le.x0) (by first | assumption | omega) (by first | assumption | omega) (by first | assumption | omega)) ?_
 rintro v3 w3 A3 y3 hu3 ⟨u3, rfl, ⟨ad3, len3, cap3, rfl, hn3⟩⟩
 have hN3 := hn3 _ A0.lt
 refine zz 14 ?_
 refine zr' (v := .slice ad3 len3 cap3) ?_
 exact ⟨A3.upd, _, rfl, A3.lastN hN3⟩
theorem minus_ge (w : World) (X : Hid) (hX : ∀ k o, X k o → k < w.heap.size) (ad : Option Addr) (len cap x : Nat) (h : NatR (rd w X) ad len cap x) (ad2 : Option Addr) (len2 cap2 y : Nat) (h2 : NatR (rd w X) ad2 len2 cap2 y) (hx : x < 4294967296 ^ 512) (hy : y < 4294967296 ^ 512) (hf : y ≤ x) : Calls Tryz.prog 162 #[.slice ad len cap, .slice ad2 len2 cap2] w (Ret E0 w fun w' v => ∃ u, v = .tuple #[u, .bool false] ∧ NatX X w' u (x - y)) := by
 refine zen Tryz.func162 ?_
 have A0 : St E0 w X w X [] := St.start hX
 refine zz 11 ?_
 refine zc A0 (Sub_n _ _ _ _ x (h.mono Le.x0) _ _ _ y (h2.mono Le.x0) (by first | assumption | omega) (by first | assumption | omega) (by first | assumption | omega)) ?_
 rintro v3 w3 A3 y3 hu3 ⟨u3, rfl, ⟨ad3, len3, cap3, rfl, hn3⟩⟩
 have hN3 := hn3 _ A0.lt
 refine zz 23 ?_
 refine zr' (v := .tuple #[.slice ad3 len3 cap3, .bool false]) ?_
 exact ⟨A3.upd, _, rfl, _, rfl, A3.lastN hN3⟩
theorem minus_lt (w : World) (X : Hid) (hX : ∀ k o, X k o → k < w.heap.size) (ad : Option Addr) (len cap x : Nat) (h : NatR (rd w X) ad len cap x) (ad2 : Option Addr) (len2 cap2 y : Nat) (h2 : NatR (rd w X) ad2 len2 cap2 y) (hx : x < 4294967296 ^ 512) (hy : y < 4294967296 ^ 512) (hf : x < y) : Calls Tryz.prog 162 #[.slice ad len cap, .slice ad2 len2 cap2] w (Ret E0 w fun w' v => ∃ u, v = .tuple #[u, .bool true] ∧ NatX X w' u (y - x)) := by
 refine zen Tryz.func162 ?_
 have A0 : St E0 w X w X [] := St.start hX
 refine zz 11 ?_
 refine zc A0 (Sub_less _ _ _ _ x (h.mono Le.x0) _ _ _ y (h2.mono Le.x0) (by first | assumption | omega) (by first | assumption | omega) (by first | assumption | omega)) ?_
 rintro v3 w3 A3 y3 hu3 rfl
 refine zz 20 ?_
 refine zc A3 (Sub_n _ _ _ _ y ((h2.mono y3).mono Le.x0) _ _ _ x ((h.mono y3).mono Le.x0) (by first | assumption | omega) (by first | assumption | omega) (by first | assumption | omega)) ?_
 rintro v5 w5 A5 y5 hu5 ⟨u5, rfl, ⟨ad5, len5, cap5, rfl, hn5⟩⟩
 have hN5 := hn5 _ A3.lt
 refine zz 15 ?_
 refine zr' (v := .tuple #[.slice ad5 len5 cap5, .bool true]) ?_
 exact ⟨A5.upd, _, rfl, _, rfl, A5.lastN hN5⟩
theorem minus_c (w : World) (X : Hid) (hX : ∀ k o, X k o → k < w.heap.size) (ad : Option Addr) (len cap x : Nat) (h : NatR (rd w X) ad len cap x) (ad2 : Option Addr) (len2 cap2 y : Nat) (h2 : NatR (rd w X) ad2 len2 cap2 y) (hx : x < 4294967296 ^ 512) (hy : y < 4294967296 ^ 512) : Calls Tryz.prog 162 #[.slice ad len cap, .slice ad2 len2 cap2] w (Ret E0 w fun w' v => ∃ u, v = .tuple #[u, .bool (decide (x < y))] ∧ NatX X w' u (if x < y then y - x else x - y)) := by
  by_cases hf : x < y
  · rw [if_pos hf, decide_eq_true hf]; exact minus_lt w X hX ad len cap x h ad2 len2 cap2 y h2 hx hy hf
  · rw [if_neg hf, decide_eq_false hf]; exact minus_ge w X hX ad len cap x h ad2 len2 cap2 y h2 hx hy (by omega)
theorem unit_c (w : World) (X : Hid) (hX : ∀ k o, X k o → k < w.heap.size) (ad : Option Addr) (len cap x : Nat) (h : NatR (rd w X) ad len cap x) : Calls Tryz.prog 154 #[.slice ad len cap] w (Ret E0 w fun _ v => v = .bool (decide (x = 1))) := by
 refine zen Tryz.func154 ?_
 have A0 : St E0 w X w X [] := St.start hX
 refine zz 11 ?_
 refine zb 6 (b := ((len : Int) == 1)) (fun hc2 => ?_) (fun hc2 => ?_)
 ·
  have ht3 : (len : Int) = 1 := by simpa using hc2
  obtain ⟨bk, of, rfl, hx1, hat⟩ := h.one (by omega)
  refine zz 1 ?_
  refine zi (b := bk) (off := of) (len := len) (cap := cap) (kd := .i64) (i := 0) 1 of ?_ (hoff := kr)
  refine zl (hat).cells ?_
  refine zz 6 ?_
  refine zr' (v := .bool ((x : Int) == 1)) ?_
  exact ⟨A0.upd, _, rfl, zJ (by rw [Bool.eq_iff_iff]; simp; omega)⟩
 have ht4 : (len : Int) ≠ 1 := by simpa using hc2
 have hx1 : x ≠ 1 := fun e => by subst e; exact absurd h.of_one (by omega)
 refine zz 9 ?_
 refine zr' (v := .bool false) ?_
 exact ⟨A0.upd, _, rfl, zJ (by simp [hx1])⟩
end Go.Proofs.YtdfmdiakjdggbaaGreatDoor
namespace Go.Proofs.YtdfmdiakjdggbaaGreatDoor
open Go Go.Gv Go.RowKit
set_option maxRecDepth 100000
set_option maxHeartbeats 1000000
theorem natural_c (w : World) (X : Hid) (hX : ∀ k o, X k o → k < w.heap.size) (n : Int) (h1 : -9223372036854775808 ≤ n) (h2 : n ≤ 9223372036854775807) : Calls Tryz.prog 97 #[.int .i64 n] w (Ret E0 w fun w' v => NatX X w' v n.natAbs) := by
 refine zen Tryz.func97 ?_
 have A0 : St E0 w X w X [] := St.start hX
 refine zz 12 ?_
 refine zt 4 (p := (n) < 0) (fun ht2 => ?_) (fun ht2 => ?_)
 ·
  refine zz 5 ?_
  refine zs 6 (v := .int .u64 (IntKind.u64.wrap (n))) (v' := .int .u64 (n + 18446744073709551616)) (vint (by rw [wrap_u64]; omega)) ?_
  refine zz 1 ?_
  refine zs 7 (v := .int .u64 (IntKind.u64.wrap ((0 : Int) - (n + 18446744073709551616)))) (v' := .int .u64 ((n.natAbs : Nat) : Int)) (vint (by rw [wrap_u64]; omega)) ?_
  refine zc A0 (from_n _ n.natAbs (by omega)) ?_
  rintro v4 w4 A4 y4 hu4 ⟨ad4, len4, cap4, rfl, hn4⟩
  have hN4 := hn4 _ A0.lt
  refine zz 5 ?_
  refine zr' (v := .slice ad4 len4 cap4) ?_
  exact ⟨A4.upd, _, rfl, A4.lastN hN4⟩
 refine zz 7 ?_
 refine zs 10 (v := .int .u64 (IntKind.u64.wrap (n))) (v' := .int .u64 ((n.natAbs : Nat) : Int)) (vint (by rw [wrap_u64]; omega)) ?_
 refine zc A0 (from_n _ n.natAbs (by omega)) ?_
 rintro v6 w6 A6 y6 hu6 ⟨ad6, len6, cap6, rfl, hn6⟩
 have hN6 := hn6 _ A0.lt
 refine zz 4 ?_
 refine zr' (v := .slice ad6 len6 cap6) ?_
 exact ⟨A6.upd, _, rfl, A6.lastN hN6⟩
theorem lowest_c (w : World) (X : Hid) (hX : ∀ k o, X k o → k < w.heap.size) (ad : Option Addr) (len cap x : Nat) (h : NatR (rd w X) ad len cap x) (ad2 : Option Addr) (len2 cap2 y : Nat) (h2 : NatR (rd w X) ad2 len2 cap2 y) (sg : Bool) (hx : x < 4294967296 ^ 512) (hy : y < 4294967296 ^ 512) (hd : 0 < y) : Calls Tryz.prog 163 #[.agg #[.slice ad len cap, .slice ad2 len2 cap2, .bool sg]] w (Ret E0 w fun w' v => RatX (old w) w' v (mkRat (sgn sg x) y)) := by
 refine zen Tryz.func163 ?_
 have A0 : St E0 w X w X [] := St.start hX
 refine zz 2 ?_
 refine zn pn (.cells #[.slice ad len cap, .slice ad2 len2 cap2, .bool sg] 132 (0, 0)) A0 ?_
 intro b3 w3 Y3 A3 y3 hu3
 refine zn pn (.cells #[.bool false, .slice none 0 0, .slice none 0 0] 28 (0, 0)) A3 ?_
 intro b5 w5 Y5 A5 y5 hu5
 refine zz 7 ?_
 refine zo 1 A5 ?_
 refine zz 4 ?_
 refine zb 10 (b := ((len : Int) == 0)) (fun hc6 => ?_) (fun hc6 => ?_)
 ·
  have ht7 : (len : Int) = 0 := by simpa using hc6
  have hx0 : x = 0 := h.len0.1 (by omega)
  refine zz 4 ?_
  refine zx 0 #[.bool false, .slice none 0 0, .slice none 0 0] A5 ?_
  intro w8 A8 y8
  refine zz 4 ?_
  refine zrS [.cell 2 28] (v := .agg #[.bool false, .slice none 0 0, .slice none 0 0]) (Res.cM A8 0 Res.nil) ?_
  exact ⟨A8.upd, _, rfl, by rw [hx0]; exact zero_rat y⟩
 have ht9 : (len : Int) ≠ 0 := by simpa using hc6
 have hx0 : x ≠ 0 := fun e => absurd (h.len0.2 e) (by omega)
 have hgp : 0 < Nat.gcd x y := Nat.gcd_pos_of_pos_right _ hd
 have hgb : Nat.gcd x y < 4294967296 ^ 512 := Nat.lt_of_le_of_lt (Nat.gcd_le_right _ hd) hy
 have hb1 : x / Nat.gcd x y < 4294967296 ^ 512 := Nat.lt_of_le_of_lt (Nat.div_le_self _ _) hx
 have hb2 : y / Nat.gcd x y < 4294967296 ^ 512 := Nat.lt_of_le_of_lt (Nat.div_le_self _ _) hy
 refine zz 8 ?_
 refine zo 1 A5 ?_
 refine zz 2 ?_
 refine zo 1 A5 ?_
 refine zc A5 (GCD_n _ _ _ _ x ((h.mono (Le2 y3 y5)).mono Le.x0) _ _ _ y ((h2.mono (Le2 y3 y5)).mono Le.x0) (by first | assumption | omega) (by first | assumption | omega)) ?_
 rintro v11 w11 A11 y11 hu11 ⟨u11, rfl, ⟨ad11, len11, cap11, rfl, hn11⟩⟩
 have hN11 := hn11 _ A5.lt
 refine zz 10 ?_
 refine zc A11 (unit_c _ _ A11.lt _ _ _ (Nat.gcd x y) hN11) ?_
 rintro v13 w13 A13 y13 hu13 rfl
 refine zz 3 ?_
 refine zb 24 (b := !(decide (Nat.gcd x y = 1))) (fun hc14 => ?_) (fun hc14 => ?_)
 ·
  have ht15 : ¬ (Nat.gcd x y = 1) := by simpa using hc14
  refine zz 5 ?_
  refine zo 1 A13 ?_
  refine zz 1 ?_
  have hc1_ := (Le3 y3 y5 y11).trans y13
  refine zc A13 (DivMod_n _ _ _ _ x ((h.mono hc1_).mono Le.x0) _ _ _ (Nat.gcd x y) ((hN11.mono y13).mono Le.x0) (by first | assumption | omega) (by first | assumption | omega) (by assumption)) ?_
  rintro v17 w17 A17 y17 hu17 ⟨u17, v217, rfl, ⟨ad17, len17, cap17, rfl, hn17⟩, ⟨ae17, le17, ce17, rfl, hm17⟩⟩
  have hN17 := hn17 _ A13.lt
  refine zz 6 ?_
  refine zx 1 #[.slice ad17 len17 cap17, .slice ad2 len2 cap2, .bool sg] A17 ?_
  intro w18 A18 y18
  refine zz 5 ?_
  refine zo 1 A18 ?_
  refine zz 1 ?_
  have hc2_ := (hc1_.trans y17).trans y18
  refine zc A18 (DivMod_n _ _ _ _ y ((h2.mono hc2_).mono Le.x0) _ _ _ (Nat.gcd x y) ((hN11.mono (Le3 y13 y17 y18)).mono Le.x0) (by first | assumption | omega) (by first | assumption | omega) (by assumption)) ?_
  rintro v20 w20 A20 y20 hu20 ⟨u20, v220, rfl, ⟨ad20, len20, cap20, rfl, hn20⟩, ⟨ae20, le20, ce20, rfl, hm20⟩⟩
  have hN20 := hn20 _ A18.lt
  refine zz 6 ?_
  refine zx 1 #[.slice ad17 len17 cap17, .slice ad20 len20 cap20, .bool sg] A20 ?_
  intro w21 A21 y21
  refine zz 3 ?_
  refine zdr A21 ?_
  refine gz [0] ?_
  refine gw 1 1 ?_
  refine gz [2, 3] ?_
  refine gw 4 1 ?_
  refine gp (al 7 5 pn (.cells #[.bool false, .slice none 0 0, .slice none 0 0] 28 (0, 0))) ?_
  have hc3_ := (Le2 y18 y20).trans y21
  refine gC 5 (fun w22 Y22 _ A22 y22 => (clone_n _ _ _ _ (x / (Nat.gcd x y)) ((hN17.mono (hc3_.trans y22)).mono Le.x0) (by first | assumption | omega))) ?_ (hPd := PdOk.nil.k)
  rintro v23 w22 Y23 w23 A22 y23 ⟨ad23, len23, cap23, rfl, hn23⟩
  have hN23 := hn23 _ A22.lt
  refine gz [6] ?_
  refine gs1 (fun b24 => ?_) PdOk.nil.k
  refine gX 8 0 #[.bool sg, .slice ad23 len23 cap23, .slice none 0 0] ?_
  intro w25 Y25 y25
  refine gend (fun w26 Y26 A26 y26 => ?_)
  refine zz 6 ?_
  refine zo 2 A26 ?_
  have hc4_ := (Le3 y21 y23 y25).trans y26
  refine zc A26 (unit_c _ _ A26.lt _ _ _ (y / (Nat.gcd x y)) (hN20.mono hc4_)) ?_
  rintro v28 w28 A28 y28 hu28 rfl
  refine zz 3 ?_
  refine zb 58 (b := !(decide (y / (Nat.gcd x y) = 1))) (fun hc29 => ?_) (fun hc29 => ?_)
  ·
   have ht30 : ¬ (y / (Nat.gcd x y) = 1) := by simpa using hc29
   refine zz 4 ?_
   refine zo 2 A28 ?_
   have hc5_ := hc4_.trans y28
   refine zc A28 (clone_n _ _ _ _ (y / (Nat.gcd x y)) ((hN20.mono hc5_).mono Le.x0) (by first | assumption | omega)) ?_
   rintro v32 w32 A32 y32 hu32 ⟨ad32, len32, cap32, rfl, hn32⟩
   have hN32 := hn32 _ A28.lt
   refine zz 1 ?_
   refine zx 0 #[.bool sg, .slice ad23 len23 cap23, .slice ad32 len32 cap32] A32 ?_
   intro w33 A33 y33
   refine zz 4 ?_
   refine zo 0 A33 ?_
   refine zx 1 #[.bool sg, .slice ad23 len23 cap23, .slice ad32 len32 cap32] A33 ?_
   intro w34 A34 y34
   refine zz 3 ?_
   refine zrS [.cell 2 28] (v := .agg #[.bool sg, .slice ad23 len23 cap23, .slice ad32 len32 cap32]) (Res.cM A34 1 Res.nil) ?_
   have hc6_ := (Le5 y25 y26 y28 y32 y33).trans y34
   refine ⟨A34.upd, _, rfl, low_rat hx0 hd (by exact (((hn23 (old _) (fun _ _ h => h)).mono (Le.own A22.lt A22.upd.size hc6_)).mono Le.orr)) ?_⟩
   rw [den1, if_neg ht30]; exact (((hn32 (old _) (fun _ _ h => h)).mono (Le.own A28.lt A28.upd.size (Le2 y33 y34))).mono Le.orr)
  have ht35 : y / (Nat.gcd x y) = 1 := by simpa using hc29
  refine zz 5 ?_
  refine zo 0 A28 ?_
  refine zx 1 #[.bool sg, .slice ad23 len23 cap23, .slice none 0 0] A28 ?_
  intro w36 A36 y36
  refine zz 3 ?_
  refine zrS [.cell 2 28] (v := .agg #[.bool sg, .slice ad23 len23 cap23, .slice none 0 0]) (Res.cM A36 1 Res.nil) ?_
  have hc7_ := (Le3 y25 y26 y28).trans y36
  refine ⟨A36.upd, _, rfl, low_rat hx0 hd (by exact (((hn23 (old _) (fun _ _ h => h)).mono (Le.own A22.lt A22.upd.size hc7_)).mono Le.orr)) ?_⟩
  rw [den1, if_pos ht35]; exact (NatR.nil none (by omega))
 have ht37 : Nat.gcd x y = 1 := by simpa using hc14
 refine zz 4 ?_
 refine zdr A13 ?_
 refine gz [0] ?_
 refine gw 1 1 ?_
 refine gz [2, 3] ?_
 refine gw 4 1 ?_
 refine gp (al 7 5 pn (.cells #[.bool false, .slice none 0 0, .slice none 0 0] 28 (0, 0))) ?_
 have hc8_ := (Le3 y3 y5 y11).trans y13
 refine gC 5 (fun w38 Y38 _ A38 y38 => (clone_n _ _ _ _ x ((h.mono (hc8_.trans y38)).mono Le.x0) (by first | assumption | omega))) ?_ (hPd := PdOk.nil.k)
 rintro v39 w38 Y39 w39 A38 y39 ⟨ad39, len39, cap39, rfl, hn39⟩
 have hN39 := hn39 _ A38.lt
 refine gz [6] ?_
 refine gs1 (fun b40 => ?_) PdOk.nil.k
 refine gX 8 0 #[.bool sg, .slice ad39 len39 cap39, .slice none 0 0] ?_
 intro w41 Y41 y41
 refine gend (fun w42 Y42 A42 y42 => ?_)
 refine zz 6 ?_
 refine zo 2 A42 ?_
 have hc9_ := ((hc8_.trans y39).trans y41).trans y42
 refine zc A42 (unit_c _ _ A42.lt _ _ _ y (h2.mono hc9_)) ?_
 rintro v44 w44 A44 y44 hu44 rfl
 refine zz 3 ?_
 refine zb 58 (b := !(decide (y = 1))) (fun hc45 => ?_) (fun hc45 => ?_)
 ·
  have ht46 : ¬ (y = 1) := by simpa using hc45
  refine zz 4 ?_
  refine zo 2 A44 ?_
  have hc10_ := hc9_.trans y44
  refine zc A44 (clone_n _ _ _ _ y ((h2.mono hc10_).mono Le.x0) (by first | assumption | omega)) ?_
  rintro v48 w48 A48 y48 hu48 ⟨ad48, len48, cap48, rfl, hn48⟩
  have hN48 := hn48 _ A44.lt
  refine zz 1 ?_
  refine zx 0 #[.bool sg, .slice ad39 len39 cap39, .slice ad48 len48 cap48] A48 ?_
  intro w49 A49 y49
  refine zz 4 ?_
  refine zo 0 A49 ?_
  refine zx 1 #[.bool sg, .slice ad39 len39 cap39, .slice ad48 len48 cap48] A49 ?_
  intro w50 A50 y50
  refine zz 3 ?_
  refine zrS [.cell 2 28] (v := .agg #[.bool sg, .slice ad39 len39 cap39, .slice ad48 len48 cap48]) (Res.cM A50 1 Res.nil) ?_
  have hc11_ := (Le5 y41 y42 y44 y48 y49).trans y50
  refine ⟨A50.upd, _, rfl, low_rat hx0 hd (by rw [ht37, Nat.div_one]; exact (((hn39 (old _) (fun _ _ h => h)).mono (Le.own A38.lt A38.upd.size hc11_)).mono Le.orr)) ?_⟩
  rw [ht37, Nat.div_one]
  rw [den1, if_neg ht46]; exact (((hn48 (old _) (fun _ _ h => h)).mono (Le.own A44.lt A44.upd.size (Le2 y49 y50))).mono Le.orr)
 have ht51 : y = 1 := by simpa using hc45
 refine zz 5 ?_
 refine zo 0 A44 ?_
 refine zx 1 #[.bool sg, .slice ad39 len39 cap39, .slice none 0 0] A44 ?_
 intro w52 A52 y52
 refine zz 3 ?_
 refine zrS [.cell 2 28] (v := .agg #[.bool sg, .slice ad39 len39 cap39, .slice none 0 0]) (Res.cM A52 1 Res.nil) ?_
 have hc12_ := (Le3 y41 y42 y44).trans y52
 refine ⟨A52.upd, _, rfl, low_rat hx0 hd (by rw [ht37, Nat.div_one]; exact (((hn39 (old _) (fun _ _ h => h)).mono (Le.own A38.lt A38.upd.size hc12_)).mono Le.orr)) ?_⟩
 rw [ht37, Nat.div_one]
 rw [den1, if_pos ht51]; exact (NatR.nil none (by omega))
end Go.Proofs.YtdfmdiakjdggbaaGreatDoor
namespace Go.Proofs.YtdfmdiakjdggbaaGreatDoor
open Go Go.Gv Go.RowKit
set_option maxRecDepth 100000
set_option maxHeartbeats 1000000
theorem of_c (w : World) (X : Hid) (hX : ∀ k o, X k o → k < w.heap.size) (sg : Bool) (ad : Option Addr) (len cap x : Nat) (h : NatR (rd w X) ad len cap x) (ad2 : Option Addr) (len2 cap2 y : Nat) (h2 : NatR (rd w X) ad2 len2 cap2 y) : Calls Tryz.prog 82 #[.agg #[.bool sg, .slice ad len cap, .slice ad2 len2 cap2]] w (Ret E0 w fun w' v => ValX X w' v sg x (if y = 0 then 1 else y)) := by
 refine zen Tryz.func82 ?_
 have A0 : St E0 w X w X [] := St.start hX
 refine zz 2 ?_
 refine zn pn (.cells #[.bool sg, .slice ad len cap, .slice ad2 len2 cap2] 28 (0, 0)) A0 ?_
 intro b3 w3 Y3 A3 y3 hu3
 refine zn pn (.cells #[.slice none 0 0, .slice none 0 0, .bool false] 132 (0, 0)) A3 ?_
 intro b5 w5 Y5 A5 y5 hu5
 refine zz 5 ?_
 refine zo 1 A5 ?_
 refine zz 1 ?_
 refine zo 1 A5 ?_
 refine zz 2 ?_
 refine zo 1 A5 ?_
 refine zz 1 ?_
 refine zn pn (.cells #[.slice none 0 0, .slice none 0 0, .bool false] 132 (0, 0)) A5 ?_
 intro b7 w7 Y7 A7 y7 hu7
 refine zx 0 #[.slice ad len cap, .slice ad2 len2 cap2, .bool sg] A7 ?_
 intro w8 A8 y8
 refine zz 7 ?_
 refine zo 0 A8 ?_
 refine zz 4 ?_
 refine zb 16 (b := ((len2 : Int) == 0)) (fun hc9 => ?_) (fun hc9 => ?_)
 ·
  have ht10 : (len2 : Int) = 0 := by simpa using hc9
  have hy0 : y = 0 := h2.len0.1 (by omega)
  refine zz 2 ?_
  refine zn (fun b => .slice (some ⟨b, 0, none⟩) 1 1) (.cells #[.int .u32 1] 214 (0, 0)) A8 ?_
  intro b12 w12 Y12 A12 y12 hu12
  refine zz 2 ?_
  refine zx 1 #[.slice ad len cap, .slice (some ⟨b12, 0, none⟩) 1 1, .bool sg] A12 ?_
  intro w13 A13 y13
  refine zz 4 ?_
  refine zo 1 A13 ?_
  refine zx 2 #[.slice ad len cap, .slice (some ⟨b12, 0, none⟩) 1 1, .bool sg] A13 ?_
  intro w14 A14 y14
  refine zz 3 ?_
  refine zrS [.cell 2 132] (v := .agg #[.slice ad len cap, .slice (some ⟨b12, 0, none⟩) 1 1, .bool sg]) (Res.cM A14 2 Res.nil) ?_
  have hc1_ := (Le6 y3 y5 y7 y8 y12 y13).trans y14
  exact ⟨A14.upd, _, rfl, _, _, _, _, _, _, rfl, (h.mono hc1_).mono A14.le, by rw [if_pos hy0]; exact one_nat (A14.rowX 0 rfl (A14.own_ge 0 rfl) (one_row rfl))⟩
 have ht15 : (len2 : Int) ≠ 0 := by simpa using hc9
 have hy0 : y ≠ 0 := fun e => absurd (h2.len0.2 e) (by omega)
 refine zz 5 ?_
 refine zo 0 A8 ?_
 refine zx 1 #[.slice ad len cap, .slice ad2 len2 cap2, .bool sg] A8 ?_
 intro w16 A16 y16
 refine zz 3 ?_
 refine zrS [.cell 2 132] (v := .agg #[.slice ad len cap, .slice ad2 len2 cap2, .bool sg]) (Res.cM A16 1 Res.nil) ?_
 have hc2_ := (Le4 y3 y5 y7 y8).trans y16
 exact ⟨A16.upd, _, rfl, _, _, _, _, _, _, rfl, (h.mono hc2_).mono A16.le, by rw [if_neg hy0]; exact (h2.mono hc2_).mono A16.le⟩
theorem sum_c (w : World) (X : Hid) (hX : ∀ k o, X k o → k < w.heap.size) (ad₁ : Option Addr) (len₁ cap₁ n₁ : Nat) (h₁ : NatR (rd w X) ad₁ len₁ cap₁ n₁) (ae₁ : Option Addr) (le₁ ce₁ d₁ : Nat) (k₁ : NatR (rd w X) ae₁ le₁ ce₁ d₁) (s₁ : Bool) (hn₁ : n₁ < K128) (hd₁ : d₁ < K128) (ad₂ : Option Addr) (len₂ cap₂ n₂ : Nat) (h₂ : NatR (rd w X) ad₂ len₂ cap₂ n₂) (ae₂ : Option Addr) (le₂ ce₂ d₂ : Nat) (k₂ : NatR (rd w X) ae₂ le₂ ce₂ d₂) (s₂ : Bool) (hn₂ : n₂ < K128) (hd₂ : d₂ < K128) : Calls Tryz.prog 83 #[.agg #[.slice ad₁ len₁ cap₁, .slice ae₁ le₁ ce₁, .bool s₁], .agg #[.slice ad₂ len₂ cap₂, .slice ae₂ le₂ ce₂, .bool s₂]] w (Ret E0 w fun w' v => ∃ s m, ValX X w' v s m (d₁ * d₂) ∧ m < 4294967296 ^ 512 ∧ sgn s m = sgn s₁ n₁ * d₂ + sgn s₂ n₂ * d₁) := by
 refine zen Tryz.func83 ?_
 have A0 : St E0 w X w X [] := St.start hX
 have hb : ∀ {x : Nat}, x < K128 → x < 4294967296 ^ 512 := fun h => Nat.lt_of_lt_of_le h k512
 have hbn1 := hb hn₁
 have hbn2 := hb hn₂
 have hbd1 := hb hd₁
 have hbd2 := hb hd₂
 obtain ⟨hp1, hp12⟩ := prod512 hn₁ hd₂ hn₂ hd₁
 have hp2 := (prod512 hn₂ hd₁ hn₁ hd₂).1
 have hpd := (prod512 hd₁ hd₂ hd₁ hd₂).1
 have hpn := (prod512 hn₁ hn₂ hd₁ hd₂).1
 refine zz 2 ?_
 refine zn pn (.cells #[.slice ad₁ len₁ cap₁, .slice ae₁ le₁ ce₁, .bool s₁] 132 (0, 0)) A0 ?_
 intro b3 w3 Y3 A3 y3 hu3
 refine zn pn (.cells #[.slice ad₂ len₂ cap₂, .slice ae₂ le₂ ce₂, .bool s₂] 132 (0, 0)) A3 ?_
 intro b5 w5 Y5 A5 y5 hu5
 refine zn pn (.cells #[.slice none 0 0, .slice none 0 0, .bool false] 132 (0, 0)) A5 ?_
 intro b7 w7 Y7 A7 y7 hu7
 refine zz 3 ?_
 refine zdr A7 ?_
 refine gz [0, 1] ?_
 refine gw 2 2 ?_
 refine gz [3, 4] ?_
 refine gw 5 1 ?_
 refine gz [7, 8] ?_
 refine gw 9 1 ?_
 refine gz [10, 11] ?_
 refine gw 12 2 ?_
 have hc1_ := (Le2 y3 y5).trans y7
 refine gC 6 (fun w8 Y8 _ A8 y8 => (times_c _ _ A8.lt _ _ _ n₁ (h₁.mono (hc1_.trans y8)) _ _ _ d₂ (k₂.mono (hc1_.trans y8)) (by first | assumption | omega) (by first | assumption | omega) (by first | assumption | omega))) ?_
 rintro v9 w8 Y9 w9 A8 y9 ⟨ad9, len9, cap9, rfl, hN9⟩
 have hc2_ := hc1_.trans y9
 refine gC 13 (fun w10 Y10 _ A10 y10 => (times_c _ _ A10.lt _ _ _ n₂ (h₂.mono (hc2_.trans y10)) _ _ _ d₁ (k₁.mono (hc2_.trans y10)) (by first | assumption | omega) (by first | assumption | omega) (by first | assumption | omega))) ?_
 rintro v11 w10 Y11 w11 A10 y11 ⟨ad11, len11, cap11, rfl, hN11⟩
 refine gz [14, 15] ?_
 refine gend (fun w12 Y12 A12 y12 => ?_)
 refine zz 2 ?_
 refine zdr A12 ?_
 refine gz [0, 1] ?_
 refine gw 2 2 ?_
 refine gz [3, 4] ?_
 refine gw 5 1 ?_
 refine gz [8] ?_
 refine gw 9 2 ?_
 refine gp (al 11 7 pn (.cells #[.slice none 0 0, .slice none 0 0, .bool false] 132 (0, 0))) ?_
 have hc3_ := (hc2_.trans y11).trans y12
 refine gC 6 (fun w13 Y13 _ A13 y13 => (times_c _ _ A13.lt _ _ _ d₁ (k₁.mono (hc3_.trans y13)) _ _ _ d₂ (k₂.mono (hc3_.trans y13)) (by first | assumption | omega) (by first | assumption | omega) (by first | assumption | omega))) ?_ (hPd := PdOk.nil.k)
 rintro v14 w13 Y14 w14 A13 y14 ⟨ad14, len14, cap14, rfl, hN14⟩
 refine gz [7, 10] ?_
 refine gs1 (fun b15 => ?_) PdOk.nil.k
 refine gX 12 0 #[.slice none 0 0, .slice ad14 len14 cap14, .bool s₁] ?_
 intro w16 Y16 y16
 refine gend (fun w17 Y17 A17 y17 => ?_)
 refine zz 5 ?_
 refine zo 3 A17 ?_
 refine zz 1 ?_
 refine zo 2 A17 ?_
 refine zz 3 ?_
 refine zb 38 (b := (s₁ == s₂)) (fun hc18 => ?_) (fun hc18 => ?_)
 ·
  have ht19 : s₁ = s₂ := by simpa using hc18
  refine zz 5 ?_
  have hc4_ := (Le4 y11 y12 y14 y16).trans y17
  have hc5_ := (Le3 y12 y14 y16).trans y17
  refine zc A17 (plus_c _ _ A17.lt _ _ _ (n₁ * d₂) (hN9.mono hc4_) _ _ _ (n₂ * d₁) (hN11.mono hc5_) (by first | assumption | omega) (by first | assumption | omega) (by first | assumption | omega)) ?_
  rintro v21 w21 A21 y21 hu21 ⟨ad21, len21, cap21, rfl, hN21⟩
  refine zz 2 ?_
  refine zx 0 #[.slice ad21 len21 cap21, .slice ad14 len14 cap14, .bool s₁] A21 ?_
  intro w22 A22 y22
  refine zz 4 ?_
  refine zo 0 A22 ?_
  refine zx 1 #[.slice ad21 len21 cap21, .slice ad14 len14 cap14, .bool s₁] A22 ?_
  intro w23 A23 y23
  refine zz 4 ?_
  refine zrS [.cell 4 132] (v := .agg #[.slice ad21 len21 cap21, .slice ad14 len14 cap14, .bool s₁]) (Res.cM A23 1 Res.nil) ?_
  have hc6_ := (Le4 y16 y17 y21 y22).trans y23
  have hx9 := (hN21.mono (Le2 y22 y23))
  exact ⟨A23.upd, _, rfl, _, _, ⟨_, _, _, _, _, _, rfl, hx9.mono A23.le, (hN14.mono hc6_).mono A23.le⟩, hp12, sum_same ht19 _ _ _ _⟩
 have ht24 : s₁ ≠ s₂ := by simpa using hc18
 refine zz 13 ?_
 have hc7_ := (Le4 y11 y12 y14 y16).trans y17
 have hc8_ := (Le3 y12 y14 y16).trans y17
 refine zc A17 (minus_c _ _ A17.lt _ _ _ (n₁ * d₂) (hN9.mono hc7_) _ _ _ (n₂ * d₁) (hN11.mono hc8_) (by first | assumption | omega) (by first | assumption | omega)) ?_
 rintro v26 w26 A26 y26 hu26 ⟨u26, rfl, ⟨ad26, len26, cap26, rfl, hN26⟩⟩
 refine zz 5 ?_
 refine zx 0 #[.slice ad26 len26 cap26, .slice ad14 len14 cap14, .bool s₁] A26 ?_
 intro w27 A27 y27
 refine zz 8 ?_
 refine zt 53 (p := (n₁ * d₂) < (n₂ * d₁)) (fun ht28 => ?_) (fun ht28 => ?_)
 ·
  refine zz 3 ?_
  refine zo 2 A27 ?_
  refine zz 1 ?_
  refine zx 0 #[.slice ad26 len26 cap26, .slice ad14 len14 cap14, .bool s₂] A27 ?_
  intro w29 A29 y29
  refine zz 4 ?_
  refine zo 0 A29 ?_
  refine zx 1 #[.slice ad26 len26 cap26, .slice ad14 len14 cap14, .bool s₂] A29 ?_
  intro w30 A30 y30
  refine zz 3 ?_
  refine zrS [.cell 4 132] (v := .agg #[.slice ad26 len26 cap26, .slice ad14 len14 cap14, .bool s₂]) (Res.cM A30 1 Res.nil) ?_
  have hc9_ := (Le5 y16 y17 y26 y27 y29).trans y30
  have hx9 := (hN26.mono (Le3 y27 y29 y30))
  rw [if_pos ht28] at hx9
  exact ⟨A30.upd, _, rfl, _, _, ⟨_, _, _, _, _, _, rfl, hx9.mono A30.le, (hN14.mono hc9_).mono A30.le⟩, Nat.lt_of_le_of_lt (Nat.sub_le _ _) hp2, sum_lt ht24 ht28⟩
 refine zz 5 ?_
 refine zo 0 A27 ?_
 refine zx 1 #[.slice ad26 len26 cap26, .slice ad14 len14 cap14, .bool s₁] A27 ?_
 intro w31 A31 y31
 refine zz 3 ?_
 refine zrS [.cell 4 132] (v := .agg #[.slice ad26 len26 cap26, .slice ad14 len14 cap14, .bool s₁]) (Res.cM A31 1 Res.nil) ?_
 have hc10_ := (Le4 y16 y17 y26 y27).trans y31
 have hx9 := (hN26.mono (Le2 y27 y31))
 rw [if_neg ht28] at hx9
 exact ⟨A31.upd, _, rfl, _, _, ⟨_, _, _, _, _, _, rfl, hx9.mono A31.le, (hN14.mono hc10_).mono A31.le⟩, Nat.lt_of_le_of_lt (Nat.sub_le _ _) hp1, sum_ge ht24 (by omega)⟩
theorem product_c (w : World) (X : Hid) (hX : ∀ k o, X k o → k < w.heap.size) (ad₁ : Option Addr) (len₁ cap₁ n₁ : Nat) (h₁ : NatR (rd w X) ad₁ len₁ cap₁ n₁) (ae₁ : Option Addr) (le₁ ce₁ d₁ : Nat) (k₁ : NatR (rd w X) ae₁ le₁ ce₁ d₁) (s₁ : Bool) (hn₁ : n₁ < K128) (hd₁ : d₁ < K128) (ad₂ : Option Addr) (len₂ cap₂ n₂ : Nat) (h₂ : NatR (rd w X) ad₂ len₂ cap₂ n₂) (ae₂ : Option Addr) (le₂ ce₂ d₂ : Nat) (k₂ : NatR (rd w X) ae₂ le₂ ce₂ d₂) (s₂ : Bool) (hn₂ : n₂ < K128) (hd₂ : d₂ < K128) : Calls Tryz.prog 99 #[.agg #[.slice ad₁ len₁ cap₁, .slice ae₁ le₁ ce₁, .bool s₁], .agg #[.slice ad₂ len₂ cap₂, .slice ae₂ le₂ ce₂, .bool s₂]] w (Ret E0 w fun w' v => ∃ s m, ValX X w' v s m (d₁ * d₂) ∧ m < 4294967296 ^ 512 ∧ sgn s m = sgn s₁ n₁ * sgn s₂ n₂) := by
 refine zen Tryz.func99 ?_
 have A0 : St E0 w X w X [] := St.start hX
 have hb : ∀ {x : Nat}, x < K128 → x < 4294967296 ^ 512 := fun h => Nat.lt_of_lt_of_le h k512
 have hbn1 := hb hn₁
 have hbn2 := hb hn₂
 have hbd1 := hb hd₁
 have hbd2 := hb hd₂
 obtain ⟨hp1, hp12⟩ := prod512 hn₁ hd₂ hn₂ hd₁
 have hp2 := (prod512 hn₂ hd₁ hn₁ hd₂).1
 have hpd := (prod512 hd₁ hd₂ hd₁ hd₂).1
 have hpn := (prod512 hn₁ hn₂ hd₁ hd₂).1
 refine zz 2 ?_
 refine zn pn (.cells #[.slice ad₁ len₁ cap₁, .slice ae₁ le₁ ce₁, .bool s₁] 132 (0, 0)) A0 ?_
 intro b3 w3 Y3 A3 y3 hu3
 refine zn pn (.cells #[.slice ad₂ len₂ cap₂, .slice ae₂ le₂ ce₂, .bool s₂] 132 (0, 0)) A3 ?_
 intro b5 w5 Y5 A5 y5 hu5
 refine zn pn (.cells #[.slice none 0 0, .slice none 0 0, .bool false] 132 (0, 0)) A5 ?_
 intro b7 w7 Y7 A7 y7 hu7
 refine zz 3 ?_
 refine zdr A7 ?_
 refine gz [0, 1] ?_
 refine gw 2 2 ?_
 refine gz [3, 4] ?_
 refine gw 5 1 ?_
 refine gz [7, 8] ?_
 refine gw 9 2 ?_
 refine gz [10, 11] ?_
 refine gw 12 1 ?_
 refine gz [15] ?_
 refine gw 16 2 ?_
 refine gz [17] ?_
 refine gw 18 1 ?_
 refine gz [19] ?_
 have hc1_ := (Le2 y3 y5).trans y7
 refine gC 6 (fun w8 Y8 _ A8 y8 => (times_c _ _ A8.lt _ _ _ n₁ (h₁.mono (hc1_.trans y8)) _ _ _ n₂ (h₂.mono (hc1_.trans y8)) (by first | assumption | omega) (by first | assumption | omega) (by first | assumption | omega))) ?_
 rintro v9 w8 Y9 w9 A8 y9 ⟨ad9, len9, cap9, rfl, hN9⟩
 have hc2_ := hc1_.trans y9
 refine gC 13 (fun w10 Y10 _ A10 y10 => (times_c _ _ A10.lt _ _ _ d₁ (k₁.mono (hc2_.trans y10)) _ _ _ d₂ (k₂.mono (hc2_.trans y10)) (by first | assumption | omega) (by first | assumption | omega) (by first | assumption | omega))) ?_
 rintro v11 w10 Y11 w11 A10 y11 ⟨ad11, len11, cap11, rfl, hN11⟩
 refine gz [14, 20] ?_
 refine gX 21 0 #[.slice ad9 len9 cap9, .slice ad11 len11 cap11, .bool (!(s₁ == s₂))] ?_
 intro w12 Y12 y12
 refine gend (fun w13 Y13 A13 y13 => ?_)
 refine zz 2 ?_
 refine zrS [.cell 4 132] (v := .agg #[.slice ad9 len9 cap9, .slice ad11 len11 cap11, .bool (!(s₁ == s₂))]) (Res.cM A13 0 Res.nil) ?_
 exact ⟨A13.upd, _, rfl, _, _, ⟨_, _, _, _, _, _, rfl, (hN9.mono (Le3 y11 y12 y13)).mono A13.le, (hN11.mono (Le2 y12 y13)).mono A13.le⟩, hpn, sgn_mul _ _ _ _⟩
end Go.Proofs.YtdfmdiakjdggbaaGreatDoor
namespace Go.Proofs.YtdfmdiakjdggbaaGreatDoor
open Go Go.Gv Go.RowKit
set_option maxRecDepth 100000
set_option maxHeartbeats 1000000
theorem chk_4 {a : Raw} (h : 128 < a.ln.length ∨ 128 < a.ld.length) : a.chk = 4 := if_pos h
theorem chk_2 {a : Raw} (h : ¬ (128 < a.ln.length ∨ 128 < a.ld.length)) (h2 : chkN a.ln ≠ 0 ∨ chkN a.ld ≠ 0 ∨ val a.ld = 1 ∨ (val a.ln = 0 ∧ (a.neg = true ∨ 0 < val a.ld))) : a.chk = 2 := (if_neg h).trans (if_pos h2)
theorem chk_g {a : Raw} (h : ¬ (128 < a.ln.length ∨ 128 < a.ld.length)) (h2 : ¬ (chkN a.ln ≠ 0 ∨ chkN a.ld ≠ 0 ∨ val a.ld = 1 ∨ (val a.ln = 0 ∧ (a.neg = true ∨ 0 < val a.ld)))) (h3 : 0 < val a.ld ∧ Nat.gcd (val a.ln) (val a.ld) ≠ 1) : a.chk = 2 := (if_neg h).trans ((if_neg h2).trans (if_pos h3))
theorem chk_0 {a : Raw} (h : ¬ (128 < a.ln.length ∨ 128 < a.ld.length)) (h2 : ¬ (chkN a.ln ≠ 0 ∨ chkN a.ld ≠ 0 ∨ val a.ld = 1 ∨ (val a.ln = 0 ∧ (a.neg = true ∨ 0 < val a.ld)))) (h3 : ¬ (0 < val a.ld ∧ Nat.gcd (val a.ln) (val a.ld) ≠ 1)) : a.chk = 0 := (if_neg h).trans ((if_neg h2).trans (if_neg h3))
theorem canon_len0 {l : List Nat} (hc : Canon l) : l.length = 0 ↔ val l = 0 := by
  constructor
  · intro h; rw [List.eq_nil_of_length_eq_zero h]; rfl
  · intro h; rw [canon_zero hc h]; rfl
theorem rcheck_c (w : World) (X : Hid) (hX : ∀ k o, X k o → k < w.heap.size) (a : Raw) (ad : Option Addr) (len cap : Nat) (h : Limbs (rd w X) ad len cap a.ln) (ad2 : Option Addr) (len2 cap2 : Nat) (h2 : Limbs (rd w X) ad2 len2 cap2 a.ld) : Calls Tryz.prog 75 #[.agg #[.bool a.neg, .slice ad len cap, .slice ad2 len2 cap2]] w (Ret E0 w fun _ v => v = .int .i64 a.chk) := by
 obtain rfl := h.hlen
 obtain rfl := h2.hlen
 have hcap := h.hcap
 have hbig := h.hbig
 have hcap2 := h2.hcap
 have hbig2 := h2.hbig
 refine zen Tryz.func75 ?_
 have A0 : St E0 w X w X [] := St.start hX
 refine zz 2 ?_
 refine zn pn (.cells #[.bool a.neg, .slice ad a.ln.length cap, .slice ad2 a.ld.length cap2] 28 (0, 0)) A0 ?_
 intro b3 w3 Y3 A3 y3 hu3
 refine zz 8 ?_
 refine zo 0 A3 ?_
 refine zz 3 ?_
 refine zt 10 (p := (a.ln.length : Int) > 128) (fun ht4 => ?_) (fun ht4 => ?_)
 ·
  refine zz 17 ?_
  refine zr' (v := .int .i64 4) ?_
  exact ⟨A3.upd, _, rfl, vint (chk_4 (by omega)).symm⟩
 refine zz 1 ?_
 refine zo 0 A3 ?_
 refine zz 6 ?_
 refine zt 5 (p := (a.ld.length : Int) > 128) (fun ht5 => ?_) (fun ht5 => ?_)
 ·
  refine zz 9 ?_
  refine zr' (v := .int .i64 4) ?_
  exact ⟨A3.upd, _, rfl, vint (chk_4 (by omega)).symm⟩
 have hlong : ¬ (128 < a.ln.length ∨ 128 < a.ld.length) := by omega
 refine zz 5 ?_
 refine zo 0 A3 ?_
 refine zc A3 (bcheck _ X0 (X0_lt _) _ _ _ a.ln ((h.mono y3).mono Le.x0)) ?_
 rintro v7 w7 A7 y7 hu7 rfl
 refine zz 2 ?_
 refine zb 21 (b := ((chkN a.ln) != 0)) (fun hc8 => ?_) (fun hc8 => ?_)
 ·
  have ht9 : (chkN a.ln) ≠ 0 := by simpa using hc8
  refine zz 20 ?_
  refine zr' (v := .int .i64 2) ?_
  exact ⟨A7.upd, _, rfl, vint (chk_2 hlong (.inl ht9)).symm⟩
 have ht10 : (chkN a.ln) = 0 := by simpa using hc8
 refine zz 1 ?_
 refine zo 0 A7 ?_
 refine zc A7 (bcheck _ X0 (X0_lt _) _ _ _ a.ld ((h2.mono (Le2 y3 y7)).mono Le.x0)) ?_
 rintro v12 w12 A12 y12 hu12 rfl
 refine zz 5 ?_
 refine zb 16 (b := ((chkN a.ld) != 0)) (fun hc13 => ?_) (fun hc13 => ?_)
 ·
  have ht14 : (chkN a.ld) ≠ 0 := by simpa using hc13
  refine zz 12 ?_
  refine zr' (v := .int .i64 2) ?_
  exact ⟨A12.upd, _, rfl, vint (chk_2 hlong (.inr (.inl ht14))).symm⟩
 have ht15 : (chkN a.ld) = 0 := by simpa using hc13
 have hcn := (chkN_ok (by simpa using ht10 : chkN a.ln = 0)).2
 have hcd := (chkN_ok (by simpa using ht15 : chkN a.ld = 0)).2
 have hzn := canon_len0 hcn
 have hzd := canon_len0 hcd
 have hB : (4294967296 : Nat) ^ 128 ≤ 4294967296 ^ 512 := k512
 have hbn : val a.ln < 4294967296 ^ 512 := Nat.lt_of_lt_of_le ((canon_le_iff h.hlt hcn 128).1 (by omega)) hB
 have hbd : val a.ld < 4294967296 ^ 512 := Nat.lt_of_lt_of_le ((canon_le_iff h2.hlt hcd 128).1 (by omega)) hB
 have hNn := h.natR hcn
 have hNd := h2.natR hcd
 refine zz 4 ?_
 refine zo 0 A12 ?_
 refine zc A12 (unit_c _ _ A12.lt _ _ _ (val a.ld) (hNd.mono (Le3 y3 y7 y12))) ?_
 rintro v17 w17 A17 y17 hu17 rfl
 refine zz 3 ?_
 refine zt 16 (p := (val a.ld) = 1) (fun ht18 => ?_) (fun ht18 => ?_)
 ·
  refine zz 12 ?_
  refine zr' (v := .int .i64 2) ?_
  exact ⟨A17.upd, _, rfl, vint (chk_2 hlong (.inr (.inr (.inl (by simpa using ht18))))).symm⟩
 refine zz 3 ?_
 refine zo 0 A17 ?_
 refine zz 3 ?_
 refine zb 34 (b := ((a.ln.length : Int) == 0)) (fun hc19 => ?_) (fun hc19 => ?_)
 ·
  have ht20 : (a.ln.length : Int) = 0 := by simpa using hc19
  refine zz 1 ?_
  refine zo 0 A17 ?_
  refine zz 1 ?_
  refine zb 37 (b := a.neg) (fun hc21 => ?_) (fun hc21 => ?_)
  ·
   have ht22 : a.neg = true := by simpa using hc21
   refine zz 18 ?_
   refine zr' (v := .int .i64 2) ?_
   exact ⟨A17.upd, _, rfl, vint (chk_2 hlong (.inr (.inr (.inr ⟨by omega, .inl ht22⟩)))).symm⟩
  have ht23 : a.neg = false := by simpa using hc21
  refine zz 1 ?_
  refine zo 0 A17 ?_
  refine zz 7 ?_
  refine zt 16 (p := (a.ld.length : Int) > 0) (fun ht24 => ?_) (fun ht24 => ?_)
  ·
   refine zz 9 ?_
   refine zr' (v := .int .i64 2) ?_
   exact ⟨A17.upd, _, rfl, vint (chk_2 hlong (.inr (.inr (.inr ⟨by omega, .inr (by omega)⟩)))).symm⟩
  have hok : ¬ (chkN a.ln ≠ 0 ∨ chkN a.ld ≠ 0 ∨ val a.ld = 1 ∨ (val a.ln = 0 ∧ (a.neg = true ∨ 0 < val a.ld))) := by intro hh; rcases hh with e | e | e | ⟨e, e2⟩; exact (fun x => absurd (by simpa using ht10 : chkN a.ln = 0) x) e; exact (fun x => absurd (by simpa using ht15 : chkN a.ld = 0) x) e; exact (fun x => absurd x (by simpa using ht18)) e; rcases e2 with e2 | e2; rw [ht23] at e2; cases e2; omega
  have hz : ¬ 0 < val a.ld := by omega
  refine zz 8 ?_
  refine zo 0 A17 ?_
  refine zz 4 ?_
  refine zt 47 (p := (a.ld.length : Int) > 0) (fun ht25 => ?_) (fun ht25 => ?_)
  ·
   refine zz 4 ?_
   refine zo 0 A17 ?_
   refine zz 1 ?_
   refine zo 0 A17 ?_
   have hc1_ := (Le3 y3 y7 y12).trans y17
   refine zc A17 (GCD_n _ _ _ _ (val a.ln) ((hNn.mono hc1_).mono Le.x0) _ _ _ (val a.ld) ((hNd.mono hc1_).mono Le.x0) (by first | assumption | omega) (by first | assumption | omega)) ?_
   rintro v27 w27 A27 y27 hu27 ⟨u27, rfl, ⟨ad27, len27, cap27, rfl, hn27⟩⟩
   have hN27 := hn27 _ A17.lt
   refine zz 10 ?_
   refine zc A27 (unit_c _ _ A27.lt _ _ _ (Nat.gcd (val a.ln) (val a.ld)) hN27) ?_
   rintro v29 w29 A29 y29 hu29 rfl
   refine zz 3 ?_
   refine zb 58 (b := !(decide (Nat.gcd (val a.ln) (val a.ld) = 1))) (fun hc30 => ?_) (fun hc30 => ?_)
   ·
    have ht31 : ¬ (Nat.gcd (val a.ln) (val a.ld) = 1) := by simpa using hc30
    refine zz 8 ?_
    refine zr' (v := .int .i64 2) ?_
    exact ⟨A29.upd, _, rfl, vint (chk_g hlong hok ⟨by omega, by simpa using ht31⟩).symm⟩
   have ht32 : Nat.gcd (val a.ln) (val a.ld) = 1 := by simpa using hc30
   refine zz 9 ?_
   refine zr' (v := .int .i64 0) ?_
   exact ⟨A29.upd, _, rfl, vint (chk_0 hlong hok (fun hh => hh.2 (by simpa using ht32))).symm⟩
  refine zz 9 ?_
  refine zr' (v := .int .i64 0) ?_
  exact ⟨A17.upd, _, rfl, vint (chk_0 hlong hok (fun hh => by omega)).symm⟩
 have ht33 : (a.ln.length : Int) ≠ 0 := by simpa using hc19
 refine zz 20 ?_
 refine zo 0 A17 ?_
 refine zz 4 ?_
 refine zt 47 (p := (a.ld.length : Int) > 0) (fun ht34 => ?_) (fun ht34 => ?_)
 ·
  have hok : ¬ (chkN a.ln ≠ 0 ∨ chkN a.ld ≠ 0 ∨ val a.ld = 1 ∨ (val a.ln = 0 ∧ (a.neg = true ∨ 0 < val a.ld))) := by intro hh; rcases hh with e | e | e | ⟨e, e2⟩; exact (fun x => absurd (by simpa using ht10 : chkN a.ln = 0) x) e; exact (fun x => absurd (by simpa using ht15 : chkN a.ld = 0) x) e; exact (fun x => absurd x (by simpa using ht18)) e; omega
  refine zz 4 ?_
  refine zo 0 A17 ?_
  refine zz 1 ?_
  refine zo 0 A17 ?_
  have hc2_ := (Le3 y3 y7 y12).trans y17
  refine zc A17 (GCD_n _ _ _ _ (val a.ln) ((hNn.mono hc2_).mono Le.x0) _ _ _ (val a.ld) ((hNd.mono hc2_).mono Le.x0) (by first | assumption | omega) (by first | assumption | omega)) ?_
  rintro v36 w36 A36 y36 hu36 ⟨u36, rfl, ⟨ad36, len36, cap36, rfl, hn36⟩⟩
  have hN36 := hn36 _ A17.lt
  refine zz 10 ?_
  refine zc A36 (unit_c _ _ A36.lt _ _ _ (Nat.gcd (val a.ln) (val a.ld)) hN36) ?_
  rintro v38 w38 A38 y38 hu38 rfl
  refine zz 3 ?_
  refine zb 58 (b := !(decide (Nat.gcd (val a.ln) (val a.ld) = 1))) (fun hc39 => ?_) (fun hc39 => ?_)
  ·
   have ht40 : ¬ (Nat.gcd (val a.ln) (val a.ld) = 1) := by simpa using hc39
   refine zz 8 ?_
   refine zr' (v := .int .i64 2) ?_
   exact ⟨A38.upd, _, rfl, vint (chk_g hlong hok ⟨by omega, by simpa using ht40⟩).symm⟩
  have ht41 : Nat.gcd (val a.ln) (val a.ld) = 1 := by simpa using hc39
  refine zz 9 ?_
  refine zr' (v := .int .i64 0) ?_
  exact ⟨A38.upd, _, rfl, vint (chk_0 hlong hok (fun hh => hh.2 (by simpa using ht41))).symm⟩
 have hok : ¬ (chkN a.ln ≠ 0 ∨ chkN a.ld ≠ 0 ∨ val a.ld = 1 ∨ (val a.ln = 0 ∧ (a.neg = true ∨ 0 < val a.ld))) := by intro hh; rcases hh with e | e | e | ⟨e, e2⟩; exact (fun x => absurd (by simpa using ht10 : chkN a.ln = 0) x) e; exact (fun x => absurd (by simpa using ht15 : chkN a.ld = 0) x) e; exact (fun x => absurd x (by simpa using ht18)) e; omega
 refine zz 9 ?_
 refine zr' (v := .int .i64 0) ?_
 exact ⟨A17.upd, _, rfl, vint (chk_0 hlong hok (fun hh => by omega)).symm⟩
end Go.Proofs.YtdfmdiakjdggbaaGreatDoor
namespace Go.Proofs.YtdfmdiakjdggbaaGreatDoor
open Go Go.Gv Go.RowKit
set_option maxRecDepth 100000
set_option maxHeartbeats 1000000
theorem sub1_c (w : World) (X : Hid) (hX : ∀ k o, X k o → k < w.heap.size) (ad₁ : Option Addr) (len₁ cap₁ n₁ : Nat) (h₁ : NatR (rd w X) ad₁ len₁ cap₁ n₁) (ae₁ : Option Addr) (le₁ ce₁ d₁ : Nat) (k₁ : NatR (rd w X) ae₁ le₁ ce₁ d₁) (s₁ : Bool) (hn₁ : n₁ < K128) (hd₁ : d₁ < K128) (ad₂ : Option Addr) (len₂ cap₂ n₂ : Nat) (h₂ : NatR (rd w X) ad₂ len₂ cap₂ n₂) (ae₂ : Option Addr) (le₂ ce₂ d₂ : Nat) (k₂ : NatR (rd w X) ae₂ le₂ ce₂ d₂) (s₂ : Bool) (hn₂ : n₂ < K128) (hd₂ : d₂ < K128) : Calls Tryz.prog 98 #[.agg #[.slice ad₁ len₁ cap₁, .slice ae₁ le₁ ce₁, .bool s₁], .agg #[.slice ad₂ len₂ cap₂, .slice ae₂ le₂ ce₂, .bool s₂]] w (Ret E0 w fun w' v => ∃ s m, ValX X w' v s m (d₁ * d₂) ∧ m < 4294967296 ^ 512 ∧ sgn s m = sgn s₁ n₁ * d₂ + sgn (!s₂) n₂ * d₁) := by
 refine zen Tryz.func98 ?_
 have A0 : St E0 w X w X [] := St.start hX
 have hb : ∀ {x : Nat}, x < K128 → x < 4294967296 ^ 512 := fun h => Nat.lt_of_lt_of_le h k512
 have hbn1 := hb hn₁
 have hbn2 := hb hn₂
 have hbd1 := hb hd₁
 have hbd2 := hb hd₂
 obtain ⟨hp1, hp12⟩ := prod512 hn₁ hd₂ hn₂ hd₁
 have hp2 := (prod512 hn₂ hd₁ hn₁ hd₂).1
 have hpd := (prod512 hd₁ hd₂ hd₁ hd₂).1
 have hpn := (prod512 hn₁ hn₂ hd₁ hd₂).1
 refine zz 2 ?_
 refine zn pn (.cells #[.slice ad₁ len₁ cap₁, .slice ae₁ le₁ ce₁, .bool s₁] 132 (0, 0)) A0 ?_
 intro b3 w3 Y3 A3 y3 hu3
 refine zn pn (.cells #[.slice ad₂ len₂ cap₂, .slice ae₂ le₂ ce₂, .bool s₂] 132 (0, 0)) A3 ?_
 intro b5 w5 Y5 A5 y5 hu5
 refine zn pn (.cells #[.slice none 0 0, .slice none 0 0, .bool false] 132 (0, 0)) A5 ?_
 intro b7 w7 Y7 A7 y7 hu7
 refine zz 5 ?_
 refine zo 1 A7 ?_
 refine zz 2 ?_
 refine zx 1 #[.slice ad₂ len₂ cap₂, .slice ae₂ le₂ ce₂, .bool (!s₂)] A7 ?_
 intro w8 A8 y8
 refine zz 4 ?_
 refine zo 2 A8 ?_
 refine zo 1 A8 ?_
 have hc1_ := (Le3 y3 y5 y7).trans y8
 refine zc A8 (sum_c _ _ A8.lt _ _ _ n₁ (h₁.mono hc1_) _ _ _ d₁ (k₁.mono hc1_) s₁ (by assumption) (by assumption) _ _ _ n₂ (h₂.mono hc1_) _ _ _ d₂ (k₂.mono hc1_) (!s₂) (by assumption) (by assumption)) ?_
 rintro v10 w10 A10 y10 hu10 ⟨sg10, m10, ⟨ad10, len10, cap10, ae10, le10, ce10, rfl, hN10, hD10⟩, hm10, he10⟩
 have hc2_ := hc1_.trans y10
 refine zx 0 #[.slice ad10 len10 cap10, .slice ae10 le10 ce10, .bool sg10] A10 ?_
 intro w11 A11 y11
 refine zz 3 ?_
 refine zrS [.cell 4 132] (v := .agg #[.slice ad10 len10 cap10, .slice ae10 le10 ce10, .bool sg10]) (Res.cM A11 0 Res.nil) ?_
 exact ⟨A11.upd, _, rfl, _, _, ⟨_, _, _, _, _, _, rfl, (hN10.mono y11).mono A11.le, (hD10.mono y11).mono A11.le⟩, hm10, he10⟩
def OpC (f : Nat) (op : Rat → Rat → Rat) : Prop := ∀ (w : World) (X : Hid) (hX : ∀ k o, X k o → k < w.heap.size) (ad₁ : Option Addr) (len₁ cap₁ n₁ : Nat) (h₁ : NatR (rd w X) ad₁ len₁ cap₁ n₁) (ae₁ : Option Addr) (le₁ ce₁ d₁ : Nat) (k₁ : NatR (rd w X) ae₁ le₁ ce₁ d₁) (s₁ : Bool) (hn₁ : n₁ < K128) (hd₁ : d₁ < K128) (ad₂ : Option Addr) (len₂ cap₂ n₂ : Nat) (h₂ : NatR (rd w X) ad₂ len₂ cap₂ n₂) (ae₂ : Option Addr) (le₂ ce₂ d₂ : Nat) (k₂ : NatR (rd w X) ae₂ le₂ ce₂ d₂) (s₂ : Bool) (hn₂ : n₂ < K128) (hd₂ : d₂ < K128) (hp₁ : 0 < d₁) (hp₂ : 0 < d₂), Calls Tryz.prog f #[.agg #[.slice ad₁ len₁ cap₁, .slice ae₁ le₁ ce₁, .bool s₁], .agg #[.slice ad₂ len₂ cap₂, .slice ae₂ le₂ ce₂, .bool s₂]] w (Ret E0 w fun w' v => ∃ s m d, ValX X w' v s m d ∧ m < 4294967296 ^ 512 ∧ d < 4294967296 ^ 512 ∧ 0 < d ∧ mkRat (sgn s m) d = op (mkRat (sgn s₁ n₁) d₁) (mkRat (sgn s₂ n₂) d₂))
theorem dd_fits {a b : Nat} (h : a < K128) (h2 : b < K128) : a * b < 4294967296 ^ 512 := dd_fit h h2
theorem sum_op : OpC 83 (· + ·) := fun w X hX ad₁ len₁ cap₁ n₁ h₁ ae₁ le₁ ce₁ d₁ k₁ s₁ hn₁ hd₁ ad₂ len₂ cap₂ n₂ h₂ ae₂ le₂ ce₂ d₂ k₂ s₂ hn₂ hd₂ hp₁ hp₂ =>
  (sum_c w X hX ad₁ len₁ cap₁ n₁ h₁ ae₁ le₁ ce₁ d₁ k₁ s₁ hn₁ hd₁ ad₂ len₂ cap₂ n₂ h₂ ae₂ le₂ ce₂ d₂ k₂ s₂ hn₂ hd₂).mono (by
    rintro e w' ⟨hu, v, rfl, s, m, hv, hm, he⟩
    refine ⟨hu, _, rfl, s, m, _, hv, hm, dd_fits hd₁ hd₂, Nat.mul_pos hp₁ hp₂, ?_⟩
    show _ = mkRat (sgn s₁ n₁) d₁ + mkRat (sgn s₂ n₂) d₂
    rw [Rat.mkRat_add_mkRat _ _ (by omega) (by omega), he])
theorem product_op : OpC 99 (· * ·) := fun w X hX ad₁ len₁ cap₁ n₁ h₁ ae₁ le₁ ce₁ d₁ k₁ s₁ hn₁ hd₁ ad₂ len₂ cap₂ n₂ h₂ ae₂ le₂ ce₂ d₂ k₂ s₂ hn₂ hd₂ hp₁ hp₂ =>
  (product_c w X hX ad₁ len₁ cap₁ n₁ h₁ ae₁ le₁ ce₁ d₁ k₁ s₁ hn₁ hd₁ ad₂ len₂ cap₂ n₂ h₂ ae₂ le₂ ce₂ d₂ k₂ s₂ hn₂ hd₂).mono (by
    rintro e w' ⟨hu, v, rfl, s, m, hv, hm, he⟩
    refine ⟨hu, _, rfl, s, m, _, hv, hm, dd_fits hd₁ hd₂, Nat.mul_pos hp₁ hp₂, ?_⟩
    show _ = mkRat (sgn s₁ n₁) d₁ * mkRat (sgn s₂ n₂) d₂
    rw [Rat.mkRat_mul_mkRat, he])
theorem sub_op : OpC 98 (· - ·) := fun w X hX ad₁ len₁ cap₁ n₁ h₁ ae₁ le₁ ce₁ d₁ k₁ s₁ hn₁ hd₁ ad₂ len₂ cap₂ n₂ h₂ ae₂ le₂ ce₂ d₂ k₂ s₂ hn₂ hd₂ hp₁ hp₂ =>
  (sub1_c w X hX ad₁ len₁ cap₁ n₁ h₁ ae₁ le₁ ce₁ d₁ k₁ s₁ hn₁ hd₁ ad₂ len₂ cap₂ n₂ h₂ ae₂ le₂ ce₂ d₂ k₂ s₂ hn₂ hd₂).mono (by
    rintro e w' ⟨hu, v, rfl, s, m, hv, hm, he⟩
    refine ⟨hu, _, rfl, s, m, _, hv, hm, dd_fits hd₁ hd₂, Nat.mul_pos hp₁ hp₂, ?_⟩
    show _ = mkRat (sgn s₁ n₁) d₁ - mkRat (sgn s₂ n₂) d₂
    rw [Rat.sub_eq_add_neg, Rat.neg_mkRat, Rat.mkRat_add_mkRat _ _ (by omega) (by omega), he, sgn_not])
theorem lowest_r (w : World) (X : Hid) (hX : ∀ k o, X k o → k < w.heap.size) (ad : Option Addr) (len cap x : Nat) (h : NatR (rd w X) ad len cap x) (ad2 : Option Addr) (len2 cap2 y : Nat) (h2 : NatR (rd w X) ad2 len2 cap2 y) (sg : Bool) (hx : x < 4294967296 ^ 512) (hy : y < 4294967296 ^ 512) (hd : 0 < y) (z : Rat) (hz : mkRat (sgn sg x) y = z) : Calls Tryz.prog 163 #[.agg #[.slice ad len cap, .slice ad2 len2 cap2, .bool sg]] w (Ret E0 w fun w' v => RatX (old w) w' v z) := by
  subst hz; exact lowest_c w X hX ad len cap x h ad2 len2 cap2 y h2 sg hx hy hd
theorem operate_c (f : Nat) (op : Rat → Rat → Rat) (hcf : ∀ args w, (callFunc f args).run Tryz.prog w = .ok (.enter f args) w) (hop : OpC f op) (w : World) (X : Hid) (hX : ∀ k o, X k o → k < w.heap.size) (a : Raw) (ad₁ : Option Addr) (len₁ cap₁ : Nat) (h₁ : Limbs (rd w X) ad₁ len₁ cap₁ a.ln) (ae₁ : Option Addr) (le₁ ce₁ : Nat) (k₁ : Limbs (rd w X) ae₁ le₁ ce₁ a.ld) (b : Raw) (ad₂ : Option Addr) (len₂ cap₂ : Nat) (h₂ : Limbs (rd w X) ad₂ len₂ cap₂ b.ln) (ae₂ : Option Addr) (le₂ ce₂ : Nat) (k₂ : Limbs (rd w X) ae₂ le₂ ce₂ b.ld) (z : Rat) (hz : op a.rat b.rat = z) : Calls Tryz.prog 84 #[.agg #[.bool a.neg, .slice ad₁ len₁ cap₁, .slice ae₁ le₁ ce₁], .agg #[.bool b.neg, .slice ad₂ len₂ cap₂, .slice ae₂ le₂ ce₂], .func (.func f) #[] #[]] w (Ret E0 w fun w' v => ∃ u, v = .tuple #[u, .int .i64 (opE a b z)] ∧ RawX (old w) w' u (opR a b z)) := by
 refine zen Tryz.func84 ?_
 have A0 : St E0 w X w X [] := St.start hX
 refine zz 2 ?_
 refine zn pn (.cells #[.bool a.neg, .slice ad₁ len₁ cap₁, .slice ae₁ le₁ ce₁] 28 (0, 0)) A0 ?_
 intro b3 w3 Y3 A3 y3 hu3
 refine zn pn (.cells #[.bool b.neg, .slice ad₂ len₂ cap₂, .slice ae₂ le₂ ce₂] 28 (0, 0)) A3 ?_
 intro b5 w5 Y5 A5 y5 hu5
 refine zn pn (.cells #[.bool false, .slice none 0 0, .slice none 0 0] 28 (0, 0)) A5 ?_
 intro b7 w7 Y7 A7 y7 hu7
 refine zz 5 ?_
 refine zdr A7 ?_
 refine gw 0 2 ?_
 refine gw 2 1 ?_
 have hc1_ := (Le2 y3 y5).trans y7
 refine gC 1 (fun w8 Y8 _ A8 y8 => (rcheck_c _ _ A8.lt a _ _ _ (h₁.mono (hc1_.trans y8)) _ _ _ (k₁.mono (hc1_.trans y8)))) ?_
 rintro v9 w8 Y9 w9 A8 y9 rfl
 have hc2_ := hc1_.trans y9
 refine gC 3 (fun w10 Y10 _ A10 y10 => (rcheck_c _ _ A10.lt b _ _ _ (h₂.mono (hc2_.trans y10)) _ _ _ (k₂.mono (hc2_.trans y10)))) ?_
 rintro v11 w10 Y11 w11 A10 y11 rfl
 refine gp1 (al 4 14 (fun b => .slice (some ⟨b, 0, none⟩) 2 2) (.cells #[.int .i64 a.chk, .int .i64 b.chk] 46 (0, 0))) (fun b12 => ?_)
 refine gC 5 (vs := #[.slice (some ⟨b12, 0, none⟩) 2 2]) (fun w13 Y13 _ A13 y13 => (or_c _ X0 (X0_lt _) _ _ _ _ [a.chk, b.chk] rfl (by simp) (A13.at0 0 rfl rfl))) ?_
 rintro v14 w13 Y14 w14 A13 y14 rfl
 refine gz [6] ?_
 refine gend (fun w15 Y15 A15 y15 => ?_)
 refine zz 7 ?_
 refine zb 17 (b := ((orL [a.chk, b.chk]) != 0)) (fun hc16 => ?_) (fun hc16 => ?_)
 ·
  have ht17 : (orL [a.chk, b.chk]) ≠ 0 := by simpa using hc16
  refine zz 5 ?_
  refine zx 1 #[.bool false, .slice none 0 0, .slice none 0 0] A15 ?_
  intro w18 A18 y18
  refine zz 5 ?_
  refine zrS [.cell 6 28, .tmp 7] (v := .tuple #[.agg #[.bool false, .slice none 0 0, .slice none 0 0], .int .i64 (orL [a.chk, b.chk])]) (Res.cM A18 1 (Res.tZ Res.nil)) ?_
  obtain ⟨he1, he2⟩ := op_err (z := z) ht17
  exact ⟨A18.upd, _, rfl, _, by rw [he1], by rw [he2]; exact raw_zero⟩
 have ht19 : (orL [a.chk, b.chk]) = 0 := by simpa using hc16
 obtain ⟨hca, hcb⟩ := or2_zero ((orL2 _ _).symm.trans (by simpa using ht19))
 obtain ⟨hla, hma, cna, cda, _, _, _⟩ := Raw.chk_ok hca
 have bna : val a.ln < K128 := (canon_le_iff h₁.hlt cna 128).1 hla
 have bda : a.d < K128 := by unfold Raw.d; split; exact Nat.one_lt_pow (by omega) (by omega); exact (canon_le_iff k₁.hlt cda 128).1 hma
 have pda := Raw.d_pos a
 have hNna := h₁.natR cna
 have hNda := k₁.natR cda
 obtain ⟨hlb, hmb, cnb, cdb, _, _, _⟩ := Raw.chk_ok hcb
 have bnb : val b.ln < K128 := (canon_le_iff h₂.hlt cnb 128).1 hlb
 have bdb : b.d < K128 := by unfold Raw.d; split; exact Nat.one_lt_pow (by omega) (by omega); exact (canon_le_iff k₂.hlt cdb 128).1 hmb
 have pdb := Raw.d_pos b
 have hNnb := h₂.natR cnb
 have hNdb := k₂.natR cdb
 refine zz 4 ?_
 refine zdraw [0, 1, 2, 3] A15 ?_
 refine gz [0] ?_
 refine gw 1 3 ?_
 refine gw 3 2 ?_
 refine gp (al 7 9 pn (.cells #[.bool false, .slice none 0 0, .slice none 0 0] 28 (0, 0))) ?_
 have hc3_ := ((hc2_.trans y11).trans y14).trans y15
 refine gC 2 (fun w20 Y20 _ A20 y20 => (of_c _ _ A20.lt a.neg _ _ _ (val a.ln) (hNna.mono (hc3_.trans y20)) _ _ _ (val a.ld) (hNda.mono (hc3_.trans y20)))) ?_ (hPd := PdOk.nil.k)
 rintro v21 w20 Y21 w21 A20 y21 ⟨ad21, len21, cap21, ae21, le21, ce21, rfl, hN21, hD21⟩
 have hc4_ := hc3_.trans y21
 refine gC 4 (fun w22 Y22 _ A22 y22 => (of_c _ _ A22.lt b.neg _ _ _ (val b.ln) (hNnb.mono (hc4_.trans y22)) _ _ _ (val b.ld) (hNdb.mono (hc4_.trans y22)))) ?_ (hPd := PdOk.nil.k)
 rintro v23 w22 Y23 w23 A22 y23 ⟨ad23, len23, cap23, ae23, le23, ce23, rfl, hN23, hD23⟩
 refine gC 5 (hcall := (fun w => hcf _ w)) (fun w24 Y24 _ A24 y24 => (hop _ _ A24.lt _ _ _ (val a.ln) (hN21.mono (Le2 y23 y24)) _ _ _ a.d (hD21.mono (Le2 y23 y24)) a.neg (by assumption) (by assumption) _ _ _ (val b.ln) (hN23.mono y24) _ _ _ b.d (hD23.mono y24) b.neg (by assumption) (by assumption) (by assumption) (by assumption))) ?_ (hPd := PdOk.nil.k)
 rintro v25 w24 Y25 w25 A24 y25 ⟨sg25, m25, d25, ⟨ad25, len25, cap25, ae25, le25, ce25, rfl, hN25, hD25⟩, hm25, hd25, hp25, he25⟩
 refine gC 6 (fun w26 Y26 _ A26 y26 => (lowest_r _ _ A26.lt _ _ _ m25 (hN25.mono y26) _ _ _ d25 (hD25.mono y26) sg25 hm25 hd25 hp25 z (he25.trans hz))) ?_ (hPd := PdOk.nil.k)
 rintro v27 w26 Y27 w27 A26 y27 ⟨ad27, len27, cap27, ae27, le27, ce27, rfl, hN27, hD27⟩
 refine gs1 (fun b28 => ?_) PdOk.nil.k
 refine gX 8 0 #[.bool (decide (z.num < 0)), .slice ad27 len27 cap27, .slice ae27 le27 ce27] ?_
 intro w29 Y29 y29
 refine gend (fun w30 Y30 A30 y30 => ?_)
 refine zz 5 ?_
 refine zo 0 A30 ?_
 refine zz 3 ?_
 refine zt 31 (p := (len27 : Int) > 128) (fun ht31 => ?_) (fun ht31 => ?_)
 ·
  refine zz 11 ?_
  refine zx 2 #[.bool false, .slice none 0 0, .slice none 0 0] A30 ?_
  intro w32 A32 y32
  refine zz 5 ?_
  refine zrS [.cell 6 28, .tmp 7] (v := .tuple #[.agg #[.bool false, .slice none 0 0, .slice none 0 0], .int .i64 4]) (Res.cM A32 2 (Res.tZ Res.nil)) ?_
  obtain ⟨he1, he2⟩ := op_long (z := z) ht19 (fun hh => absurd ((hN27.len_le 128).2 hh.1) (by omega))
  exact ⟨A32.upd, _, rfl, _, by rw [he1], by rw [he2]; exact raw_zero⟩
 refine zz 1 ?_
 refine zo 0 A30 ?_
 refine zz 5 ?_
 refine zt 36 (p := (le27 : Int) > 128) (fun ht33 => ?_) (fun ht33 => ?_)
 ·
  refine zz 4 ?_
  refine zx 2 #[.bool false, .slice none 0 0, .slice none 0 0] A30 ?_
  intro w34 A34 y34
  refine zz 5 ?_
  refine zrS [.cell 6 28, .tmp 7] (v := .tuple #[.agg #[.bool false, .slice none 0 0, .slice none 0 0], .int .i64 4]) (Res.cM A34 2 (Res.tZ Res.nil)) ?_
  obtain ⟨he1, he2⟩ := op_long (z := z) ht19 (fun hh => absurd ((hD27.len_le 128).2 hh.2) (by omega))
  exact ⟨A34.upd, _, rfl, _, by rw [he1], by rw [he2]; exact raw_zero⟩
 refine zz 5 ?_
 refine zo 0 A30 ?_
 refine zx 2 #[.bool (decide (z.num < 0)), .slice ad27 len27 cap27, .slice ae27 le27 ce27] A30 ?_
 intro w35 A35 y35
 refine zz 4 ?_
 refine zrS [.cell 6 28, .tmp 7] (v := .tuple #[.agg #[.bool (decide (z.num < 0)), .slice ad27 len27 cap27, .slice ae27 le27 ce27], .int .i64 0]) (Res.cM A35 2 (Res.tZ Res.nil)) ?_
 obtain ⟨he1, he2⟩ := op_good (z := z) ht19 ⟨(hN27.len_le 128).1 (by omega), (hD27.len_le 128).1 (by omega)⟩
 exact ⟨A35.upd, _, rfl, _, by rw [he1], by rw [he2]; exact RatX.raw ⟨_, _, _, _, _, _, rfl, ((hN27.mono (Le.own A26.lt A26.upd.size (Le3 y29 y30 y35))).mono Le.orr), ((hD27.mono (Le.own A26.lt A26.upd.size (Le3 y29 y30 y35))).mono Le.orr)⟩⟩
end Go.Proofs.YtdfmdiakjdggbaaGreatDoor
namespace Go.Proofs.YtdfmdiakjdggbaaGreatDoor
open Go Go.Gv Go.RowKit
set_option maxRecDepth 100000
set_option maxHeartbeats 1000000
theorem rAdd_c (w : World) (X : Hid) (hX : ∀ k o, X k o → k < w.heap.size) (a : Raw) (ad₁ : Option Addr) (len₁ cap₁ : Nat) (h₁ : Limbs (rd w X) ad₁ len₁ cap₁ a.ln) (ae₁ : Option Addr) (le₁ ce₁ : Nat) (k₁ : Limbs (rd w X) ae₁ le₁ ce₁ a.ld) (b : Raw) (ad₂ : Option Addr) (len₂ cap₂ : Nat) (h₂ : Limbs (rd w X) ad₂ len₂ cap₂ b.ln) (ae₂ : Option Addr) (le₂ ce₂ : Nat) (k₂ : Limbs (rd w X) ae₂ le₂ ce₂ b.ld) : Calls Tryz.prog 34 #[.agg #[.bool a.neg, .slice ad₁ len₁ cap₁, .slice ae₁ le₁ ce₁], .agg #[.bool b.neg, .slice ad₂ len₂ cap₂, .slice ae₂ le₂ ce₂]] w (Ret E0 w fun w' v => ∃ u, v = .tuple #[u, .int .i64 (opE a b (a.rat + b.rat))] ∧ RawX (old w) w' u (opR a b (a.rat + b.rat))) := by
 refine zen Tryz.func34 ?_
 have A0 : St E0 w X w X [] := St.start hX
 refine zz 2 ?_
 refine zn pn (.cells #[.bool a.neg, .slice ad₁ len₁ cap₁, .slice ae₁ le₁ ce₁] 28 (0, 0)) A0 ?_
 intro b3 w3 Y3 A3 y3 hu3
 refine zn pn (.cells #[.bool b.neg, .slice ad₂ len₂ cap₂, .slice ae₂ le₂ ce₂] 28 (0, 0)) A3 ?_
 intro b5 w5 Y5 A5 y5 hu5
 refine zn pn (.cells #[.bool false, .slice none 0 0, .slice none 0 0] 28 (0, 0)) A5 ?_
 intro b7 w7 Y7 A7 y7 hu7
 refine zz 5 ?_
 refine zo 2 A7 ?_
 refine zo 1 A7 ?_
 refine zc A7 (operate_c 83 (· + ·) (fun args w => Tryz.call83 args w) sum_op _ _ A7.lt a _ _ _ (h₁.mono (Le3 y3 y5 y7)) _ _ _ (k₁.mono (Le3 y3 y5 y7)) b _ _ _ (h₂.mono (Le3 y3 y5 y7)) _ _ _ (k₂.mono (Le3 y3 y5 y7)) (a.rat + b.rat) rfl) ?_
 rintro v9 w9 A9 y9 hu9 ⟨u9, rfl, ⟨ad9, len9, cap9, ae9, le9, ce9, rfl, hN9, hD9⟩⟩
 refine zz 2 ?_
 refine zx 0 #[.bool ((opR a b (a.rat + b.rat)).neg), .slice ad9 len9 cap9, .slice ae9 le9 ce9] A9 ?_
 intro w10 A10 y10
 refine zz 4 ?_
 refine zrS [.cell 4 28, .tmp 5] (v := .tuple #[.agg #[.bool ((opR a b (a.rat + b.rat)).neg), .slice ad9 len9 cap9, .slice ae9 le9 ce9], .int .i64 (opE a b (a.rat + b.rat))]) (Res.cM A10 0 (Res.tZ Res.nil)) ?_
 exact ⟨A10.upd, _, rfl, _, rfl, ⟨_, _, _, _, _, _, rfl, ((hN9.mono (Le.own A7.lt A7.upd.size y10)).mono Le.orr), ((hD9.mono (Le.own A7.lt A7.upd.size y10)).mono Le.orr)⟩⟩
theorem rMul_c (w : World) (X : Hid) (hX : ∀ k o, X k o → k < w.heap.size) (a : Raw) (ad₁ : Option Addr) (len₁ cap₁ : Nat) (h₁ : Limbs (rd w X) ad₁ len₁ cap₁ a.ln) (ae₁ : Option Addr) (le₁ ce₁ : Nat) (k₁ : Limbs (rd w X) ae₁ le₁ ce₁ a.ld) (b : Raw) (ad₂ : Option Addr) (len₂ cap₂ : Nat) (h₂ : Limbs (rd w X) ad₂ len₂ cap₂ b.ln) (ae₂ : Option Addr) (le₂ ce₂ : Nat) (k₂ : Limbs (rd w X) ae₂ le₂ ce₂ b.ld) : Calls Tryz.prog 49 #[.agg #[.bool a.neg, .slice ad₁ len₁ cap₁, .slice ae₁ le₁ ce₁], .agg #[.bool b.neg, .slice ad₂ len₂ cap₂, .slice ae₂ le₂ ce₂]] w (Ret E0 w fun w' v => ∃ u, v = .tuple #[u, .int .i64 (opE a b (a.rat * b.rat))] ∧ RawX (old w) w' u (opR a b (a.rat * b.rat))) := by
 refine zen Tryz.func49 ?_
 have A0 : St E0 w X w X [] := St.start hX
 refine zz 2 ?_
 refine zn pn (.cells #[.bool a.neg, .slice ad₁ len₁ cap₁, .slice ae₁ le₁ ce₁] 28 (0, 0)) A0 ?_
 intro b3 w3 Y3 A3 y3 hu3
 refine zn pn (.cells #[.bool b.neg, .slice ad₂ len₂ cap₂, .slice ae₂ le₂ ce₂] 28 (0, 0)) A3 ?_
 intro b5 w5 Y5 A5 y5 hu5
 refine zn pn (.cells #[.bool false, .slice none 0 0, .slice none 0 0] 28 (0, 0)) A5 ?_
 intro b7 w7 Y7 A7 y7 hu7
 refine zz 5 ?_
 refine zo 2 A7 ?_
 refine zo 1 A7 ?_
 refine zc A7 (operate_c 99 (· * ·) (fun args w => Tryz.call99 args w) product_op _ _ A7.lt a _ _ _ (h₁.mono (Le3 y3 y5 y7)) _ _ _ (k₁.mono (Le3 y3 y5 y7)) b _ _ _ (h₂.mono (Le3 y3 y5 y7)) _ _ _ (k₂.mono (Le3 y3 y5 y7)) (a.rat * b.rat) rfl) ?_
 rintro v9 w9 A9 y9 hu9 ⟨u9, rfl, ⟨ad9, len9, cap9, ae9, le9, ce9, rfl, hN9, hD9⟩⟩
 refine zz 2 ?_
 refine zx 0 #[.bool ((opR a b (a.rat * b.rat)).neg), .slice ad9 len9 cap9, .slice ae9 le9 ce9] A9 ?_
 intro w10 A10 y10
 refine zz 4 ?_
 refine zrS [.cell 4 28, .tmp 5] (v := .tuple #[.agg #[.bool ((opR a b (a.rat * b.rat)).neg), .slice ad9 len9 cap9, .slice ae9 le9 ce9], .int .i64 (opE a b (a.rat * b.rat))]) (Res.cM A10 0 (Res.tZ Res.nil)) ?_
 exact ⟨A10.upd, _, rfl, _, rfl, ⟨_, _, _, _, _, _, rfl, ((hN9.mono (Le.own A7.lt A7.upd.size y10)).mono Le.orr), ((hD9.mono (Le.own A7.lt A7.upd.size y10)).mono Le.orr)⟩⟩
theorem rSub_c (w : World) (X : Hid) (hX : ∀ k o, X k o → k < w.heap.size) (a : Raw) (ad₁ : Option Addr) (len₁ cap₁ : Nat) (h₁ : Limbs (rd w X) ad₁ len₁ cap₁ a.ln) (ae₁ : Option Addr) (le₁ ce₁ : Nat) (k₁ : Limbs (rd w X) ae₁ le₁ ce₁ a.ld) (b : Raw) (ad₂ : Option Addr) (len₂ cap₂ : Nat) (h₂ : Limbs (rd w X) ad₂ len₂ cap₂ b.ln) (ae₂ : Option Addr) (le₂ ce₂ : Nat) (k₂ : Limbs (rd w X) ae₂ le₂ ce₂ b.ld) : Calls Tryz.prog 48 #[.agg #[.bool a.neg, .slice ad₁ len₁ cap₁, .slice ae₁ le₁ ce₁], .agg #[.bool b.neg, .slice ad₂ len₂ cap₂, .slice ae₂ le₂ ce₂]] w (Ret E0 w fun w' v => ∃ u, v = .tuple #[u, .int .i64 (opE a b (a.rat - b.rat))] ∧ RawX (old w) w' u (opR a b (a.rat - b.rat))) := by
 refine zen Tryz.func48 ?_
 have A0 : St E0 w X w X [] := St.start hX
 refine zz 2 ?_
 refine zn pn (.cells #[.bool a.neg, .slice ad₁ len₁ cap₁, .slice ae₁ le₁ ce₁] 28 (0, 0)) A0 ?_
 intro b3 w3 Y3 A3 y3 hu3
 refine zn pn (.cells #[.bool b.neg, .slice ad₂ len₂ cap₂, .slice ae₂ le₂ ce₂] 28 (0, 0)) A3 ?_
 intro b5 w5 Y5 A5 y5 hu5
 refine zn pn (.cells #[.bool false, .slice none 0 0, .slice none 0 0] 28 (0, 0)) A5 ?_
 intro b7 w7 Y7 A7 y7 hu7
 refine zz 5 ?_
 refine zo 2 A7 ?_
 refine zo 1 A7 ?_
 refine zc A7 (operate_c 98 (· - ·) (fun args w => Tryz.call98 args w) sub_op _ _ A7.lt a _ _ _ (h₁.mono (Le3 y3 y5 y7)) _ _ _ (k₁.mono (Le3 y3 y5 y7)) b _ _ _ (h₂.mono (Le3 y3 y5 y7)) _ _ _ (k₂.mono (Le3 y3 y5 y7)) (a.rat - b.rat) rfl) ?_
 rintro v9 w9 A9 y9 hu9 ⟨u9, rfl, ⟨ad9, len9, cap9, ae9, le9, ce9, rfl, hN9, hD9⟩⟩
 refine zz 2 ?_
 refine zx 0 #[.bool ((opR a b (a.rat - b.rat)).neg), .slice ad9 len9 cap9, .slice ae9 le9 ce9] A9 ?_
 intro w10 A10 y10
 refine zz 4 ?_
 refine zrS [.cell 4 28, .tmp 5] (v := .tuple #[.agg #[.bool ((opR a b (a.rat - b.rat)).neg), .slice ad9 len9 cap9, .slice ae9 le9 ce9], .int .i64 (opE a b (a.rat - b.rat))]) (Res.cM A10 0 (Res.tZ Res.nil)) ?_
 exact ⟨A10.upd, _, rfl, _, rfl, ⟨_, _, _, _, _, _, rfl, ((hN9.mono (Le.own A7.lt A7.upd.size y10)).mono Le.orr), ((hD9.mono (Le.own A7.lt A7.upd.size y10)).mono Le.orr)⟩⟩
theorem rFrom_c (w : World) (X : Hid) (hX : ∀ k o, X k o → k < w.heap.size) (n : Int) (h1 : -9223372036854775808 ≤ n) (h2 : n ≤ 9223372036854775807) : Calls Tryz.prog 47 #[.int .i64 n] w (Ret E0 w fun w' v => RawX X w' v (.of (n : Rat))) := by
 refine zen Tryz.func47 ?_
 have A0 : St E0 w X w X [] := St.start hX
 refine zz 2 ?_
 refine zn pn (.cells #[.bool false, .slice none 0 0, .slice none 0 0] 28 (0, 0)) A0 ?_
 intro b3 w3 Y3 A3 y3 hu3
 refine zz 7 ?_
 refine zc A3 (natural_c _ _ A3.lt n (by omega) (by omega)) ?_
 rintro v5 w5 A5 y5 hu5 ⟨ad5, len5, cap5, rfl, hN5⟩
 refine zz 1 ?_
 refine zx 0 #[.bool (decide ((n) < 0)), .slice ad5 len5 cap5, .slice none 0 0] A5 ?_
 intro w6 A6 y6
 refine zz 3 ?_
 refine zrS [.cell 2 28] (v := .agg #[.bool (decide ((n) < 0)), .slice ad5 len5 cap5, .slice none 0 0]) (Res.cM A6 0 Res.nil) ?_
 exact ⟨A6.upd, _, rfl, (int_rat ((hN5.mono y6).mono A6.le)).raw⟩
theorem rCmp_c (w : World) (X : Hid) (hX : ∀ k o, X k o → k < w.heap.size) (a : Raw) (ad₁ : Option Addr) (len₁ cap₁ : Nat) (h₁ : Limbs (rd w X) ad₁ len₁ cap₁ a.ln) (ae₁ : Option Addr) (le₁ ce₁ : Nat) (k₁ : Limbs (rd w X) ae₁ le₁ ce₁ a.ld) (b : Raw) (ad₂ : Option Addr) (len₂ cap₂ : Nat) (h₂ : Limbs (rd w X) ad₂ len₂ cap₂ b.ln) (ae₂ : Option Addr) (le₂ ce₂ : Nat) (k₂ : Limbs (rd w X) ae₂ le₂ ce₂ b.ld) : Calls Tryz.prog 33 #[.agg #[.bool a.neg, .slice ad₁ len₁ cap₁, .slice ae₁ le₁ ce₁], .agg #[.bool b.neg, .slice ad₂ len₂ cap₂, .slice ae₂ le₂ ce₂]] w (Ret E0 w fun w' v => v = .tuple #[.int .i64 (cmpR a b), .int .i64 (cmpE a b)]) := by
 refine zen Tryz.func33 ?_
 have A0 : St E0 w X w X [] := St.start hX
 refine zz 2 ?_
 refine zn pn (.cells #[.bool a.neg, .slice ad₁ len₁ cap₁, .slice ae₁ le₁ ce₁] 28 (0, 0)) A0 ?_
 intro b3 w3 Y3 A3 y3 hu3
 refine zn pn (.cells #[.bool b.neg, .slice ad₂ len₂ cap₂, .slice ae₂ le₂ ce₂] 28 (0, 0)) A3 ?_
 intro b5 w5 Y5 A5 y5 hu5
 refine zz 6 ?_
 refine zdr A5 ?_
 refine gw 0 1 ?_
 refine gw 2 0 ?_
 refine gC 1 (fun w6 Y6 _ A6 y6 => (rcheck_c _ _ A6.lt a _ _ _ (h₁.mono (Le3 y3 y5 y6)) _ _ _ (k₁.mono (Le3 y3 y5 y6)))) ?_
 rintro v7 w6 Y7 w7 A6 y7 rfl
 have hc1_ := (Le2 y3 y5).trans y7
 refine gC 3 (fun w8 Y8 _ A8 y8 => (rcheck_c _ _ A8.lt b _ _ _ (h₂.mono (hc1_.trans y8)) _ _ _ (k₂.mono (hc1_.trans y8)))) ?_
 rintro v9 w8 Y9 w9 A8 y9 rfl
 refine gp1 (al 4 14 (fun b => .slice (some ⟨b, 0, none⟩) 2 2) (.cells #[.int .i64 a.chk, .int .i64 b.chk] 46 (0, 0))) (fun b10 => ?_)
 refine gC 5 (vs := #[.slice (some ⟨b10, 0, none⟩) 2 2]) (fun w11 Y11 _ A11 y11 => (or_c _ X0 (X0_lt _) _ _ _ _ [a.chk, b.chk] rfl (by simp) (A11.at0 0 rfl rfl))) ?_
 rintro v12 w11 Y12 w12 A11 y12 rfl
 refine gz [6] ?_
 refine gend (fun w13 Y13 A13 y13 => ?_)
 refine zz 7 ?_
 refine zb 17 (b := ((orL [a.chk, b.chk]) != 0)) (fun hc14 => ?_) (fun hc14 => ?_)
 ·
  have ht15 : (orL [a.chk, b.chk]) ≠ 0 := by simpa using hc14
  refine zz 10 ?_
  refine zr' (v := .tuple #[.int .i64 0, .int .i64 (orL [a.chk, b.chk])]) ?_
  exact ⟨A13.upd, _, rfl, by rw [cmpR, cmpE, ← orL2, if_neg ht15]⟩
 have ht16 : (orL [a.chk, b.chk]) = 0 := by simpa using hc14
 obtain ⟨hca, hcb⟩ := or2_zero ((orL2 _ _).symm.trans (by simpa using ht16))
 obtain ⟨hla, hma, cna, cda, _, _, _⟩ := Raw.chk_ok hca
 have bna : val a.ln < K128 := (canon_le_iff h₁.hlt cna 128).1 hla
 have bda : a.d < K128 := by unfold Raw.d; split; exact Nat.one_lt_pow (by omega) (by omega); exact (canon_le_iff k₁.hlt cda 128).1 hma
 have pda := Raw.d_pos a
 have hNna := h₁.natR cna
 have hNda := k₁.natR cda
 obtain ⟨hlb, hmb, cnb, cdb, _, _, _⟩ := Raw.chk_ok hcb
 have bnb : val b.ln < K128 := (canon_le_iff h₂.hlt cnb 128).1 hlb
 have bdb : b.d < K128 := by unfold Raw.d; split; exact Nat.one_lt_pow (by omega) (by omega); exact (canon_le_iff k₂.hlt cdb 128).1 hmb
 have pdb := Raw.d_pos b
 have hNnb := h₂.natR cnb
 have hNdb := k₂.natR cdb
 refine zz 4 ?_
 refine zdrs [0, 1, 2] A13 ?_
 refine gw 0 2 ?_
 refine gw 2 1 ?_
 refine gp (al 5 8 pn (.cells #[.slice none 0 0, .slice none 0 0, .bool false] 132 (0, 0))) ?_
 refine gp (al 4 7 pn (.cells #[.slice none 0 0, .slice none 0 0, .bool false] 132 (0, 0))) ?_
 have hc2_ := ((hc1_.trans y9).trans y12).trans y13
 refine gC 1 (fun w17 Y17 _ A17 y17 => (of_c _ _ A17.lt a.neg _ _ _ (val a.ln) (hNna.mono (hc2_.trans y17)) _ _ _ (val a.ld) (hNda.mono (hc2_.trans y17)))) ?_ (hPd := PdOk.nil.k.k)
 rintro v18 w17 Y18 w18 A17 y18 ⟨ad18, len18, cap18, ae18, le18, ce18, rfl, hN18, hD18⟩
 have hc3_ := hc2_.trans y18
 refine gC 3 (fun w19 Y19 _ A19 y19 => (of_c _ _ A19.lt b.neg _ _ _ (val b.ln) (hNnb.mono (hc3_.trans y19)) _ _ _ (val b.ld) (hNdb.mono (hc3_.trans y19)))) ?_ (hPd := PdOk.nil.k.k)
 rintro v20 w19 Y20 w20 A19 y20 ⟨ad20, len20, cap20, ae20, le20, ce20, rfl, hN20, hD20⟩
 refine ge (fun e21 => ?_) PdOk.nil.k.k
 refine gXs 6 0 [2, 3, 4] #[.slice ad18 len18 cap18, .slice ae18 le18 ce18, .bool a.neg] ?_
 intro w22 Y22 y22
 refine gXs 7 1 [2, 3, 4] #[.slice ad20 len20 cap20, .slice ae20 le20 ce20, .bool b.neg] ?_
 intro w23 Y23 y23
 refine gend (fun w24 Y24 A24 y24 => ?_)
 refine zz 4 ?_
 refine zo 1 A24 ?_
 refine zz 2 ?_
 refine zx 1 #[.slice ad20 len20 cap20, .slice ae20 le20 ce20, .bool (!b.neg)] A24 ?_
 intro w25 A25 y25
 refine zz 5 ?_
 refine zo 0 A25 ?_
 refine zo 1 A25 ?_
 have hc4_ := (Le4 y20 y22 y23 y24).trans y25
 have hc5_ := (Le3 y22 y23 y24).trans y25
 refine zc A25 (sum_c _ _ A25.lt _ _ _ (val a.ln) (hN18.mono hc4_) _ _ _ a.d (hD18.mono hc4_) a.neg (by assumption) (by assumption) _ _ _ (val b.ln) (hN20.mono hc5_) _ _ _ b.d (hD20.mono hc5_) (!b.neg) (by assumption) (by assumption)) ?_
 rintro v27 w27 A27 y27 hu27 ⟨sg27, m27, ⟨ad27, len27, cap27, ae27, le27, ce27, rfl, hN27, hD27⟩, hm27, he27⟩
 have hc6_ := hc4_.trans y27
 have hc7_ := hc5_.trans y27
 refine zn pn (.cells #[.slice none 0 0, .slice none 0 0, .bool false] 132 (0, 0)) A27 ?_
 intro b29 w29 Y29 A29 y29 hu29
 refine zx 0 #[.slice ad27 len27 cap27, .slice ae27 le27 ce27, .bool sg27] A29 ?_
 intro w30 A30 y30
 refine zz 7 ?_
 refine zo 0 A30 ?_
 refine zz 5 ?_
 refine zb 30 (b := ((len27 : Int) == 0)) (fun hc31 => ?_) (fun hc31 => ?_)
 ·
  have ht32 : (len27 : Int) = 0 := by simpa using hc31
  have hdf : _ = a.rat - b.rat := diff_mk (he27.trans (by rw [sgn_not])) pda pdb
  have hm0 := hN27.len0.1 (by omega)
  refine zz 10 ?_
  refine zr' (v := .tuple #[.int .i64 0, .int .i64 0]) ?_
  exact ⟨A30.upd, _, rfl, by have h0 := ht16; rw [cmpR, cmpE, ← orL2, if_pos (by simpa using h0), show orL [a.chk, b.chk] = 0 by simpa using h0, cmp_zero hdf hm0]⟩
 have ht33 : (len27 : Int) ≠ 0 := by simpa using hc31
 have hdf : _ = a.rat - b.rat := diff_mk (he27.trans (by rw [sgn_not])) pda pdb
 have hm0 : m27 ≠ 0 := fun e => absurd (hN27.len0.2 e) (by omega)
 refine zz 4 ?_
 refine zo 0 A30 ?_
 refine zz 3 ?_
 refine zb 36 (b := sg27) (fun hc34 => ?_) (fun hc34 => ?_)
 ·
  have ht35 : sg27 = true := by simpa using hc34
  rw [ht35] at hdf
  refine zz 10 ?_
  refine zr' (v := .tuple #[.int .i64 (-1), .int .i64 0]) ?_
  exact ⟨A30.upd, _, rfl, by have h0 := ht16; rw [cmpR, cmpE, ← orL2, if_pos (by simpa using h0), show orL [a.chk, b.chk] = 0 by simpa using h0, cmp_neg hdf hm0 (den_ne pda pdb)]⟩
 have ht36 : sg27 = false := by simpa using hc34
 rw [ht36] at hdf
 refine zz 11 ?_
 refine zr' (v := .tuple #[.int .i64 1, .int .i64 0]) ?_
 exact ⟨A30.upd, _, rfl, by have h0 := ht16; rw [cmpR, cmpE, ← orL2, if_pos (by simpa using h0), show orL [a.chk, b.chk] = 0 by simpa using h0, cmp_pos hdf hm0 (den_ne pda pdb)]⟩
end Go.Proofs.YtdfmdiakjdggbaaGreatDoor
namespace Go.Proofs.YtdfmdiakjdggbaaGreatDoor
open Go Go.Gv Go.RowKit
set_option maxRecDepth 100000
set_option maxHeartbeats 1000000
theorem rOf_c (w : World) (X : Hid) (hX : ∀ k o, X k o → k < w.heap.size) (p q : Int) (hp : -9223372036854775808 ≤ p) (hp2 : p ≤ 9223372036854775807) (hq : -9223372036854775808 ≤ q) (hq2 : q ≤ 9223372036854775807) (h0 : q ≠ 0) : Calls Tryz.prog 126 #[.int .i64 p, .int .i64 q] w (Ret E0 w fun w' v => ∃ u, v = .tuple #[u, .int .i64 0] ∧ RawX X w' u (.of (mkRat (sgn (!(decide (p < 0) == decide (q < 0))) p.natAbs) q.natAbs))) := by
 have hB : (18446744073709551616 : Nat) ≤ 4294967296 ^ 512 := Nat.le_trans (by decide : 18446744073709551616 ≤ 4294967296 ^ 2) (pow_fit 4294967296 2 512 (by decide) (by decide))
 refine zen Tryz.func126 ?_
 have A0 : St E0 w X w X [] := St.start hX
 refine zz 2 ?_
 refine zn pn (.cells #[.bool false, .slice none 0 0, .slice none 0 0] 28 (0, 0)) A0 ?_
 intro b3 w3 Y3 A3 y3 hu3
 refine zz 10 ?_
 refine zb 7 (b := ((q) == 0)) (fun hc4 => ?_) (fun hc4 => ?_)
 ·
  have ht5 : (q) = 0 := by simpa using hc4
  exfalso; omega
 have ht6 : (q) ≠ 0 := by simpa using hc4
 refine zz 6 ?_
 refine zc A3 (natural_c _ _ A3.lt p (by omega) (by omega)) ?_
 rintro v8 w8 A8 y8 hu8 ⟨ad8, len8, cap8, rfl, hN8⟩
 refine zz 1 ?_
 refine zc A8 (natural_c _ _ A8.lt q (by omega) (by omega)) ?_
 rintro v10 w10 A10 y10 hu10 ⟨ad10, len10, cap10, rfl, hN10⟩
 refine zz 7 ?_
 refine zc A10 (lowest_r _ _ A10.lt _ _ _ p.natAbs (hN8.mono y10) _ _ _ q.natAbs hN10 (!((decide ((p) < 0)) == (decide ((q) < 0)))) (by omega) (by omega) (by omega) (mkRat (sgn (!(decide (p < 0) == decide (q < 0))) p.natAbs) q.natAbs) rfl) ?_
 rintro v12 w12 A12 y12 hu12 ⟨ad12, len12, cap12, ae12, le12, ce12, rfl, hN12, hD12⟩
 refine zx 0 #[.bool (decide ((mkRat (sgn (!(decide (p < 0) == decide (q < 0))) p.natAbs) q.natAbs).num < 0)), .slice ad12 len12 cap12, .slice ae12 le12 ce12] A12 ?_
 intro w13 A13 y13
 refine zz 4 ?_
 refine zrS [.cell 4 28, .tmp 5] (v := .tuple #[.agg #[.bool (decide ((mkRat (sgn (!(decide (p < 0) == decide (q < 0))) p.natAbs) q.natAbs).num < 0)), .slice ad12 len12 cap12, .slice ae12 le12 ce12], .int .i64 0]) (Res.cM A13 0 (Res.tZ Res.nil)) ?_
 exact ⟨A13.upd, _, rfl, _, rfl, RatX.raw ⟨_, _, _, _, _, _, rfl, ((hN12.mono (Le.new A10.lt)).mono y13).mono A13.le, ((hD12.mono (Le.new A10.lt)).mono y13).mono A13.le⟩⟩
end Go.Proofs.YtdfmdiakjdggbaaGreatDoor
namespace Go.Proofs.YtdfmdiakjdggbaaGreatDoor
open Go Go.Gv Go.RowKit
set_option maxRecDepth 100000
set_option maxHeartbeats 1000000
theorem take_snoc {α : Type} {l : List α} {k : Nat} {x : α} (h : l[k]? = some x) : l.take (k + 1) = l.take k ++ [x] := by rw [List.take_add_one, h]; rfl
theorem take_eq {α : Type} {l l2 : List α} {k : Nat} {x : α} (h : l.take k = l2.take k) (hx : l[k]? = some x) (hy : l2[k]? = some x) : l.take (k + 1) = l2.take (k + 1) := by rw [take_snoc hx, take_snoc hy, h]
theorem take_all {α : Type} {l l2 : List α} {k : Nat} (h : l.take k = l2.take k) (hl : l.length = l2.length) (hk : l.length ≤ k) : l = l2 := by
  rwa [List.take_of_length_le hk, List.take_of_length_le (by omega)] at h
theorem ne_at {α : Type} {l l2 : List α} {k : Nat} {x y : α} (hx : l[k]? = some x) (hy : l2[k]? = some y) (h : x ≠ y) : l ≠ l2 := by
  rintro rfl; exact h (Option.some.inj (hx.symm.trans hy))
theorem getD_some {l : List Nat} {k : Nat} (h : k < l.length) : l[k]? = some (l.getD k 0) := by
  rw [List.getD_eq_getElem?_getD, List.getElem?_eq_getElem h]; rfl
theorem vboolE {x y : Bool} (h : x = y) : Value.bool x = .bool y := h ▸ rfl
theorem EqualLimbs_c (w : World) (X : Hid) (hX : ∀ k o, X k o → k < w.heap.size) (ad : Option Addr) (len cap : Nat) (l : List Nat) (h : Limbs (rd w X) ad len cap l) (ad2 : Option Addr) (len2 cap2 : Nat) (l2 : List Nat) (h2 : Limbs (rd w X) ad2 len2 cap2 l2) : Calls Tryz.prog 164 #[.slice ad len cap, .slice ad2 len2 cap2] w (Ret E0 w fun _ v => v = .bool (decide (l = l2))) := by
 obtain rfl := h.hlen
 obtain rfl := h2.hlen
 have hcap := h.hcap
 have hbig := h.hbig
 have hcap2 := h2.hcap
 have hbig2 := h2.hbig
 refine zen Tryz.func164 ?_
 have A0 : St E0 w X w X [] := St.start hX
 refine zz 15 ?_
 refine zb 10 (b := ((l.length : Int) != (l2.length : Int))) (fun hc2 => ?_) (fun hc2 => ?_)
 ·
  have ht3 : (l.length : Int) ≠ (l2.length : Int) := by simpa using hc2
  refine zz 8 ?_
  refine zr' (v := .bool false) ?_
  exact ⟨A0.upd, _, rfl, vboolE ((decide_eq_false (fun e => by rw [e] at ht3; exact ht3 rfl)).symm)⟩
 have ht4 : (l.length : Int) = (l2.length : Int) := by simpa using hc2
 have hlen : l.length = l2.length := by omega
 refine zz 10 ?_
 refine zlp Tryz.f164 [] [1, 1, 0, 1, 0] (fun (k : Nat) => [(0, .slice ad l.length cap), (1, .slice ad2 l2.length cap2), (5, .int .i64 (k : Int))]) (fun (k : Nat) w1 => ∃ (Y1 : Hid), St E0 w X w1 Y1 [] ∧ Le (rd w X) (rd w1 Y1) ∧ (l.take k = l2.take k) ∧ (k ≤ l.length)) (fun (k : Nat) => l.length - k) 0 ?_ ?_
 ·
  refine ⟨_, A0, Le.refl _, rfl, Nat.zero_le _⟩
 rintro k w5 K5 V5 ⟨Y5, A5, y5, hp5_0, hp5_1⟩
 refine zz 9 ?_
 refine zt 14 (p := (k : Int) < (l.length : Int)) (fun ht6 => ?_) (fun ht6 => ?_)
 ·
  obtain ⟨b1, off1, rfl, _⟩ := h.addr (by omega)
  have hx1 := getD_some (l := l) (k := k) (by omega)
  obtain ⟨b2, off2, rfl, _⟩ := h2.addr (by omega)
  have hx2 := getD_some (l := l2) (k := k) (by omega)
  refine zz 6 ?_
  refine zdr A5 ?_
  refine gz [0, 1] ?_
  refine gi 2 (b := b1) (off := off1) (len := l.length) (cap := cap) (kd := .i64) (i := (k : Int)) 1 (off1 + k) ?_
  refine gl 3 ((h.cell (i := k) (by omega)).mono y5) ?_
  refine gz [4, 5] ?_
  refine gi 6 (b := b2) (off := off2) (len := l2.length) (cap := cap2) (kd := .i64) (i := (k : Int)) 1 (off2 + k) ?_
  refine gl 7 ((h2.cell (i := k) (by omega)).mono y5) ?_
  refine gz [8] ?_
  refine gend (fun w7 Y7 A7 y7 => ?_)
  refine zz 1 ?_
  refine zb 25 (b := (((l.getD k 0 : Nat) : Int) != ((l2.getD k 0 : Nat) : Int))) (fun hc8 => ?_) (fun hc8 => ?_)
  ·
   have ht9 : ((l.getD k 0 : Nat) : Int) ≠ ((l2.getD k 0 : Nat) : Int) := by simpa using hc8
   refine zz 12 ?_
   refine zr' (v := .bool false) ?_
   exact ⟨A7.upd, _, rfl, vboolE ((decide_eq_false (ne_at hx1 hx2 (fun e => ht9 (by rw [e])))).symm)⟩
  have ht10 : ((l.getD k 0 : Nat) : Int) = ((l2.getD k 0 : Nat) : Int) := by simpa using hc8
  refine zz 7 ?_
  refine zw 16 (x := (k : Int) + 1) ?_
  refine zz 2 ?_
  refine znext (fun a h => V5 (k + 1) _ a h ⟨_, A7, (Le2 y5 y7), take_eq hp5_0 hx1 (by rw [show l.getD k 0 = l2.getD k 0 by omega]; exact hx2), by omega⟩ ?_)
  first | omega | (simp <;> omega)
 refine zz 12 ?_
 refine zr' (v := .bool true) ?_
 exact ⟨A5.upd, _, rfl, vboolE ((decide_eq_true (take_all hp5_0 hlen (by omega))).symm)⟩
theorem EqualNat_c (w : World) (X : Hid) (hX : ∀ k o, X k o → k < w.heap.size) (ad : Option Addr) (len cap : Nat) (l : List Nat) (h : Limbs (rd w X) ad len cap l) (ad2 : Option Addr) (len2 cap2 : Nat) (l2 : List Nat) (h2 : Limbs (rd w X) ad2 len2 cap2 l2) : Calls Tryz.prog 85 #[.slice ad len cap, .slice ad2 len2 cap2] w (Ret E0 w fun _ v => v = .bool (decide (l = l2))) := by
 obtain rfl := h.hlen
 obtain rfl := h2.hlen
 have hcap := h.hcap
 have hbig := h.hbig
 have hcap2 := h2.hcap
 have hbig2 := h2.hbig
 refine zen Tryz.func85 ?_
 have A0 : St E0 w X w X [] := St.start hX
 refine zz 9 ?_
 refine zc A0 (EqualLimbs_c _ _ A0.lt _ _ _ _ h _ _ _ _ h2) ?_
 rintro v3 w3 A3 y3 hu3 rfl
 refine zz 4 ?_
 refine zr' (v := .bool (decide (l = l2))) ?_
 exact ⟨A3.upd, _, rfl, rfl⟩
theorem raw_ext {a b : Raw} : a = b ↔ a.neg = b.neg ∧ a.ln = b.ln ∧ a.ld = b.ld := by cases a; cases b; simp
theorem EqualRat_c (w : World) (X : Hid) (hX : ∀ k o, X k o → k < w.heap.size) (a : Raw) (ad₁ : Option Addr) (len₁ cap₁ : Nat) (h₁ : Limbs (rd w X) ad₁ len₁ cap₁ a.ln) (ae₁ : Option Addr) (le₁ ce₁ : Nat) (k₁ : Limbs (rd w X) ae₁ le₁ ce₁ a.ld) (b : Raw) (ad₂ : Option Addr) (len₂ cap₂ : Nat) (h₂ : Limbs (rd w X) ad₂ len₂ cap₂ b.ln) (ae₂ : Option Addr) (le₂ ce₂ : Nat) (k₂ : Limbs (rd w X) ae₂ le₂ ce₂ b.ld) : Calls Tryz.prog 37 #[.agg #[.bool a.neg, .slice ad₁ len₁ cap₁, .slice ae₁ le₁ ce₁], .agg #[.bool b.neg, .slice ad₂ len₂ cap₂, .slice ae₂ le₂ ce₂]] w (Ret E0 w fun _ v => v = .bool (decide (a = b))) := by
 refine zen Tryz.func37 ?_
 have A0 : St E0 w X w X [] := St.start hX
 refine zz 2 ?_
 refine zn pn (.cells #[.bool a.neg, .slice ad₁ len₁ cap₁, .slice ae₁ le₁ ce₁] 28 (0, 0)) A0 ?_
 intro b3 w3 Y3 A3 y3 hu3
 refine zn pn (.cells #[.bool b.neg, .slice ad₂ len₂ cap₂, .slice ae₂ le₂ ce₂] 28 (0, 0)) A3 ?_
 intro b5 w5 Y5 A5 y5 hu5
 refine zz 6 ?_
 refine zo 1 A5 ?_
 refine zz 1 ?_
 refine zo 0 A5 ?_
 refine zz 2 ?_
 refine zb 10 (b := (a.neg == b.neg)) (fun hc6 => ?_) (fun hc6 => ?_)
 ·
  have ht7 : a.neg = b.neg := by simpa using hc6
  refine zz 1 ?_
  refine zo 1 A5 ?_
  refine zz 1 ?_
  refine zo 0 A5 ?_
  refine zc A5 (EqualNat_c _ _ A5.lt _ _ _ _ (h₁.mono (Le2 y3 y5)) _ _ _ _ (h₂.mono (Le2 y3 y5))) ?_
  rintro v9 w9 A9 y9 hu9 rfl
  refine zz 2 ?_
  refine zb 17 (b := (decide (a.ln = b.ln))) (fun hc10 => ?_) (fun hc10 => ?_)
  ·
   have ht11 : a.ln = b.ln := of_decide_eq_true hc10
   refine zz 1 ?_
   refine zo 1 A9 ?_
   refine zz 1 ?_
   refine zo 0 A9 ?_
   refine zc A9 (EqualNat_c _ _ A9.lt _ _ _ _ (k₁.mono (Le3 y3 y5 y9)) _ _ _ _ (k₂.mono (Le3 y3 y5 y9))) ?_
   rintro v13 w13 A13 y13 hu13 rfl
   refine zz 5 ?_
   refine zr' (v := .bool (decide (a.ld = b.ld))) ?_
   refine ⟨A13.upd, _, rfl, vboolE ?_⟩
   refine Bool.eq_iff_iff.2 ?_; rw [show (decide (a = b) = true) ↔ _ from decide_eq_true_iff.trans raw_ext]; simp_all
  have ht14 : ¬ (a.ln = b.ln) := of_decide_eq_false hc10
  refine zz 10 ?_
  refine zr' (v := .bool false) ?_
  refine ⟨A9.upd, _, rfl, vboolE ?_⟩
  refine Bool.eq_iff_iff.2 ?_; rw [show (decide (a = b) = true) ↔ _ from decide_eq_true_iff.trans raw_ext]; simp_all
 have ht15 : a.neg ≠ b.neg := by simpa using hc6
 refine zz 17 ?_
 refine zr' (v := .bool false) ?_
 refine ⟨A5.upd, _, rfl, vboolE ?_⟩
 refine Bool.eq_iff_iff.2 ?_; rw [show (decide (a = b) = true) ↔ _ from decide_eq_true_iff.trans raw_ext]; simp_all
end Go.Proofs.YtdfmdiakjdggbaaGreatDoor
namespace Go.Proofs.YtdfmdiakjdggbaaGreatDoor
open Go Go.Gv Go.RowKit
set_option maxRecDepth 100000
set_option maxHeartbeats 1000000
theorem div1_c (w : World) (X : Hid) (hX : ∀ k o, X k o → k < w.heap.size) (ad₁ : Option Addr) (len₁ cap₁ n₁ : Nat) (h₁ : NatR (rd w X) ad₁ len₁ cap₁ n₁) (ae₁ : Option Addr) (le₁ ce₁ d₁ : Nat) (k₁ : NatR (rd w X) ae₁ le₁ ce₁ d₁) (s₁ : Bool) (hn₁ : n₁ < K128) (hd₁ : d₁ < K128) (ad₂ : Option Addr) (len₂ cap₂ n₂ : Nat) (h₂ : NatR (rd w X) ad₂ len₂ cap₂ n₂) (ae₂ : Option Addr) (le₂ ce₂ d₂ : Nat) (k₂ : NatR (rd w X) ae₂ le₂ ce₂ d₂) (s₂ : Bool) (hn₂ : n₂ < K128) (hd₂ : d₂ < K128) : Calls Tryz.prog 159 #[.agg #[.slice ad₁ len₁ cap₁, .slice ae₁ le₁ ce₁, .bool s₁], .agg #[.slice ad₂ len₂ cap₂, .slice ae₂ le₂ ce₂, .bool s₂]] w (Ret E0 w fun w' v => ∃ s m, ValX X w' v s m (d₁ * n₂) ∧ m < 4294967296 ^ 512 ∧ sgn s m = sgn s₁ n₁ * sgn s₂ d₂) := by
 refine zen Tryz.func159 ?_
 have A0 : St E0 w X w X [] := St.start hX
 have hb : ∀ {x : Nat}, x < K128 → x < 4294967296 ^ 512 := fun h => Nat.lt_of_lt_of_le h k512
 have hbn1 := hb hn₁
 have hbn2 := hb hn₂
 have hbd1 := hb hd₁
 have hbd2 := hb hd₂
 obtain ⟨hp1, hp12⟩ := prod512 hn₁ hd₂ hn₂ hd₁
 have hp2 := (prod512 hn₂ hd₁ hn₁ hd₂).1
 have hpd := (prod512 hd₁ hd₂ hd₁ hd₂).1
 have hpn := (prod512 hn₁ hn₂ hd₁ hd₂).1
 refine zz 2 ?_
 refine zn pn (.cells #[.slice ad₁ len₁ cap₁, .slice ae₁ le₁ ce₁, .bool s₁] 132 (0, 0)) A0 ?_
 intro b3 w3 Y3 A3 y3 hu3
 refine zn pn (.cells #[.slice ad₂ len₂ cap₂, .slice ae₂ le₂ ce₂, .bool s₂] 132 (0, 0)) A3 ?_
 intro b5 w5 Y5 A5 y5 hu5
 refine zn pn (.cells #[.slice none 0 0, .slice none 0 0, .bool false] 132 (0, 0)) A5 ?_
 intro b7 w7 Y7 A7 y7 hu7
 refine zz 6 ?_
 refine zo 1 A7 ?_
 refine zz 2 ?_
 refine zo 1 A7 ?_
 refine zz 2 ?_
 refine zx 1 #[.slice ae₂ le₂ ce₂, .slice ae₂ le₂ ce₂, .bool s₂] A7 ?_
 intro w8 A8 y8
 refine zz 2 ?_
 refine zx 1 #[.slice ae₂ le₂ ce₂, .slice ad₂ len₂ cap₂, .bool s₂] A8 ?_
 intro w9 A9 y9
 refine zz 4 ?_
 refine zo 2 A9 ?_
 refine zo 1 A9 ?_
 have hc1_ := (Le4 y3 y5 y7 y8).trans y9
 refine zc A9 (product_c _ _ A9.lt _ _ _ n₁ (h₁.mono hc1_) _ _ _ d₁ (k₁.mono hc1_) s₁ (by assumption) (by assumption) _ _ _ d₂ (k₂.mono hc1_) _ _ _ n₂ (h₂.mono hc1_) s₂ (by assumption) (by assumption)) ?_
 rintro v11 w11 A11 y11 hu11 ⟨sg11, m11, ⟨ad11, len11, cap11, ae11, le11, ce11, rfl, hN11, hD11⟩, hm11, he11⟩
 have hc2_ := hc1_.trans y11
 refine zx 0 #[.slice ad11 len11 cap11, .slice ae11 le11 ce11, .bool sg11] A11 ?_
 intro w12 A12 y12
 refine zz 3 ?_
 refine zrS [.cell 4 132] (v := .agg #[.slice ad11 len11 cap11, .slice ae11 le11 ce11, .bool sg11]) (Res.cM A12 0 Res.nil) ?_
 exact ⟨A12.upd, _, rfl, _, _, ⟨_, _, _, _, _, _, rfl, (hN11.mono y12).mono A12.le, (hD11.mono y12).mono A12.le⟩, hm11, he11⟩
def OpD (f : Nat) (op : Rat → Rat → Rat) : Prop := ∀ (w : World) (X : Hid) (hX : ∀ k o, X k o → k < w.heap.size) (ad₁ : Option Addr) (len₁ cap₁ n₁ : Nat) (h₁ : NatR (rd w X) ad₁ len₁ cap₁ n₁) (ae₁ : Option Addr) (le₁ ce₁ d₁ : Nat) (k₁ : NatR (rd w X) ae₁ le₁ ce₁ d₁) (s₁ : Bool) (hn₁ : n₁ < K128) (hd₁ : d₁ < K128) (ad₂ : Option Addr) (len₂ cap₂ n₂ : Nat) (h₂ : NatR (rd w X) ad₂ len₂ cap₂ n₂) (ae₂ : Option Addr) (le₂ ce₂ d₂ : Nat) (k₂ : NatR (rd w X) ae₂ le₂ ce₂ d₂) (s₂ : Bool) (hn₂ : n₂ < K128) (hd₂ : d₂ < K128) (hp₁ : 0 < d₁) (hp₂ : 0 < d₂) (hz : n₂ ≠ 0), Calls Tryz.prog f #[.agg #[.slice ad₁ len₁ cap₁, .slice ae₁ le₁ ce₁, .bool s₁], .agg #[.slice ad₂ len₂ cap₂, .slice ae₂ le₂ ce₂, .bool s₂]] w (Ret E0 w fun w' v => ∃ s m d, ValX X w' v s m d ∧ m < 4294967296 ^ 512 ∧ d < 4294967296 ^ 512 ∧ 0 < d ∧ mkRat (sgn s m) d = op (mkRat (sgn s₁ n₁) d₁) (mkRat (sgn s₂ n₂) d₂))
theorem inv_sgn (s : Bool) (a b : Nat) : (mkRat (sgn s a) b)⁻¹ = mkRat (sgn s b) a := by
  rw [← Rat.divInt_ofNat, Rat.inv_divInt, ← Rat.divInt_ofNat]
  cases s
  · rfl
  · show Rat.divInt b (-(a : Int)) = Rat.divInt (-(b : Int)) a
    rw [← Rat.neg_divInt_neg, Int.neg_neg]
theorem div_op : OpD 159 (· / ·) := fun w X hX ad₁ len₁ cap₁ n₁ h₁ ae₁ le₁ ce₁ d₁ k₁ s₁ hn₁ hd₁ ad₂ len₂ cap₂ n₂ h₂ ae₂ le₂ ce₂ d₂ k₂ s₂ hn₂ hd₂ hp₁ hp₂ hz =>
  (div1_c w X hX ad₁ len₁ cap₁ n₁ h₁ ae₁ le₁ ce₁ d₁ k₁ s₁ hn₁ hd₁ ad₂ len₂ cap₂ n₂ h₂ ae₂ le₂ ce₂ d₂ k₂ s₂ hn₂ hd₂).mono (by
    rintro e w' ⟨hu, v, rfl, s, m, hv, hm, he⟩
    refine ⟨hu, _, rfl, s, m, _, hv, hm, dd_fits hd₁ hn₂, Nat.mul_pos hp₁ (Nat.pos_of_ne_zero hz), ?_⟩
    show _ = mkRat (sgn s₁ n₁) d₁ / mkRat (sgn s₂ n₂) d₂
    rw [Rat.div_def, inv_sgn, Rat.mkRat_mul_mkRat, he])
theorem operated_c (f : Nat) (op : Rat → Rat → Rat) (hcf : ∀ args w, (callFunc f args).run Tryz.prog w = .ok (.enter f args) w) (hop : OpD f op) (w : World) (X : Hid) (hX : ∀ k o, X k o → k < w.heap.size) (a : Raw) (ad₁ : Option Addr) (len₁ cap₁ : Nat) (h₁ : Limbs (rd w X) ad₁ len₁ cap₁ a.ln) (ae₁ : Option Addr) (le₁ ce₁ : Nat) (k₁ : Limbs (rd w X) ae₁ le₁ ce₁ a.ld) (b : Raw) (ad₂ : Option Addr) (len₂ cap₂ : Nat) (h₂ : Limbs (rd w X) ad₂ len₂ cap₂ b.ln) (ae₂ : Option Addr) (le₂ ce₂ : Nat) (k₂ : Limbs (rd w X) ae₂ le₂ ce₂ b.ld) (hb0 : val b.ln ≠ 0) (z : Rat) (hz : op a.rat b.rat = z) : Calls Tryz.prog 84 #[.agg #[.bool a.neg, .slice ad₁ len₁ cap₁, .slice ae₁ le₁ ce₁], .agg #[.bool b.neg, .slice ad₂ len₂ cap₂, .slice ae₂ le₂ ce₂], .func (.func f) #[] #[]] w (Ret E0 w fun w' v => ∃ u, v = .tuple #[u, .int .i64 (opE a b z)] ∧ RawX (old w) w' u (opR a b z)) := by
 refine zen Tryz.func84 ?_
 have A0 : St E0 w X w X [] := St.start hX
 refine zz 2 ?_
 refine zn pn (.cells #[.bool a.neg, .slice ad₁ len₁ cap₁, .slice ae₁ le₁ ce₁] 28 (0, 0)) A0 ?_
 intro b3 w3 Y3 A3 y3 hu3
 refine zn pn (.cells #[.bool b.neg, .slice ad₂ len₂ cap₂, .slice ae₂ le₂ ce₂] 28 (0, 0)) A3 ?_
 intro b5 w5 Y5 A5 y5 hu5
 refine zn pn (.cells #[.bool false, .slice none 0 0, .slice none 0 0] 28 (0, 0)) A5 ?_
 intro b7 w7 Y7 A7 y7 hu7
 refine zz 5 ?_
 refine zdr A7 ?_
 refine gw 0 2 ?_
 refine gw 2 1 ?_
 have hc1_ := (Le2 y3 y5).trans y7
 refine gC 1 (fun w8 Y8 _ A8 y8 => (rcheck_c _ _ A8.lt a _ _ _ (h₁.mono (hc1_.trans y8)) _ _ _ (k₁.mono (hc1_.trans y8)))) ?_
 rintro v9 w8 Y9 w9 A8 y9 rfl
 have hc2_ := hc1_.trans y9
 refine gC 3 (fun w10 Y10 _ A10 y10 => (rcheck_c _ _ A10.lt b _ _ _ (h₂.mono (hc2_.trans y10)) _ _ _ (k₂.mono (hc2_.trans y10)))) ?_
 rintro v11 w10 Y11 w11 A10 y11 rfl
 refine gp1 (al 4 14 (fun b => .slice (some ⟨b, 0, none⟩) 2 2) (.cells #[.int .i64 a.chk, .int .i64 b.chk] 46 (0, 0))) (fun b12 => ?_)
 refine gC 5 (vs := #[.slice (some ⟨b12, 0, none⟩) 2 2]) (fun w13 Y13 _ A13 y13 => (or_c _ X0 (X0_lt _) _ _ _ _ [a.chk, b.chk] rfl (by simp) (A13.at0 0 rfl rfl))) ?_
 rintro v14 w13 Y14 w14 A13 y14 rfl
 refine gz [6] ?_
 refine gend (fun w15 Y15 A15 y15 => ?_)
 refine zz 7 ?_
 refine zb 17 (b := ((orL [a.chk, b.chk]) != 0)) (fun hc16 => ?_) (fun hc16 => ?_)
 ·
  have ht17 : (orL [a.chk, b.chk]) ≠ 0 := by simpa using hc16
  refine zz 5 ?_
  refine zx 1 #[.bool false, .slice none 0 0, .slice none 0 0] A15 ?_
  intro w18 A18 y18
  refine zz 5 ?_
  refine zrS [.cell 6 28, .tmp 7] (v := .tuple #[.agg #[.bool false, .slice none 0 0, .slice none 0 0], .int .i64 (orL [a.chk, b.chk])]) (Res.cM A18 1 (Res.tZ Res.nil)) ?_
  obtain ⟨he1, he2⟩ := op_err (z := z) ht17
  exact ⟨A18.upd, _, rfl, _, by rw [he1], by rw [he2]; exact raw_zero⟩
 have ht19 : (orL [a.chk, b.chk]) = 0 := by simpa using hc16
 obtain ⟨hca, hcb⟩ := or2_zero ((orL2 _ _).symm.trans (by simpa using ht19))
 obtain ⟨hla, hma, cna, cda, _, _, _⟩ := Raw.chk_ok hca
 have bna : val a.ln < K128 := (canon_le_iff h₁.hlt cna 128).1 hla
 have bda : a.d < K128 := by unfold Raw.d; split; exact Nat.one_lt_pow (by omega) (by omega); exact (canon_le_iff k₁.hlt cda 128).1 hma
 have pda := Raw.d_pos a
 have hNna := h₁.natR cna
 have hNda := k₁.natR cda
 obtain ⟨hlb, hmb, cnb, cdb, _, _, _⟩ := Raw.chk_ok hcb
 have bnb : val b.ln < K128 := (canon_le_iff h₂.hlt cnb 128).1 hlb
 have bdb : b.d < K128 := by unfold Raw.d; split; exact Nat.one_lt_pow (by omega) (by omega); exact (canon_le_iff k₂.hlt cdb 128).1 hmb
 have pdb := Raw.d_pos b
 have hNnb := h₂.natR cnb
 have hNdb := k₂.natR cdb
 refine zz 4 ?_
 refine zdraw [0, 1, 2, 3] A15 ?_
 refine gz [0] ?_
 refine gw 1 3 ?_
 refine gw 3 2 ?_
 refine gp (al 7 9 pn (.cells #[.bool false, .slice none 0 0, .slice none 0 0] 28 (0, 0))) ?_
 have hc3_ := ((hc2_.trans y11).trans y14).trans y15
 refine gC 2 (fun w20 Y20 _ A20 y20 => (of_c _ _ A20.lt a.neg _ _ _ (val a.ln) (hNna.mono (hc3_.trans y20)) _ _ _ (val a.ld) (hNda.mono (hc3_.trans y20)))) ?_ (hPd := PdOk.nil.k)
 rintro v21 w20 Y21 w21 A20 y21 ⟨ad21, len21, cap21, ae21, le21, ce21, rfl, hN21, hD21⟩
 have hc4_ := hc3_.trans y21
 refine gC 4 (fun w22 Y22 _ A22 y22 => (of_c _ _ A22.lt b.neg _ _ _ (val b.ln) (hNnb.mono (hc4_.trans y22)) _ _ _ (val b.ld) (hNdb.mono (hc4_.trans y22)))) ?_ (hPd := PdOk.nil.k)
 rintro v23 w22 Y23 w23 A22 y23 ⟨ad23, len23, cap23, ae23, le23, ce23, rfl, hN23, hD23⟩
 refine gC 5 (hcall := (fun w => hcf _ w)) (fun w24 Y24 _ A24 y24 => (hop _ _ A24.lt _ _ _ (val a.ln) (hN21.mono (Le2 y23 y24)) _ _ _ a.d (hD21.mono (Le2 y23 y24)) a.neg (by assumption) (by assumption) _ _ _ (val b.ln) (hN23.mono y24) _ _ _ b.d (hD23.mono y24) b.neg (by assumption) (by assumption) (by assumption) (by assumption) (by assumption))) ?_ (hPd := PdOk.nil.k)
 rintro v25 w24 Y25 w25 A24 y25 ⟨sg25, m25, d25, ⟨ad25, len25, cap25, ae25, le25, ce25, rfl, hN25, hD25⟩, hm25, hd25, hp25, he25⟩
 refine gC 6 (fun w26 Y26 _ A26 y26 => (lowest_r _ _ A26.lt _ _ _ m25 (hN25.mono y26) _ _ _ d25 (hD25.mono y26) sg25 hm25 hd25 hp25 z (he25.trans hz))) ?_ (hPd := PdOk.nil.k)
 rintro v27 w26 Y27 w27 A26 y27 ⟨ad27, len27, cap27, ae27, le27, ce27, rfl, hN27, hD27⟩
 refine gs1 (fun b28 => ?_) PdOk.nil.k
 refine gX 8 0 #[.bool (decide (z.num < 0)), .slice ad27 len27 cap27, .slice ae27 le27 ce27] ?_
 intro w29 Y29 y29
 refine gend (fun w30 Y30 A30 y30 => ?_)
 refine zz 5 ?_
 refine zo 0 A30 ?_
 refine zz 3 ?_
 refine zt 31 (p := (len27 : Int) > 128) (fun ht31 => ?_) (fun ht31 => ?_)
 ·
  refine zz 11 ?_
  refine zx 2 #[.bool false, .slice none 0 0, .slice none 0 0] A30 ?_
  intro w32 A32 y32
  refine zz 5 ?_
  refine zrS [.cell 6 28, .tmp 7] (v := .tuple #[.agg #[.bool false, .slice none 0 0, .slice none 0 0], .int .i64 4]) (Res.cM A32 2 (Res.tZ Res.nil)) ?_
  obtain ⟨he1, he2⟩ := op_long (z := z) ht19 (fun hh => absurd ((hN27.len_le 128).2 hh.1) (by omega))
  exact ⟨A32.upd, _, rfl, _, by rw [he1], by rw [he2]; exact raw_zero⟩
 refine zz 1 ?_
 refine zo 0 A30 ?_
 refine zz 5 ?_
 refine zt 36 (p := (le27 : Int) > 128) (fun ht33 => ?_) (fun ht33 => ?_)
 ·
  refine zz 4 ?_
  refine zx 2 #[.bool false, .slice none 0 0, .slice none 0 0] A30 ?_
  intro w34 A34 y34
  refine zz 5 ?_
  refine zrS [.cell 6 28, .tmp 7] (v := .tuple #[.agg #[.bool false, .slice none 0 0, .slice none 0 0], .int .i64 4]) (Res.cM A34 2 (Res.tZ Res.nil)) ?_
  obtain ⟨he1, he2⟩ := op_long (z := z) ht19 (fun hh => absurd ((hD27.len_le 128).2 hh.2) (by omega))
  exact ⟨A34.upd, _, rfl, _, by rw [he1], by rw [he2]; exact raw_zero⟩
 refine zz 5 ?_
 refine zo 0 A30 ?_
 refine zx 2 #[.bool (decide (z.num < 0)), .slice ad27 len27 cap27, .slice ae27 le27 ce27] A30 ?_
 intro w35 A35 y35
 refine zz 4 ?_
 refine zrS [.cell 6 28, .tmp 7] (v := .tuple #[.agg #[.bool (decide (z.num < 0)), .slice ad27 len27 cap27, .slice ae27 le27 ce27], .int .i64 0]) (Res.cM A35 2 (Res.tZ Res.nil)) ?_
 obtain ⟨he1, he2⟩ := op_good (z := z) ht19 ⟨(hN27.len_le 128).1 (by omega), (hD27.len_le 128).1 (by omega)⟩
 exact ⟨A35.upd, _, rfl, _, by rw [he1], by rw [he2]; exact RatX.raw ⟨_, _, _, _, _, _, rfl, ((hN27.mono (Le.own A26.lt A26.upd.size (Le3 y29 y30 y35))).mono Le.orr), ((hD27.mono (Le.own A26.lt A26.upd.size (Le3 y29 y30 y35))).mono Le.orr)⟩⟩
theorem rDiv_c (w : World) (X : Hid) (hX : ∀ k o, X k o → k < w.heap.size) (a : Raw) (ad₁ : Option Addr) (len₁ cap₁ : Nat) (h₁ : Limbs (rd w X) ad₁ len₁ cap₁ a.ln) (ae₁ : Option Addr) (le₁ ce₁ : Nat) (k₁ : Limbs (rd w X) ae₁ le₁ ce₁ a.ld) (b : Raw) (ad₂ : Option Addr) (len₂ cap₂ : Nat) (h₂ : Limbs (rd w X) ad₂ len₂ cap₂ b.ln) (ae₂ : Option Addr) (le₂ ce₂ : Nat) (k₂ : Limbs (rd w X) ae₂ le₂ ce₂ b.ld) (hb0 : val b.ln ≠ 0) : Calls Tryz.prog 80 #[.agg #[.bool a.neg, .slice ad₁ len₁ cap₁, .slice ae₁ le₁ ce₁], .agg #[.bool b.neg, .slice ad₂ len₂ cap₂, .slice ae₂ le₂ ce₂]] w (Ret E0 w fun w' v => ∃ u, v = .tuple #[u, .int .i64 (opE a b (a.rat / b.rat))] ∧ RawX (old w) w' u (opR a b (a.rat / b.rat))) := by
 refine zen Tryz.func80 ?_
 have A0 : St E0 w X w X [] := St.start hX
 refine zz 2 ?_
 refine zn pn (.cells #[.bool a.neg, .slice ad₁ len₁ cap₁, .slice ae₁ le₁ ce₁] 28 (0, 0)) A0 ?_
 intro b3 w3 Y3 A3 y3 hu3
 refine zn pn (.cells #[.bool b.neg, .slice ad₂ len₂ cap₂, .slice ae₂ le₂ ce₂] 28 (0, 0)) A3 ?_
 intro b5 w5 Y5 A5 y5 hu5
 refine zn pn (.cells #[.bool false, .slice none 0 0, .slice none 0 0] 28 (0, 0)) A5 ?_
 intro b7 w7 Y7 A7 y7 hu7
 refine zz 5 ?_
 refine zdr A7 ?_
 refine gw 0 2 ?_
 refine gw 2 1 ?_
 have hc1_ := (Le2 y3 y5).trans y7
 refine gC 1 (fun w8 Y8 _ A8 y8 => (rcheck_c _ _ A8.lt a _ _ _ (h₁.mono (hc1_.trans y8)) _ _ _ (k₁.mono (hc1_.trans y8)))) ?_
 rintro v9 w8 Y9 w9 A8 y9 rfl
 have hc2_ := hc1_.trans y9
 refine gC 3 (fun w10 Y10 _ A10 y10 => (rcheck_c _ _ A10.lt b _ _ _ (h₂.mono (hc2_.trans y10)) _ _ _ (k₂.mono (hc2_.trans y10)))) ?_
 rintro v11 w10 Y11 w11 A10 y11 rfl
 refine gp1 (al 4 11 (fun b => .slice (some ⟨b, 0, none⟩) 2 2) (.cells #[.int .i64 a.chk, .int .i64 b.chk] 46 (0, 0))) (fun b12 => ?_)
 refine gC 5 (vs := #[.slice (some ⟨b12, 0, none⟩) 2 2]) (fun w13 Y13 _ A13 y13 => (or_c _ X0 (X0_lt _) _ _ _ _ [a.chk, b.chk] rfl (by simp) (A13.at0 0 rfl rfl))) ?_
 rintro v14 w13 Y14 w14 A13 y14 rfl
 refine gz [6] ?_
 refine gend (fun w15 Y15 A15 y15 => ?_)
 refine zz 7 ?_
 refine zb 14 (b := ((orL [a.chk, b.chk]) != 0)) (fun hc16 => ?_) (fun hc16 => ?_)
 ·
  have ht17 : (orL [a.chk, b.chk]) ≠ 0 := by simpa using hc16
  refine zz 5 ?_
  refine zx 1 #[.bool false, .slice none 0 0, .slice none 0 0] A15 ?_
  intro w18 A18 y18
  refine zz 5 ?_
  refine zrS [.cell 4 28, .tmp 5] (v := .tuple #[.agg #[.bool false, .slice none 0 0, .slice none 0 0], .int .i64 (orL [a.chk, b.chk])]) (Res.cM A18 1 (Res.tZ Res.nil)) ?_
  obtain ⟨he1, he2⟩ := op_err (z := a.rat / b.rat) ht17
  exact ⟨A18.upd, _, rfl, _, by rw [he1], by rw [he2]; exact raw_zero⟩
 have ht19 : (orL [a.chk, b.chk]) = 0 := by simpa using hc16
 refine zz 7 ?_
 refine zo 2 A15 ?_
 refine zz 4 ?_
 refine zb 20 (b := ((len₂ : Int) == 0)) (fun hc20 => ?_) (fun hc20 => ?_)
 ·
  have ht21 : (len₂ : Int) = 0 := by simpa using hc20
  exact absurd (by have := h₂.hlen; have hl : b.ln = [] := List.length_eq_zero_iff.1 (by omega); rw [hl]; rfl) hb0
 have ht22 : (len₂ : Int) ≠ 0 := by simpa using hc20
 refine zz 5 ?_
 refine zo 3 A15 ?_
 refine zo 2 A15 ?_
 have hc3_ := ((hc2_.trans y11).trans y14).trans y15
 refine zc A15 (operated_c 159 (· / ·) (fun args w => Tryz.call159 args w) div_op _ _ A15.lt a _ _ _ (h₁.mono hc3_) _ _ _ (k₁.mono hc3_) b _ _ _ (h₂.mono hc3_) _ _ _ (k₂.mono hc3_) hb0 (a.rat / b.rat) rfl) ?_
 rintro v24 w24 A24 y24 hu24 ⟨u24, rfl, ⟨ad24, len24, cap24, ae24, le24, ce24, rfl, hN24, hD24⟩⟩
 refine zz 2 ?_
 refine zx 1 #[.bool ((opR a b (a.rat / b.rat)).neg), .slice ad24 len24 cap24, .slice ae24 le24 ce24] A24 ?_
 intro w25 A25 y25
 refine zz 4 ?_
 refine zrS [.cell 4 28, .tmp 5] (v := .tuple #[.agg #[.bool ((opR a b (a.rat / b.rat)).neg), .slice ad24 len24 cap24, .slice ae24 le24 ce24], .int .i64 (opE a b (a.rat / b.rat))]) (Res.cM A25 1 (Res.tZ Res.nil)) ?_
 exact ⟨A25.upd, _, rfl, _, rfl, ⟨_, _, _, _, _, _, rfl, ((hN24.mono (Le.own A15.lt A15.upd.size y25)).mono Le.orr), ((hD24.mono (Le.own A15.lt A15.upd.size y25)).mono Le.orr)⟩⟩
end Go.Proofs.YtdfmdiakjdggbaaGreatDoor
namespace Go.Proofs.YtdfmdiakjdggbaaGreatDoor
open Go Go.Gv Go.RowKit
set_option maxRecDepth 100000
set_option maxHeartbeats 1000000
theorem cut5_c (w : World) (X : Hid) (hX : ∀ k o, X k o → k < w.heap.size) (ad : Option Addr) (len cap : Nat) (l : List Nat) (h : Limbs (rd w X) ad len cap l) :
    Calls Tryz.prog 236 #[.slice ad len cap] w (Ret E0 w fun _ v => v = .slice ad (trimN l) cap) := by
 obtain rfl := h.hlen
 have hl := h.hlen
 have hcap := h.hcap
 have hbig := h.hbig
 refine zen Tryz.func236 ?_
 have A0 : St E0 w X w X [] := St.start hX
 refine zz 7 ?_
 refine zlp Tryz.f236 [] [1, 0, 0] (fun (k : Nat) => [(0, .slice ad k cap)]) (fun (k : Nat) w1 => ∃ (Y1 : Hid), St E0 w X w1 Y1 [] ∧ Le (rd w X) (rd w1 Y1) ∧ (k ≤ l.length) ∧ (trimTo l k = trimTo l l.length)) (fun (k : Nat) => k) l.length ?_ ?_
 ·
  refine ⟨_, A0, Le.refl _, Nat.le_refl _, rfl⟩
 rintro k w2 K2 V2 ⟨Y2, A2, y2, hp2_0, hp2_1⟩
 have hk := hp2_0
 have ht := hp2_1
 refine zz 7 ?_
 refine zt 6 (p := (k : Int) > 0) (fun ht3 => ?_) (fun ht3 => ?_)
 ·
  obtain ⟨bk4, of5, rfl, _⟩ := h.addr (by omega)
  have hcell := (h.cell (i := k - 1) (by omega))
  refine zz 4 ?_
  refine zw 10 (x := (k : Int) - 1) ?_
  refine zi (b := bk4) (off := of5) (len := k) (cap := cap) (kd := .i64) (i := (k : Int) - 1) 1 (of5 + (k - 1)) ?_ (hoff := (by first | omega | (simp; done) | (simp; omega)))
  refine zl ((hcell.mono y2)).cells ?_
  refine zz 4 ?_
  refine zb 14 (b := (((l.getD (k - 1) 0 : Nat) : Int) == 0)) (fun hc6 => ?_) (fun hc6 => ?_)
  ·
   have ht7 : ((l.getD (k - 1) 0 : Nat) : Int) = 0 := by simpa using hc6
   have hk2 := trimTo_pred (l := l) (k := k) (by omega) (by omega)
   refine zz 9 ?_
   refine zw 18 (x := (k : Int) - 1) ?_
   refine zop (at1 [K2] Tryz.f236 [1, 0, 0, 0, 1, 0]) 4 (fun a8 _ G8 hz8 => zE (d := 19) (v := .slice (some ⟨bk4, of5, none⟩) (k - 1) cap) G8 kr (run_sliceTo' (t := 26) (e := 214) (ad := (some ⟨bk4, of5, none⟩)) (len := k) (cap := cap) (kd := .i64) (i := (k : Int) - 1) (h' := (k - 1)) (g := false) (m := 1) rfl kr kr kr kr (by omega) (by omega) (by first | omega | (simp; done) | (simp; omega)) _) ?_)
   intro a9 G9
   refine hz8 G9 ?_
   refine zz 3 ?_
   refine znext (fun a h => V2 (k - 1) _ a h ⟨_, A2, y2, by omega, by omega⟩ ?_)
   first | omega | (simp <;> omega)
  have ht10 : ((l.getD (k - 1) 0 : Nat) : Int) ≠ 0 := by simpa using hc6
  have hk2 := trimTo_here (l := l) (k := k) (by omega) (by omega)
  refine zz 13 ?_
  refine zr' (v := .slice (some ⟨bk4, of5, none⟩) k cap) ?_
  exact ⟨A2.upd, _, rfl, by unfold trimN; first | rw [← ht, hk2] | rw [← ht]; rfl⟩
 obtain rfl : k = 0 := by omega
 refine zz 23 ?_
 refine zr' (v := .slice ad 0 cap) ?_
 exact ⟨A2.upd, _, rfl, by unfold trimN; first | rw [← ht, hk2] | rw [← ht]; rfl⟩
theorem check5_c (w : World) (X : Hid) (hX : ∀ k o, X k o → k < w.heap.size) (ad : Option Addr) (len cap : Nat) (l : List Nat) (h : Limbs (rd w X) ad len cap l) : Calls Tryz.prog 149 #[.slice ad len cap] w (Ret E0 w fun _ v => v = .int .i64 (chkN l)) := by
 obtain rfl := h.hlen
 have hcap := h.hcap
 have hbig := h.hbig
 refine zen Tryz.func149 ?_
 have A0 : St E0 w X w X [] := St.start hX
 refine zz 13 ?_
 refine zt 5 (p := (l.length : Int) > 512) (fun ht2 => ?_) (fun ht2 => ?_)
 ·
  refine zz 8 ?_
  refine zr' (v := .int .i64 4) ?_
  exact ⟨A0.upd, _, rfl, vint (by unfold chkN; (repeat' split) <;> first | rfl | omega)⟩
 refine zz 10 ?_
 refine zt 9 (p := (l.length : Int) > 0) (fun ht3 => ?_) (fun ht3 => ?_)
 ·
  obtain ⟨bk4, of5, rfl, _⟩ := h.addr (by omega)
  refine zz 4 ?_
  refine zw 13 (x := (l.length : Int) - 1) ?_
  refine zi (b := bk4) (off := of5) (len := l.length) (cap := cap) (kd := .i64) (i := (l.length : Int) - 1) 1 (of5 + (l.length - 1)) ?_ (hoff := (by first | omega | (simp; done) | (simp; omega)))
  refine zl ((h.cell (i := (l.length - 1)) (by omega)).mono (Le.refl _)).cells ?_
  refine zz 4 ?_
  refine zb 17 (b := (((l.getD (l.length - 1) 0 : Nat) : Int) == 0)) (fun hc6 => ?_) (fun hc6 => ?_)
  ·
   have ht7 : ((l.getD (l.length - 1) 0 : Nat) : Int) = 0 := by simpa using hc6
   refine zz 8 ?_
   refine zr' (v := .int .i64 2) ?_
   exact ⟨A0.upd, _, rfl, vint (by unfold chkN; (repeat' split) <;> first | rfl | omega)⟩
  have ht8 : ((l.getD (l.length - 1) 0 : Nat) : Int) ≠ 0 := by simpa using hc6
  refine zz 9 ?_
  refine zr' (v := .int .i64 0) ?_
  exact ⟨A0.upd, _, rfl, vint (by unfold chkN; (repeat' split) <;> first | rfl | omega)⟩
 refine zz 19 ?_
 refine zr' (v := .int .i64 0) ?_
 exact ⟨A0.upd, _, rfl, vint (by unfold chkN; (repeat' split) <;> first | rfl | omega)⟩
theorem limb5_c (w : World) (X : Hid) (hX : ∀ k o, X k o → k < w.heap.size) (ad : Option Addr) (len cap : Nat) (l : List Nat) (h : Limbs (rd w X) ad len cap l) (i : Nat) : Calls Tryz.prog 262 #[.slice ad len cap, .int .i64 (i : Int)] w (Ret E0 w fun _ v => v = .int .u64 ((l.getD i 0 : Nat) : Int)) := by
 obtain rfl := h.hlen
 have hcap := h.hcap
 have hbig := h.hbig
 have hlt := h.getD_lt i
 refine zen Tryz.func262 ?_
 have A0 : St E0 w X w X [] := St.start hX
 refine zz 14 ?_
 refine zt 8 (p := (i : Int) < (l.length : Int)) (fun ht2 => ?_) (fun ht2 => ?_)
 ·
  obtain ⟨bk3, of4, rfl, _⟩ := h.addr (by omega)
  refine zz 5 ?_
  refine zi (b := bk3) (off := of4) (len := l.length) (cap := cap) (kd := .i64) (i := (i : Int)) 1 (of4 + i) ?_
  refine zl ((h.cell (i := i) (by omega)).mono (Le.refl _)).cells ?_
  refine zz 1 ?_
  refine zs 13 (v := .int .u64 (IntKind.u64.wrap (((l.getD i 0 : Nat) : Int)))) (v' := .int .u64 ((l.getD i 0 : Nat) : Int)) (vint (wu64 (by omega) (by omega))) ?_
  refine zz 5 ?_
  refine zr' (v := .int .u64 ((l.getD i 0 : Nat) : Int)) ?_
  exact ⟨A0.upd, _, rfl, vint (by first | rfl | (rw [List.getD_eq_getElem?_getD, List.getElem?_eq_none (by omega)]; rfl))⟩
 refine zz 9 ?_
 refine zr' (v := .int .u64 0) ?_
 exact ⟨A0.upd, _, rfl, vint (by first | rfl | (rw [List.getD_eq_getElem?_getD, List.getElem?_eq_none (by omega)]; rfl))⟩
end Go.Proofs.YtdfmdiakjdggbaaGreatDoor
namespace Go.Proofs.YtdfmdiakjdggbaaGreatDoor
open Go Go.Gv Go.RowKit
set_option maxRecDepth 100000
set_option maxHeartbeats 1000000
theorem trimN_le {len : Nat} (l : List Nat) (h : len = l.length) : trimN l ≤ len := by rw [h]; exact trimTo_le l _
theorem mx1 {l l2 : List Nat} {k c : Nat} (hc : ¬ 0 < c) (h1 : ¬ k < l.length) (h2 : ¬ k < l2.length) {v : Nat} (h : v + c * 4294967296 ^ k = val (l.take k) + val (l2.take k)) : v = val l + val l2 := by
  rw [List.take_of_length_le (by omega), List.take_of_length_le (by omega), show c = 0 by omega] at h; omega
theorem snoc_lt {ls : List Nat} {x : Nat} (h : ∀ y ∈ ls, y < 4294967296) (hx : x < 4294967296) : ∀ y ∈ ls ++ [x], y < 4294967296 := fun y hy => by
  rcases List.mem_append.1 hy with h1 | h1
  · exact h y h1
  · obtain rfl := List.mem_singleton.1 h1; exact hx
theorem getD_out {l : List Nat} {k : Nat} (h : l.length ≤ k) : l.getD k 0 = 0 := by rw [List.getD_eq_getElem?_getD, List.getElem?_eq_none h]; rfl
theorem sum5_c (w : World) (X : Hid) (hX : ∀ k o, X k o → k < w.heap.size) (ad : Option Addr) (len cap : Nat) (l : List Nat) (h : Limbs (rd w X) ad len cap l) (ad2 : Option Addr) (len2 cap2 : Nat) (l2 : List Nat) (h2 : Limbs (rd w X) ad2 len2 cap2 l2) (hm : len ≤ 1000000) (hm2 : len2 ≤ 1000000) : Calls Tryz.prog 218 #[.slice ad len cap, .slice ad2 len2 cap2] w (Ret E0 w fun w' v => NatX X w' v (val l + val l2)) := by
 obtain rfl := h.hlen
 obtain rfl := h2.hlen
 have hcap := h.hcap
 have hbig := h.hbig
 have hcap2 := h2.hcap
 have hbig2 := h2.hbig
 refine zen Tryz.func218 ?_
 have A0 : St E0 w X w X [] := St.start hX
 refine zz 22 ?_
 refine zlp Tryz.f218 [] [1, 1, 1, 0, 1, 0] (fun ((k, ad8, cap8, c) : Nat × (Option Addr) × Nat × Nat) => [(0, .slice ad l.length cap), (1, .slice ad2 l2.length cap2), (5, .slice ad8 k cap8), (6, .int .u64 (c : Int)), (7, .int .i64 (k : Int))]) (fun ((k, ad8, cap8, c) : Nat × (Option Addr) × Nat × Nat) w1 => ∃ (Y1 : Hid) (rb : List (Nat × Obj)) (ls : List Nat), St E0 w X w1 Y1 (rb) ∧ Le (rd w X) (rd w1 Y1) ∧ (TRow 214 1 rb ad8 k cap8 (U32 ls)) ∧ (ls.length = k) ∧ (∀ x ∈ ls, x < 4294967296) ∧ (val ls + c * 4294967296 ^ k = val (l.take k) + val (l2.take k)) ∧ (c ≤ 1) ∧ (k ≤ max l.length l2.length + 1) ∧ (k = max l.length l2.length + 1 → c = 0)) (fun ((k, ad8, cap8, c) : Nat × (Option Addr) × Nat × Nat) => max l.length l2.length + 1 - k) (0, none, 0, 0) ?_ ?_
 ·
  refine ⟨_, [], [], A0, Le.refl _, TRow.nil _ _, rfl, fun _ h => absurd h (by simp), by simp [val], by omega, Nat.zero_le _, fun _ => rfl⟩
 rintro ⟨k, ad8, cap8, c⟩ w2 K2 V2 ⟨Y2, rb, ls, A2, y2, hp2_0, hp2_1, hp2_2, hp2_3, hp2_4, hp2_5, hp2_6⟩
 have hrw := hp2_0
 have hrl := hp2_1
 have hrt := hp2_2
 have hv := hp2_3
 have hc := hp2_4
 have hk := hp2_5
 have hkc := hp2_6
 have hlt1 := h.getD_lt k
 have hlt2 := h2.getD_lt k
 refine zz 1 ?_
 refine zjoin (fun (bj3_22 : Bool) => [(0, .slice ad l.length cap), (1, .slice ad2 l2.length cap2), (5, .slice ad8 k cap8), (6, .int .u64 (c : Int)), (7, .int .i64 (k : Int)), (22, .bool bj3_22)]) (fun (bj3_22 : Bool) w1 => ∃ Y1 : Hid, St E0 w X w1 Y1 (rb) ∧ Le (rd w2 Y2) (rd w1 Y1) ∧ (bj3_22 = true ↔ (k < l.length ∨ k < l2.length ∨ 0 < c))) ?_ ?_
 ·
  rintro bj3_22 w3 ⟨Y3, A3, y3, hjp3⟩
  refine zb 22 (b := bj3_22) (fun hc4 => ?_) (fun hc4 => ?_)
  ·
   have ht5 : bj3_22 = true := by simpa using hc4
   have hgo := hjp3.1 ht5
   refine zz 9 ?_
   refine zc A3 (limb5_c _ X0 (X0_lt _) _ _ _ l ((h.mono (Le2 y2 y3)).mono Le.x0) k) ?_
   rintro v7 w7 A7 y7 hu7 rfl
   refine zz 2 ?_
   refine zc A7 (limb5_c _ X0 (X0_lt _) _ _ _ l2 ((h2.mono (Le3 y2 y3 y7)).mono Le.x0) k) ?_
   rintro v9 w9 A9 y9 hu9 rfl
   refine zz 1 ?_
   refine zs 31 (v := .int .u64 (IntKind.u64.wrap (((l.getD k 0 : Nat) : Int) + ((l2.getD k 0 : Nat) : Int)))) (v' := .int .u64 (((l.getD k 0 : Nat) : Int) + ((l2.getD k 0 : Nat) : Int))) (vint (wu64 (by omega) (by omega))) ?_
   refine zz 2 ?_
   refine zs 33 (v := .int .u64 (IntKind.u64.wrap ((((l.getD k 0 : Nat) : Int) + ((l2.getD k 0 : Nat) : Int)) + (c : Int)))) (v' := .int .u64 (((l.getD k 0 + l2.getD k 0 + c) : Nat) : Int)) (vint ((wu64 (by omega) (by omega)).trans (by omega))) ?_
   refine zz 8 ?_
   refine zs 36 (v := .int .u64 (Int.tmod ((((l.getD k 0 + l2.getD k 0 + c) : Nat) : Int)) (4294967296))) (v' := .int .u64 (((l.getD k 0 + l2.getD k 0 + c) % 4294967296 : Nat) : Int)) (vint (by rfl)) ?_
   refine zz 1 ?_
   refine zs 37 (v := .int .u32 (IntKind.u32.wrap ((((l.getD k 0 + l2.getD k 0 + c) % 4294967296 : Nat) : Int)))) (v' := .int .u32 (((l.getD k 0 + l2.getD k 0 + c) % 4294967296 : Nat) : Int)) (vint (wu32 (by omega) (by omega))) ?_
   refine zn (fun b => .slice (some ⟨b, 0, none⟩) 1 1) (.cells #[.int .u32 (((l.getD k 0 + l2.getD k 0 + c) % 4294967296 : Nat) : Int)] 214 (0, 0)) A9 ?_
   intro b11 w11 Y11 A11 y11 hu11
   refine zop (at1 [K2] Tryz.f218 [1, 1, 1, 0, 1, 0, 0, 1, 0, 0, 1, 0]) 5 (fun a12 _ G12 hz12 => op_appEZ (b := 4) (m := 1) (c := 1) (ad := ⟨b11, 0, none⟩) (news := [.int .u32 (((l.getD k 0 + l2.getD k 0 + c) % 4294967296 : Nat) : Int)]) (i0 := Tryz.t214) (R1 := []) 1 G12 A11 rfl hrw (A11.cells 0 rfl rfl) (by omega) (by omega) ?_)
   intro rb13 ad13 cap13 w13 Y13 hrow13 A13 y13 a14 G14
   have hrw13 : TRow 214 1 rb13 ad13 (k + 1) cap13 (U32 (ls ++ [(l.getD k 0 + l2.getD k 0 + c) % 4294967296])) := by rw [← U32_snoc]; exact hrow13
   refine hz12 G14 ?_
   refine zz 6 ?_
   refine zs 41 (v := .int .u64 (IntKind.u64.wrap (Int.tdiv ((((l.getD k 0 + l2.getD k 0 + c) : Nat) : Int)) (4294967296)))) (v' := .int .u64 (((l.getD k 0 + l2.getD k 0 + c) / 4294967296 : Nat) : Int)) (vint (u64_quo _ (by omega))) ?_
   refine zz 7 ?_
   refine zw 24 (x := (k : Int) + 1) ?_
   refine zz 2 ?_
   have hc1_ := (Le5 y2 y3 y7 y9 y11).trans y13
   refine znext (fun a h => V2 ((k + 1, ad13, cap13, (l.getD k 0 + l2.getD k 0 + c) / 4294967296)) _ a h ⟨_, rb13, (ls ++ [(l.getD k 0 + l2.getD k 0 + c) % 4294967296]), A13.tail, hc1_, hrw13, by rw [List.length_append, hrl]; rfl, snoc_lt hrt (by omega), sumstep _ _ _ _ _ hrl hv, by omega, by omega, fun hk9 => by have e1 : l.getD k 0 = 0 := getD_out (by omega); have e2 : l2.getD k 0 = 0 := getD_out (by omega); omega⟩ ?_)
   first | omega | (simp <;> omega)
  have ht15 : bj3_22 = false := by simpa using hc4
  have hno : ¬ (k < l.length ∨ k < l2.length ∨ 0 < c) := fun e => by rw [hjp3.2 e] at ht15; cases ht15
  have hend := mx1 (fun e => hno (.inr (.inr e))) (fun e => hno (.inl e)) (fun e => hno (.inr (.inl e))) hv
  refine zz 9 ?_
  obtain ⟨Y17, hSx17, y17, hL17⟩ := St.pubLimbs (A := []) (B := []) (fun rb => (rb)) A3 (fun _ => by simp only [List.append_assoc, List.cons_append, List.nil_append, List.append_nil]) hrw hrl.symm hrt
  have A17 : St E0 w X w3 Y17 [] := hSx17
  refine zc A17 (cut5_c _ _ A17.lt _ _ _ ls hL17) ?_
  rintro v18 w18 A18 y18 hu18 rfl
  refine zz 4 ?_
  refine zr' (v := .slice ad8 (trimN ls) cap8) ?_
  exact ⟨A18.upd, _, rfl, _, _, _, rfl, _, ((hL17.sub (trimN_le _ hL17.hlen)).mono (Le.trans y18 A18.le)), canon_trimmed _, by rw [show List.take (trimN ls) ls = Go.Gv.trimmed ls from rfl, val_trimmed]; exact hend⟩
 intro K19 V19
 refine zz 6 ?_
 refine zt 13 (p := (k : Int) < (l.length : Int)) (fun ht20 => ?_) (fun ht20 => ?_)
 ·
  refine zz 10 ?_
  exact znext (fun a h => V19 true _ a h ⟨_, A2, (Le.refl _), by first | exact ⟨fun _ => by omega, fun _ => rfl⟩ | exact ⟨fun e => by have := of_decide_eq_true e; omega, fun e => decide_eq_true (by omega)⟩⟩)
 refine zz 6 ?_
 refine zt 19 (p := (k : Int) < (l2.length : Int)) (fun ht21 => ?_) (fun ht21 => ?_)
 ·
  refine zz 4 ?_
  exact znext (fun a h => V19 true _ a h ⟨_, A2, (Le.refl _), by first | exact ⟨fun _ => by omega, fun _ => rfl⟩ | exact ⟨fun e => by have := of_decide_eq_true e; omega, fun e => decide_eq_true (by omega)⟩⟩)
 refine zz 4 ?_
 exact znext (fun a h => V19 (decide ((c : Int) > 0)) _ a h ⟨_, A2, (Le.refl _), by first | exact ⟨fun _ => by omega, fun _ => rfl⟩ | exact ⟨fun e => by have := of_decide_eq_true e; omega, fun e => decide_eq_true (by omega)⟩⟩)
end Go.Proofs.YtdfmdiakjdggbaaGreatDoor
namespace Go.Proofs.YtdfmdiakjdggbaaGreatDoor
open Go Go.Gv Go.RowKit
set_option maxRecDepth 100000
set_option maxHeartbeats 1000000
theorem diff5_c (w : World) (X : Hid) (hX : ∀ k o, X k o → k < w.heap.size) (ad : Option Addr) (len cap : Nat) (l : List Nat) (h : Limbs (rd w X) ad len cap l) (ad2 : Option Addr) (len2 cap2 : Nat) (l2 : List Nat) (h2 : Limbs (rd w X) ad2 len2 cap2 l2) (hm : len ≤ 1000000) (hll : l2.length ≤ l.length) (hle : val l2 ≤ val l) : Calls Tryz.prog 220 #[.slice ad len cap, .slice ad2 len2 cap2] w (Ret E0 w fun w' v => NatX X w' v (val l - val l2)) := by
 obtain rfl := h.hlen
 obtain rfl := h2.hlen
 have hcap := h.hcap
 have hbig := h.hbig
 have hcap2 := h2.hcap
 have hbig2 := h2.hbig
 refine zen Tryz.func220 ?_
 have A0 : St E0 w X w X [] := St.start hX
 refine zz 22 ?_
 refine zlp Tryz.f220 [] [1, 1, 1, 0, 1, 0] (fun ((k, ad8, cap8, c) : Nat × (Option Addr) × Nat × Nat) => [(0, .slice ad l.length cap), (1, .slice ad2 l2.length cap2), (5, .slice ad8 k cap8), (6, .int .u64 (c : Int)), (7, .int .i64 (k : Int))]) (fun ((k, ad8, cap8, c) : Nat × (Option Addr) × Nat × Nat) w1 => ∃ (Y1 : Hid) (rb : List (Nat × Obj)) (ls : List Nat), St E0 w X w1 Y1 (rb) ∧ Le (rd w X) (rd w1 Y1) ∧ (TRow 214 1 rb ad8 k cap8 (U32 ls)) ∧ (ls.length = k) ∧ (∀ x ∈ ls, x < 4294967296) ∧ (val ls + val (l2.take k) = val (l.take k) + c * 4294967296 ^ k) ∧ (c ≤ 1) ∧ (k ≤ l.length)) (fun ((k, ad8, cap8, c) : Nat × (Option Addr) × Nat × Nat) => l.length - k) (0, none, 0, 0) ?_ ?_
 ·
  refine ⟨_, [], [], A0, Le.refl _, TRow.nil _ _, rfl, fun _ h => absurd h (by simp), by simp [val], by omega, Nat.zero_le _⟩
 rintro ⟨k, ad8, cap8, c⟩ w2 K2 V2 ⟨Y2, rb, ls, A2, y2, hp2_0, hp2_1, hp2_2, hp2_3, hp2_4, hp2_5⟩
 have hrw := hp2_0
 have hrl := hp2_1
 have hrt := hp2_2
 have hv := hp2_3
 have hc := hp2_4
 have hk := hp2_5
 have hlt1 := h.getD_lt k
 have hlt2 := h2.getD_lt k
 refine zz 9 ?_
 refine zt 12 (p := (k : Int) < (l.length : Int)) (fun ht3 => ?_) (fun ht3 => ?_)
 ·
  refine zz 9 ?_
  refine zc A2 (limb5_c _ X0 (X0_lt _) _ _ _ l ((h.mono y2).mono Le.x0) k) ?_
  rintro v5 w5 A5 y5 hu5 rfl
  refine zz 1 ?_
  refine zs 18 (v := .int .u64 (IntKind.u64.wrap ((4294967296 : Int) + ((l.getD k 0 : Nat) : Int)))) (v' := .int .u64 ((4294967296 : Int) + ((l.getD k 0 : Nat) : Int))) (vint (wu64 (by omega) (by omega))) ?_
  refine zz 2 ?_
  refine zc A5 (limb5_c _ X0 (X0_lt _) _ _ _ l2 ((h2.mono (Le2 y2 y5)).mono Le.x0) k) ?_
  rintro v7 w7 A7 y7 hu7 rfl
  refine zz 1 ?_
  refine zs 22 (v := .int .u64 (IntKind.u64.wrap (((4294967296 : Int) + ((l.getD k 0 : Nat) : Int)) - ((l2.getD k 0 : Nat) : Int)))) (v' := .int .u64 (((4294967296 : Int) + ((l.getD k 0 : Nat) : Int)) - ((l2.getD k 0 : Nat) : Int))) (vint (wu64 (by omega) (by omega))) ?_
  refine zz 2 ?_
  refine zs 24 (v := .int .u64 (IntKind.u64.wrap ((((4294967296 : Int) + ((l.getD k 0 : Nat) : Int)) - ((l2.getD k 0 : Nat) : Int)) - (c : Int)))) (v' := .int .u64 (((4294967296 + l.getD k 0 - l2.getD k 0 - c) : Nat) : Int)) (vint ((wu64 (by omega) (by omega)).trans (by omega))) ?_
  refine zz 8 ?_
  refine zs 27 (v := .int .u64 (Int.tmod ((((4294967296 + l.getD k 0 - l2.getD k 0 - c) : Nat) : Int)) (4294967296))) (v' := .int .u64 (((4294967296 + l.getD k 0 - l2.getD k 0 - c) % 4294967296 : Nat) : Int)) (vint (by rfl)) ?_
  refine zz 1 ?_
  refine zs 28 (v := .int .u32 (IntKind.u32.wrap ((((4294967296 + l.getD k 0 - l2.getD k 0 - c) % 4294967296 : Nat) : Int)))) (v' := .int .u32 (((4294967296 + l.getD k 0 - l2.getD k 0 - c) % 4294967296 : Nat) : Int)) (vint (wu32 (by omega) (by omega))) ?_
  refine zn (fun b => .slice (some ⟨b, 0, none⟩) 1 1) (.cells #[.int .u32 (((4294967296 + l.getD k 0 - l2.getD k 0 - c) % 4294967296 : Nat) : Int)] 214 (0, 0)) A7 ?_
  intro b9 w9 Y9 A9 y9 hu9
  refine zop (at1 [K2] Tryz.f220 [1, 1, 1, 0, 1, 0, 0, 1, 0, 0, 1, 0]) 5 (fun a10 _ G10 hz10 => op_appEZ (b := 4) (m := 1) (c := 1) (ad := ⟨b9, 0, none⟩) (news := [.int .u32 (((4294967296 + l.getD k 0 - l2.getD k 0 - c) % 4294967296 : Nat) : Int)]) (i0 := Tryz.t214) (R1 := []) 1 G10 A9 rfl hrw (A9.cells 0 rfl rfl) (by omega) (by omega) ?_)
  intro rb11 ad11 cap11 w11 Y11 hrow11 A11 y11 a12 G12
  have hrw11 : TRow 214 1 rb11 ad11 (k + 1) cap11 (U32 (ls ++ [(4294967296 + l.getD k 0 - l2.getD k 0 - c) % 4294967296])) := by rw [← U32_snoc]; exact hrow11
  refine hz10 G12 ?_
  refine zz 6 ?_
  refine zs 32 (v := .int .u64 (IntKind.u64.wrap (Int.tdiv ((((4294967296 + l.getD k 0 - l2.getD k 0 - c) : Nat) : Int)) (4294967296)))) (v' := .int .u64 (((4294967296 + l.getD k 0 - l2.getD k 0 - c) / 4294967296 : Nat) : Int)) (vint (u64_quo _ (by omega))) ?_
  refine zz 1 ?_
  refine zs 33 (v := .int .u64 (IntKind.u64.wrap ((1 : Int) - (((4294967296 + l.getD k 0 - l2.getD k 0 - c) / 4294967296 : Nat) : Int)))) (v' := .int .u64 ((1 - (4294967296 + l.getD k 0 - l2.getD k 0 - c) / 4294967296 : Nat) : Int)) (vint ((wu64 (by omega) (by omega)).trans (by omega))) ?_
  refine zz 7 ?_
  refine zw 14 (x := (k : Int) + 1) ?_
  refine zz 2 ?_
  have hc1_ := (Le4 y2 y5 y7 y9).trans y11
  refine znext (fun a h => V2 ((k + 1, ad11, cap11, (1 - (4294967296 + l.getD k 0 - l2.getD k 0 - c) / 4294967296))) _ a h ⟨_, rb11, (ls ++ [(4294967296 + l.getD k 0 - l2.getD k 0 - c) % 4294967296]), A11.tail, hc1_, hrw11, by rw [List.length_append, hrl]; rfl, snoc_lt hrt (by omega), diffstep _ _ _ _ _ hrl hlt1 hlt2 hc hv, by omega, by omega⟩ ?_)
  first | omega | (simp <;> omega)
 have hend := diff_end hrl (by omega) hrt hll hle hc hv
 refine zz 9 ?_
 obtain ⟨Y14, hSx14, y14, hL14⟩ := St.pubLimbs (A := []) (B := []) (fun rb => (rb)) A2 (fun _ => by simp only [List.append_assoc, List.cons_append, List.nil_append, List.append_nil]) hrw hrl.symm hrt
 have A14 : St E0 w X w2 Y14 [] := hSx14
 refine zc A14 (cut5_c _ _ A14.lt _ _ _ ls hL14) ?_
 rintro v15 w15 A15 y15 hu15 rfl
 refine zz 4 ?_
 refine zr' (v := .slice ad8 (trimN ls) cap8) ?_
 exact ⟨A15.upd, _, rfl, _, _, _, rfl, _, ((hL14.sub (trimN_le _ hL14.hlen)).mono (Le.trans y15 A15.le)), canon_trimmed _, by rw [show List.take (trimN ls) ls = Go.Gv.trimmed ls from rfl, val_trimmed]; exact hend⟩
theorem order5_c (w : World) (X : Hid) (hX : ∀ k o, X k o → k < w.heap.size) (ad : Option Addr) (len cap : Nat) (l : List Nat) (h : Limbs (rd w X) ad len cap l) (ad2 : Option Addr) (len2 cap2 : Nat) (l2 : List Nat) (h2 : Limbs (rd w X) ad2 len2 cap2 l2) (hm : len ≤ 1000000) (hm2 : len2 ≤ 1000000) : Calls Tryz.prog 219 #[.slice ad len cap, .slice ad2 len2 cap2] w (Ret E0 w fun _ v => v = .int .i64 (cmpI (val l) (val l2))) := by
 obtain rfl := h.hlen
 obtain rfl := h2.hlen
 have hcap := h.hcap
 have hbig := h.hbig
 have hcap2 := h2.hcap
 have hbig2 := h2.hbig
 refine zen Tryz.func219 ?_
 have A0 : St E0 w X w X [] := St.start hX
 refine zz 13 ?_
 refine zs 10 (v := .int .i64 (if (l2.length : Int) > (l.length : Int) then (l2.length : Int) else (l.length : Int))) (v' := .int .i64 ((max l.length l2.length : Nat) : Int)) (vint (by split <;> omega)) ?_
 refine zz 1 ?_
 refine zw 11 (x := ((max l.length l2.length : Nat) : Int) - 1) ?_
 refine zz 4 ?_
 refine zlp Tryz.f219 [] [1, 0, 1, 0] (fun (k : Nat) => [(0, .slice ad l.length cap), (1, .slice ad2 l2.length cap2), (5, .int .i64 ((k : Int) - 1))]) (fun (k : Nat) w1 => ∃ (Y1 : Hid), St E0 w X w1 Y1 [] ∧ Le (rd w X) (rd w1 Y1) ∧ (k ≤ max l.length l2.length) ∧ (∀ j, k ≤ j → l.getD j 0 = l2.getD j 0)) (fun (k : Nat) => k) (max l.length l2.length) ?_ ?_
 ·
  refine ⟨_, A0, Le.refl _, Nat.le_refl _, fun j hj => (getD_out (by omega)).trans (getD_out (by omega)).symm⟩
 rintro k w2 K2 V2 ⟨Y2, A2, y2, hp2_0, hp2_1⟩
 have hk := hp2_0
 have he := hp2_1
 have hlt1 := h.getD_lt (k - 1)
 have hlt2 := h2.getD_lt (k - 1)
 refine zz 7 ?_
 refine zt 13 (p := ((k : Int) - 1) ≥ 0) (fun ht3 => ?_) (fun ht3 => ?_)
 ·
  refine zz 10 ?_
  refine zs 17 (v := .int .i64 ((k : Int) - 1)) (v' := .int .i64 ((k - 1 : Nat) : Int)) (vint (by omega)) ?_
  refine zc A2 (limb5_c _ X0 (X0_lt _) _ _ _ l ((h.mono y2).mono Le.x0) (k - 1)) ?_
  rintro v5 w5 A5 y5 hu5 rfl
  refine zz 2 ?_
  refine zs 20 (v := .int .i64 ((k : Int) - 1)) (v' := .int .i64 ((k - 1 : Nat) : Int)) (vint (by omega)) ?_
  refine zc A5 (limb5_c _ X0 (X0_lt _) _ _ _ l2 ((h2.mono (Le2 y2 y5)).mono Le.x0) (k - 1)) ?_
  rintro v7 w7 A7 y7 hu7 rfl
  refine zz 3 ?_
  refine zt 22 (p := ((l.getD (k - 1) 0 : Nat) : Int) < ((l2.getD (k - 1) 0 : Nat) : Int)) (fun ht8 => ?_) (fun ht8 => ?_)
  ·
   refine zz 13 ?_
   refine zr' (v := .int .i64 (-1)) ?_
   exact ⟨A7.upd, _, rfl, vint (Eq.symm (by have h9 := ord_lt h.hlt (k := k - 1) (fun j hj => he j (by omega)) (by omega); unfold cmpI; rw [if_pos (by omega)]))⟩
  refine zz 7 ?_
  refine zs 24 (v := .int .i64 ((k : Int) - 1)) (v' := .int .i64 ((k - 1 : Nat) : Int)) (vint (by omega)) ?_
  refine zc A7 (limb5_c _ X0 (X0_lt _) _ _ _ l ((h.mono (Le3 y2 y5 y7)).mono Le.x0) (k - 1)) ?_
  rintro v10 w10 A10 y10 hu10 rfl
  refine zz 2 ?_
  refine zs 27 (v := .int .i64 ((k : Int) - 1)) (v' := .int .i64 ((k - 1 : Nat) : Int)) (vint (by omega)) ?_
  have hc1_ := (Le3 y2 y5 y7).trans y10
  refine zc A10 (limb5_c _ X0 (X0_lt _) _ _ _ l2 ((h2.mono hc1_).mono Le.x0) (k - 1)) ?_
  rintro v12 w12 A12 y12 hu12 rfl
  refine zz 3 ?_
  refine zt 29 (p := ((l.getD (k - 1) 0 : Nat) : Int) > ((l2.getD (k - 1) 0 : Nat) : Int)) (fun ht13 => ?_) (fun ht13 => ?_)
  ·
   refine zz 12 ?_
   refine zr' (v := .int .i64 1) ?_
   exact ⟨A12.upd, _, rfl, vint (Eq.symm (by have h9 := ord_lt h2.hlt (k := k - 1) (fun j hj => (he j (by omega)).symm) (by omega); unfold cmpI; rw [if_neg (by omega), if_pos (by omega)]))⟩
  refine zz 7 ?_
  refine zs 15 (v := .int .i64 (IntKind.i64.wrap (((k : Int) - 1) - 1))) (v' := .int .i64 (((k - 1 : Nat) : Int) - 1)) (vint ((wi64 (by omega) (by omega)).trans (by omega))) ?_
  refine zz 2 ?_
  have hc2_ := hc1_.trans y12
  refine znext (fun a h => V2 (k - 1) _ a h ⟨_, A12, hc2_, by omega, fun j hj => by rcases Nat.lt_or_ge j k with h9 | h9; obtain rfl : j = k - 1 := (by omega); omega; exact he j h9⟩ ?_)
  first | omega | (simp <;> omega)
 have hend := val_ext l l2 (fun j => he j (by omega))
 refine zz 12 ?_
 refine zr' (v := .int .i64 0) ?_
 exact ⟨A2.upd, _, rfl, vint (Eq.symm (by unfold cmpI; rw [hend, if_neg (Int.lt_irrefl _), if_neg (Int.lt_irrefl _)]))⟩
end Go.Proofs.YtdfmdiakjdggbaaGreatDoor
namespace Go.Proofs.YtdfmdiakjdggbaaGreatDoor
open Go Go.Gv Go.RowKit
set_option maxRecDepth 100000
set_option maxHeartbeats 1000000
theorem from5_c (w : World) (X : Hid) (hX : ∀ k o, X k o → k < w.heap.size) (x : Nat) (hx : x < 18446744073709551616) : Calls Tryz.prog 176 #[.int .u64 (x : Int)] w (Ret E0 w fun w' v => NatX X w' v x) := by
 refine zen Tryz.func176 ?_
 have A0 : St E0 w X w X [] := St.start hX
 refine zz 9 ?_
 refine zs 4 (v := .int .u64 (Int.tmod ((x : Int)) (4294967296))) (v' := .int .u64 ((x % 4294967296 : Nat) : Int)) (vint (by rfl)) ?_
 refine zz 1 ?_
 refine zs 5 (v := .int .u32 (IntKind.u32.wrap (((x % 4294967296 : Nat) : Int)))) (v' := .int .u32 ((x % 4294967296 : Nat) : Int)) (vint (wu32 (by omega) (by omega))) ?_
 refine zz 2 ?_
 refine zs 7 (v := .int .u64 (IntKind.u64.wrap (Int.tdiv ((x : Int)) (4294967296)))) (v' := .int .u64 ((x / 4294967296 : Nat) : Int)) (vint (u64_quo _ (by omega))) ?_
 refine zz 1 ?_
 refine zs 8 (v := .int .u32 (IntKind.u32.wrap (((x / 4294967296 : Nat) : Int)))) (v' := .int .u32 ((x / 4294967296 : Nat) : Int)) (vint (wu32 (by omega) (by omega))) ?_
 refine zn (fun b => .slice (some ⟨b, 0, none⟩) 2 2) (.cells #[.int .u32 ((x % 4294967296 : Nat) : Int), .int .u32 ((x / 4294967296 : Nat) : Int)] 214 (0, 0)) A0 ?_
 intro b3 w3 Y3 A3 y3 hu3
 have hrow5 : URow 2 2 #[.int .u32 ((x % 4294967296 : Nat) : Int), .int .u32 ((x / 4294967296 : Nat) : Int)] [x % 4294967296, x / 4294967296] := URow.of [x % 4294967296, x / 4294967296] (by intro y hy; simp at hy; omega) (by simp [maxLen]) (by simp [U32]) (by simp)
 refine zc A3 (cut5_c _ X0 (X0_lt _) _ _ _ ([x % 4294967296, x / 4294967296]) (URow.limbs (Y := X0) hrow5 (A3.get 0 rfl) (fun _ h => h.elim))) ?_ (vs := #[.slice (some ⟨b3, 0, none⟩) 2 2])
 rintro v6 w6 A6 y6 hu6 rfl
 refine zz 4 ?_
 refine zr' (v := .slice (some ⟨b3, 0, none⟩) (trimN ([x % 4294967296, x / 4294967296])) 2) ?_
 exact ⟨A6.upd, _, rfl, _, _, _, rfl, _, URow.limbs (hrow5.trimmed) (A6.get 0 rfl) (fun o h9 => Nat.not_lt.2 (A6.own_ge 0 rfl) (hX _ _ h9)), canon_trimmed _, by rw [val_trimmed]; simp only [val]; omega⟩
end Go.Proofs.YtdfmdiakjdggbaaGreatDoor
namespace Go.Proofs.YtdfmdiakjdggbaaGreatDoor
open Go Go.Gv Go.RowKit
set_option maxRecDepth 100000
set_option maxHeartbeats 1000000
theorem div5_lo (w : World) (X : Hid) (hX : ∀ k o, X k o → k < w.heap.size) (ad : Option Addr) (len cap : Nat) (l : List Nat) (h : Limbs (rd w X) ad len cap l) (ad2 : Option Addr) (len2 cap2 : Nat) (l2 : List Nat) (h2 : Limbs (rd w X) ad2 len2 cap2 l2) (hm : len ≤ 100000) (hm2 : len2 ≤ 100000) (hc1 : Canon l) (hc2 : Canon l2) (hd : 0 < val l2) (hlo : l.length < l2.length) : Calls Tryz.prog 175 #[.slice ad len cap, .slice ad2 len2 cap2] w (Ret E0 w fun w' v => ∃ u u2, v = .tuple #[u, u2] ∧ NatX X w' u (val l / val l2) ∧ NatX X w' u2 (val l % val l2)) := by
 obtain rfl := h.hlen
 obtain rfl := h2.hlen
 have hcap := h.hcap
 have hbig := h.hbig
 have hcap2 := h2.hcap
 have hbig2 := h2.hbig
 have hlo2 := lo_lt h.hlt hc2 hlo
 refine zen Tryz.func175 ?_
 have A0 : St E0 w X w X [] := St.start hX
 refine zz 13 ?_
 refine zw 14 (x := (l.length : Int) - (l2.length : Int)) ?_
 refine zz 1 ?_
 refine zs 15 (v := .int .i64 (IntKind.i64.wrap (((l.length : Int) - (l2.length : Int)) + 1))) (v' := .int .i64 ((l.length : Int) - (l2.length : Int) + 1)) (vint (wi64 (by omega) (by omega))) ?_
 refine zz 10 ?_
 refine zt 17 (p := ((l.length : Int) - (l2.length : Int) + 1) ≤ 0) (fun ht2 => ?_) (fun ht2 => ?_)
 ·
  refine zz 4 ?_
  refine zop (at1 [] Tryz.f175 [1, 1, 0, 1, 0, 0]) 1 (fun a3 _ G3 hz3 => op_nilL (e := 214) (i0 := Tryz.t214) G3 A0 h (by first | omega | (simp; omega)) ?_)
  intro ad4 cap4 w4 A4 y4 hL4 a5 G5
  refine hz3 G5 ?_
  refine zz 6 ?_
  refine zr' (v := .tuple #[.slice none 0 0, .slice ad4 l.length cap4]) ?_
  exact ⟨A4.upd, _, rfl, _, _, rfl, ⟨_, _, _, rfl, [], Limbs.nil none (by omega), .inl rfl, (Nat.div_eq_of_lt hlo2).symm⟩, ⟨_, _, _, rfl, l, (hL4).mono A4.le, hc1, (Nat.mod_eq_of_lt hlo2).symm⟩⟩
 omega
theorem div5_hi (w : World) (X : Hid) (hX : ∀ k o, X k o → k < w.heap.size) (ad : Option Addr) (len cap : Nat) (l : List Nat) (h : Limbs (rd w X) ad len cap l) (ad2 : Option Addr) (len2 cap2 : Nat) (l2 : List Nat) (h2 : Limbs (rd w X) ad2 len2 cap2 l2) (hm : len ≤ 100000) (hm2 : len2 ≤ 100000) (hc1 : Canon l) (hc2 : Canon l2) (hd : 0 < val l2) (N : Nat) (hN : l.length + 1 = N + l2.length) (h0 : 0 < N) : Calls Tryz.prog 175 #[.slice ad len cap, .slice ad2 len2 cap2] w (Ret E0 w fun w' v => ∃ u u2, v = .tuple #[u, u2] ∧ NatX X w' u (val l / val l2) ∧ NatX X w' u2 (val l % val l2)) := by
 obtain rfl := h.hlen
 obtain rfl := h2.hlen
 have hcap := h.hcap
 have hbig := h.hbig
 have hcap2 := h2.hcap
 have hbig2 := h2.hbig
 have hl2 := pos_len hd
 refine zen Tryz.func175 ?_
 have A0 : St E0 w X w X [] := St.start hX
 refine zz 13 ?_
 refine zw 14 (x := (l.length : Int) - (l2.length : Int)) ?_
 refine zz 1 ?_
 refine zs 15 (v := .int .i64 (IntKind.i64.wrap (((l.length : Int) - (l2.length : Int)) + 1))) (v' := .int .i64 (N : Int)) (vint ((wi64 (by omega) (by omega)).trans (by omega))) ?_
 refine zz 10 ?_
 refine zt 17 (p := (N : Int) ≤ 0) (fun ht2 => ?_) (fun ht2 => ?_)
 ·
  omega
 refine zz 6 ?_
 refine zop (at1 [] Tryz.f175 [1, 1, 1, 0]) 1 (fun a3 _ G3 hz3 => op_makeZ (l := (N : Int)) (e := 214) (z := .int .u32 0) (i0 := Tryz.t214) N 4 G3 A0 ?_)
 intro b4 w4 Y4 A4 y4 hu4 a5 G5
 have hrow4 := URow.zeros N (by simp only [maxLen]; omega)
 refine hz3 G5 ?_
 refine zz 7 ?_
 refine zop (at1 [] Tryz.f175 [1, 1, 1, 1, 0]) 2 (fun a6 _ G6 hz6 => zE (d := 24) (v := .slice (adF ad cap N) (l.length - N) (cap - N)) G6 kr (run_sliceFrom (t := 26) (e := 214) (ad := ad) (len := l.length) (cap := cap) (k := N) (kd := .i64) (g := false) rfl kr kr kr kr (by omega) _) ?_)
 intro a7 G7
 refine hz6 G7 ?_
 refine zop (at1 [] Tryz.f175 [1, 1, 1, 1, 0]) 3 (fun a8 _ G8 hz8 => op_nilL (e := 214) (i0 := Tryz.t214) G8 A4 ((h.drop (k := N) (by omega)).mono y4) (by first | omega | (simp; omega)) ?_)
 intro ad9 cap9 w9 A9 y9 hL9 a10 G10
 refine hz8 G10 ?_
 refine zc A9 (cut5_c _ _ A9.lt _ _ _ (l.drop N) hL9) ?_
 rintro v12 w12 A12 y12 hu12 rfl
 have hT13 := ((hL9.mono y12)).sub (trimN_le _ ((hL9.mono y12)).hlen)
 refine zz 8 ?_
 refine zw 28 (x := (32 : Int) * (N : Int)) ?_
 refine zz 1 ?_
 refine zs 29 (v := .int .i64 (IntKind.i64.wrap (((32 : Int) * (N : Int)) - 1))) (v' := .int .i64 (((32 * N : Nat) : Int) - 1)) (vint ((wi64 (by omega) (by omega)).trans (by omega))) ?_
 refine zz 4 ?_
 refine zlp Tryz.f175 [] [1, 1, 1, 1, 1, 0, 1, 0] (fun ((k, adr, lenr, capr) : Nat × (Option Addr) × Nat × Nat) => [(0, .slice ad l.length cap), (1, .slice ad2 l2.length cap2), (7, .slice (some ⟨b4, 0, none⟩) N N), (8, .slice adr lenr capr), (9, .int .i64 ((k : Int) - 1))]) (fun ((k, adr, lenr, capr) : Nat × (Option Addr) × Nat × Nat) w1 => ∃ (Y1 : Hid) (curq : Array Value) (lq : List Nat) (lr : List Nat) (q : Nat), St E0 w X w1 Y1 [(b4, .cells curq 214 (0, 0))] ∧ Le (rd w12 Y4) (rd w1 Y1) ∧ (URow N N curq lq) ∧ (Limbs (rd w1 Y1) adr lenr capr lr) ∧ (Canon lr) ∧ (val lq = 2 ^ k * q) ∧ (val l / 2 ^ k = q * val l2 + val lr) ∧ (val lr < val l2) ∧ (k ≤ 32 * N)) (fun ((k, adr, lenr, capr) : Nat × (Option Addr) × Nat × Nat) => k) ((32 * N), ad9, trimN (l.drop N), cap9) ?_ ?_
 ·
  refine ⟨_, (List.replicate N (Value.int .u32 0)).toArray, (List.replicate N 0), (Go.Gv.trimmed (l.drop N)), 0, A12, Le.refl _, hrow4, hT13, canon_trimmed _, by rw [val_replicate]; simp, by rw [Nat.zero_mul, Nat.zero_add, val_trimmed]; exact val_drop l h.hlt N (by omega), by rw [val_trimmed]; exact drop_lt h.hlt hc2 hd hN, Nat.le_refl _⟩
 rintro ⟨k, adr, lenr, capr⟩ w14 K14 V14 ⟨Y14, curq, lq, lr, q, A14, y14, hp14_0, hp14_1, hp14_2, hp14_3, hp14_4, hp14_5, hp14_6⟩
 have hrowq := hp14_0
 have hr := hp14_1
 have hcanr := hp14_2
 have hvq := hp14_3
 have hdiv := hp14_4
 have hlt := hp14_5
 have hkN := hp14_6
 have hrlen := hr.hlen
 have hrl := canon_len h2.hlt hcanr (Nat.le_of_lt hlt)
 obtain rfl := hrlen
 refine zz 7 ?_
 refine zt 31 (p := ((k : Int) - 1) ≥ 0) (fun ht15 => ?_) (fun ht15 => ?_)
 ·
  obtain ⟨i, rfl⟩ : ∃ i, k = i + 1 := ⟨k - 1, by omega⟩
  obtain ⟨b1, off1, rfl, _⟩ := h.addr (by omega)
  refine zz 9 ?_
  refine zc A14 (sum5_c _ _ A14.lt _ _ _ lr hr _ _ _ lr hr (by first | omega | (simp; done) | (simp; omega)) (by first | omega | (simp; done) | (simp; omega))) ?_
  rintro v17 w17 A17 y17 hu17 ⟨ad17, len17, cap17, rfl, ls17, hL17, hcan17, hval17⟩
  have hlen17 := hL17.hlen
  have hdl17 := canon_dbl hcan17 h2.hlt hlt (by omega)
  refine zz 8 ?_
  refine zs 38 (v := .int .i64 (((i + 1 : Nat) : Int) - 1)) (v' := .int .i64 (i : Int)) (vint (by omega)) ?_
  refine zz 1 ?_
  refine zs 39 (v := .int .i64 (IntKind.i64.wrap (Int.tdiv ((i : Int)) (32)))) (v' := .int .i64 ((i / 32 : Nat) : Int)) (vint (tdiv32 _ (by omega))) ?_
  refine zi (b := b1) (off := off1) (len := l.length) (cap := cap) (kd := .i64) (i := ((i / 32 : Nat) : Int)) 1 (off1 + i / 32) ?_
  have hc1_ := (Le4 y4 y9 y12 y14).trans y17
  refine zl ((h.cell (i := i / 32) (by omega)).mono hc1_).cells ?_
  refine zz 1 ?_
  refine zs 42 (v := .int .i64 (((i + 1 : Nat) : Int) - 1)) (v' := .int .i64 (i : Int)) (vint (by omega)) ?_
  refine zz 1 ?_
  refine zs 43 (v := .int .i64 (Int.tmod ((i : Int)) (32))) (v' := .int .i64 ((i % 32 : Nat) : Int)) (vint (tmod32 _)) ?_
  refine zz 1 ?_
  refine zs 44 (v := .int .u64 (IntKind.u64.wrap (((i % 32 : Nat) : Int)))) (v' := .int .u64 ((i % 32 : Nat) : Int)) (vint (wu64 (by omega) (by omega))) ?_
  refine zop (at1 [K14] Tryz.f175 [1, 1, 1, 1, 1, 0, 1, 0, 0, 1, 0, 0, 1, 0, 0]) 8 (fun a18 _ G18 hz18 => zE (d := 45) (v := .int .u32 ((l.getD (i / 32) 0 / 2 ^ (i % 32) : Nat) : Int)) G18 kr (run_shrK rfl rfl rfl (by omega)) ?_)
  intro a19 G19
  refine hz18 G19 ?_
  refine zz 1 ?_
  refine zs 46 (v := .int .u32 (Int.tmod (((l.getD (i / 32) 0 / 2 ^ (i % 32) : Nat) : Int)) (2))) (v' := .int .u32 (((val l / 2 ^ i % 2) : Nat) : Int)) (vint (by rw [← digit_limb l h.hlt i (by omega)]; rfl)) ?_
  refine zz 3 ?_
  refine zb 47 (b := ((((val l / 2 ^ i % 2) : Nat) : Int) == 1)) (fun hc20 => ?_) (fun hc20 => ?_)
  ·
   have ht21 : (((val l / 2 ^ i % 2) : Nat) : Int) = 1 := by simpa using hc20
   have hbit : val l / 2 ^ i % 2 = 1 := Int.ofNat_inj.1 ht21
   refine zz 3 ?_
   refine zn (fun b => .slice (some ⟨b, 0, none⟩) 1 1) (.cells #[.int .u32 1] 214 (0, 0)) A17 ?_
   intro b23 w23 Y23 A23 y23 hu23
   obtain ⟨hSx25, y25, hat25⟩ := St.publish A23 (A23.own_ge 0 rfl)
   have A25 : St E0 w X w23 (show_ b23 Y23) [(b4, .cells curq 214 (0, 0))] := hSx25
   have hL25 := one_at (x := 1) hat25 (by omega)
   refine zc A25 (sum5_c _ _ A25.lt _ _ _ ls17 (hL17.mono (Le2 y23 y25)) _ _ _ ([1]) hL25 (by first | omega | (simp; done) | (simp; omega)) (by first | omega | (simp; done) | (simp; omega))) ?_
   rintro v26 w26 A26 y26 hu26 ⟨ad26, len26, cap26, rfl, ls26, hL26, hcan26, hval26⟩
   have hlen26 := hL26.hlen
   have hv126 : val [1] = 1 := rfl
   have hdl26 := canon_dbl hcan26 h2.hlt hlt (by omega)
   refine zz 7 ?_
   have hc2_ := ((hc1_.trans y23).trans y25).trans y26
   refine zc A26 (order5_c _ _ A26.lt _ _ _ ls26 hL26 _ _ _ l2 (h2.mono hc2_) (by first | omega | (simp; done) | (simp; omega)) (by first | omega | (simp; done) | (simp; omega))) ?_
   rintro v28 w28 A28 y28 hu28 rfl
   refine zz 3 ?_
   refine zt 54 (p := (cmpI (val ls26) (val l2)) ≥ 0) (fun ht29 => ?_) (fun ht29 => ?_)
   ·
    have hcmp := cmpI_ge ht29
    obtain ⟨hset1, hset2, hset3⟩ := setbit lq hrowq.lt i q (by rw [hrowq.len]; omega) hvq
    refine zz 5 ?_
    have hc3_ := hc2_.trans y28
    refine zc A28 (diff5_c _ _ A28.lt _ _ _ ls26 (hL26.mono y28) _ _ _ l2 (h2.mono hc3_) (by first | omega | (simp; done) | (simp; omega)) (canon_len ((hL26.mono y28)).hlt hc2 hcmp) (by omega)) ?_
    rintro v31 w31 A31 y31 hu31 ⟨ad31, len31, cap31, rfl, ls31, hL31, hcan31, hval31⟩
    have hlen31 := hL31.hlen
    refine zz 6 ?_
    refine zs 59 (v := .int .i64 (((i + 1 : Nat) : Int) - 1)) (v' := .int .i64 (i : Int)) (vint (by omega)) ?_
    refine zz 1 ?_
    refine zs 60 (v := .int .i64 (IntKind.i64.wrap (Int.tdiv ((i : Int)) (32)))) (v' := .int .i64 ((i / 32 : Nat) : Int)) (vint (tdiv32 _ (by omega))) ?_
    refine zz 2 ?_
    refine zs 62 (v := .int .i64 (((i + 1 : Nat) : Int) - 1)) (v' := .int .i64 (i : Int)) (vint (by omega)) ?_
    refine zz 1 ?_
    refine zs 63 (v := .int .i64 (IntKind.i64.wrap (Int.tdiv ((i : Int)) (32)))) (v' := .int .i64 ((i / 32 : Nat) : Int)) (vint (tdiv32 _ (by omega))) ?_
    refine zi (b := b4) (off := 0) (len := N) (cap := N) (kd := .i64) (i := ((i / 32 : Nat) : Int)) 1 (i / 32) ?_
    refine zl (ad := ⟨b4, i / 32, none⟩) (A31.rowCells 0 rfl hrowq (by have := hrowq.len; (try simp only [List.length_set] at *); omega)) ?_
    refine zz 1 ?_
    refine zs 66 (v := .int .i64 (((i + 1 : Nat) : Int) - 1)) (v' := .int .i64 (i : Int)) (vint (by omega)) ?_
    refine zz 1 ?_
    refine zs 67 (v := .int .i64 (Int.tmod ((i : Int)) (32))) (v' := .int .i64 ((i % 32 : Nat) : Int)) (vint (tmod32 _)) ?_
    refine zz 1 ?_
    refine zs 68 (v := .int .u64 (IntKind.u64.wrap (((i % 32 : Nat) : Int)))) (v' := .int .u64 ((i % 32 : Nat) : Int)) (vint (wu64 (by omega) (by omega))) ?_
    refine zop (at1 [K14] Tryz.f175 [1, 1, 1, 1, 1, 0, 1, 0, 0, 1, 0, 0, 1, 1, 1, 0, 1]) 11 (fun a32 _ G32 hz32 => zE (d := 69) (v := .int .u32 ((2 ^ (i % 32) : Nat) : Int)) G32 kr (run_shl1K rfl rfl rfl (by omega)) ?_)
    intro a33 G33
    refine hz32 G33 ?_
    refine zz 1 ?_
    refine zs 70 (v := .int .u32 (bor32 ((lq.getD (i / 32) 0 : Nat) : Int) ((2 ^ (i % 32) : Nat) : Int))) (v' := .int .u32 ((lq.getD (i / 32) 0 + 2 ^ (i % 32) : Nat) : Int)) (vint hset1) ?_
    refine zi (b := b4) (off := 0) (len := N) (cap := N) (kd := .i64) (i := ((i / 32 : Nat) : Int)) 1 (i / 32) ?_
    refine zop (at1 [K14] Tryz.f175 [1, 1, 1, 1, 1, 0, 1, 0, 0, 1, 0, 0, 1, 1, 1, 0, 1]) 14 (fun a34 _ G34 hz34 => op_storeUZ (y := (lq.getD (i / 32) 0 + 2 ^ (i % 32))) (k := i / 32) (e := ((lq.getD (i / 32) 0 + 2 ^ (i % 32) : Nat) : Int)) 0 G34 A31 (rfl) rfl hrowq (by have := hrowq.len; (try simp only [List.length_set] at *); omega) (hset2) ?_)
    intro cur35 w35 hrow35 A35 y35
    refine hz34 G34 ?_
    refine zz 6 ?_
    refine zs 33 (v := .int .i64 (IntKind.i64.wrap ((((i + 1 : Nat) : Int) - 1) - 1))) (v' := .int .i64 ((i : Int) - 1)) (vint ((wi64 (by omega) (by omega)).trans (by omega))) ?_
    refine zz 2 ?_
    have hc4_ := (Le7 y14 y17 y23 y25 y26 y28 y31).trans y35
    refine znext (fun a h => V14 ((i, ad31, len31, cap31)) _ a h ⟨_, cur35, (lq.set (i / 32) (lq.getD (i / 32) 0 + 2 ^ (i % 32))), ls31, (2 * q + 1), A35, hc4_, hrow35, (hL31.mono y35), hcan31, by rw [hset3, hvq, Nat.pow_succ, Nat.mul_add, Nat.mul_one]; congr 1; ac_rfl, divA hdiv (by rw [hbit]; omega) (by rw [hbit]; omega), by omega, by omega⟩ ?_)
    first | omega | (simp <;> omega)
   have hcmp := cmpI_nge ht29
   refine zz 7 ?_
   refine zs 33 (v := .int .i64 (IntKind.i64.wrap ((((i + 1 : Nat) : Int) - 1) - 1))) (v' := .int .i64 ((i : Int) - 1)) (vint ((wi64 (by omega) (by omega)).trans (by omega))) ?_
   refine zz 2 ?_
   have hc5_ := (Le5 y14 y17 y23 y25 y26).trans y28
   refine znext (fun a h => V14 ((i, ad26, len26, cap26)) _ a h ⟨_, curq, lq, ls26, (2 * q), A28, hc5_, hrowq, (hL26.mono y28), hcan26, by rw [hvq, Nat.pow_succ]; ac_rfl, divB hdiv (by rw [hbit]; omega), by omega, by omega⟩ ?_)
   first | omega | (simp <;> omega)
  have ht36 : (((val l / 2 ^ i % 2) : Nat) : Int) ≠ 1 := by simpa using hc20
  have hbit : val l / 2 ^ i % 2 = 0 := (Nat.mod_two_eq_zero_or_one _).resolve_right (fun e => ht36 (congrArg (fun x : Nat => (x : Int)) e))
  refine zz 7 ?_
  refine zc A17 (order5_c _ _ A17.lt _ _ _ ls17 hL17 _ _ _ l2 (h2.mono hc1_) (by first | omega | (simp; done) | (simp; omega)) (by first | omega | (simp; done) | (simp; omega))) ?_
  rintro v38 w38 A38 y38 hu38 rfl
  refine zz 3 ?_
  refine zt 54 (p := (cmpI (val ls17) (val l2)) ≥ 0) (fun ht39 => ?_) (fun ht39 => ?_)
  ·
   have hcmp := cmpI_ge ht39
   obtain ⟨hset1, hset2, hset3⟩ := setbit lq hrowq.lt i q (by rw [hrowq.len]; omega) hvq
   refine zz 5 ?_
   have hc6_ := hc1_.trans y38
   refine zc A38 (diff5_c _ _ A38.lt _ _ _ ls17 (hL17.mono y38) _ _ _ l2 (h2.mono hc6_) (by first | omega | (simp; done) | (simp; omega)) (canon_len ((hL17.mono y38)).hlt hc2 hcmp) (by omega)) ?_
   rintro v41 w41 A41 y41 hu41 ⟨ad41, len41, cap41, rfl, ls41, hL41, hcan41, hval41⟩
   have hlen41 := hL41.hlen
   refine zz 6 ?_
   refine zs 59 (v := .int .i64 (((i + 1 : Nat) : Int) - 1)) (v' := .int .i64 (i : Int)) (vint (by omega)) ?_
   refine zz 1 ?_
   refine zs 60 (v := .int .i64 (IntKind.i64.wrap (Int.tdiv ((i : Int)) (32)))) (v' := .int .i64 ((i / 32 : Nat) : Int)) (vint (tdiv32 _ (by omega))) ?_
   refine zz 2 ?_
   refine zs 62 (v := .int .i64 (((i + 1 : Nat) : Int) - 1)) (v' := .int .i64 (i : Int)) (vint (by omega)) ?_
   refine zz 1 ?_
   refine zs 63 (v := .int .i64 (IntKind.i64.wrap (Int.tdiv ((i : Int)) (32)))) (v' := .int .i64 ((i / 32 : Nat) : Int)) (vint (tdiv32 _ (by omega))) ?_
   refine zi (b := b4) (off := 0) (len := N) (cap := N) (kd := .i64) (i := ((i / 32 : Nat) : Int)) 1 (i / 32) ?_
   refine zl (ad := ⟨b4, i / 32, none⟩) (A41.rowCells 0 rfl hrowq (by have := hrowq.len; (try simp only [List.length_set] at *); omega)) ?_
   refine zz 1 ?_
   refine zs 66 (v := .int .i64 (((i + 1 : Nat) : Int) - 1)) (v' := .int .i64 (i : Int)) (vint (by omega)) ?_
   refine zz 1 ?_
   refine zs 67 (v := .int .i64 (Int.tmod ((i : Int)) (32))) (v' := .int .i64 ((i % 32 : Nat) : Int)) (vint (tmod32 _)) ?_
   refine zz 1 ?_
   refine zs 68 (v := .int .u64 (IntKind.u64.wrap (((i % 32 : Nat) : Int)))) (v' := .int .u64 ((i % 32 : Nat) : Int)) (vint (wu64 (by omega) (by omega))) ?_
   refine zop (at1 [K14] Tryz.f175 [1, 1, 1, 1, 1, 0, 1, 0, 0, 1, 0, 0, 1, 1, 1, 0, 1]) 11 (fun a42 _ G42 hz42 => zE (d := 69) (v := .int .u32 ((2 ^ (i % 32) : Nat) : Int)) G42 kr (run_shl1K rfl rfl rfl (by omega)) ?_)
   intro a43 G43
   refine hz42 G43 ?_
   refine zz 1 ?_
   refine zs 70 (v := .int .u32 (bor32 ((lq.getD (i / 32) 0 : Nat) : Int) ((2 ^ (i % 32) : Nat) : Int))) (v' := .int .u32 ((lq.getD (i / 32) 0 + 2 ^ (i % 32) : Nat) : Int)) (vint hset1) ?_
   refine zi (b := b4) (off := 0) (len := N) (cap := N) (kd := .i64) (i := ((i / 32 : Nat) : Int)) 1 (i / 32) ?_
   refine zop (at1 [K14] Tryz.f175 [1, 1, 1, 1, 1, 0, 1, 0, 0, 1, 0, 0, 1, 1, 1, 0, 1]) 14 (fun a44 _ G44 hz44 => op_storeUZ (y := (lq.getD (i / 32) 0 + 2 ^ (i % 32))) (k := i / 32) (e := ((lq.getD (i / 32) 0 + 2 ^ (i % 32) : Nat) : Int)) 0 G44 A41 (rfl) rfl hrowq (by have := hrowq.len; (try simp only [List.length_set] at *); omega) (hset2) ?_)
   intro cur45 w45 hrow45 A45 y45
   refine hz44 G44 ?_
   refine zz 6 ?_
   refine zs 33 (v := .int .i64 (IntKind.i64.wrap ((((i + 1 : Nat) : Int) - 1) - 1))) (v' := .int .i64 ((i : Int) - 1)) (vint ((wi64 (by omega) (by omega)).trans (by omega))) ?_
   refine zz 2 ?_
   have hc7_ := (Le4 y14 y17 y38 y41).trans y45
   refine znext (fun a h => V14 ((i, ad41, len41, cap41)) _ a h ⟨_, cur45, (lq.set (i / 32) (lq.getD (i / 32) 0 + 2 ^ (i % 32))), ls41, (2 * q + 1), A45, hc7_, hrow45, (hL41.mono y45), hcan41, by rw [hset3, hvq, Nat.pow_succ, Nat.mul_add, Nat.mul_one]; congr 1; ac_rfl, divA hdiv (by rw [hbit]; omega) (by rw [hbit]; omega), by omega, by omega⟩ ?_)
   first | omega | (simp <;> omega)
  have hcmp := cmpI_nge ht39
  refine zz 7 ?_
  refine zs 33 (v := .int .i64 (IntKind.i64.wrap ((((i + 1 : Nat) : Int) - 1) - 1))) (v' := .int .i64 ((i : Int) - 1)) (vint ((wi64 (by omega) (by omega)).trans (by omega))) ?_
  refine zz 2 ?_
  refine znext (fun a h => V14 ((i, ad17, len17, cap17)) _ a h ⟨_, curq, lq, ls17, (2 * q), A38, (Le3 y14 y17 y38), hrowq, (hL17.mono y38), hcan17, by rw [hvq, Nat.pow_succ]; ac_rfl, divB hdiv (by rw [hbit]; omega), by omega, by omega⟩ ?_)
  first | omega | (simp <;> omega)
 obtain rfl : k = 0 := by omega
 obtain ⟨he1, he2⟩ := divEnd hdiv hlt hvq
 refine zz 9 ?_
 refine zc A14 (cut5_c _ X0 (X0_lt _) _ _ _ lq (URow.limbs (Y := X0) hrowq (A14.get 0 rfl) (fun _ h => h.elim))) ?_ (vs := #[.slice (some ⟨b4, 0, none⟩) N N])
 rintro v47 w47 A47 y47 hu47 rfl
 refine zz 6 ?_
 refine zr' (v := .tuple #[.slice (some ⟨b4, 0, none⟩) (trimN lq) N, .slice adr lr.length capr]) ?_
 exact ⟨A47.upd, _, rfl, _, _, rfl, ⟨_, _, _, rfl, _, URow.limbs (hrowq.trimmed) (A47.get 0 rfl) (fun o h9 => Nat.not_lt.2 (A47.own_ge 0 rfl) (hX _ _ h9)), canon_trimmed _, by rw [val_trimmed]; exact he1⟩, ⟨_, _, _, rfl, lr, ((hr.mono y47)).mono A47.le, hcanr, he2⟩⟩
end Go.Proofs.YtdfmdiakjdggbaaGreatDoor
namespace Go.Proofs.YtdfmdiakjdggbaaGreatDoor
open Go Go.Gv Go.RowKit
set_option maxRecDepth 100000
set_option maxHeartbeats 1000000
theorem div5_c (w : World) (X : Hid) (hX : ∀ k o, X k o → k < w.heap.size) (ad : Option Addr) (len cap : Nat) (l : List Nat) (h : Limbs (rd w X) ad len cap l) (ad2 : Option Addr) (len2 cap2 : Nat) (l2 : List Nat) (h2 : Limbs (rd w X) ad2 len2 cap2 l2) (hm : len ≤ 100000) (hm2 : len2 ≤ 100000) (hc1 : Canon l) (hc2 : Canon l2) (hd : 0 < val l2)  : Calls Tryz.prog 175 #[.slice ad len cap, .slice ad2 len2 cap2] w (Ret E0 w fun w' v => ∃ u u2, v = .tuple #[u, u2] ∧ NatX X w' u (val l / val l2) ∧ NatX X w' u2 (val l % val l2)) := by
  rcases Nat.lt_or_ge l.length l2.length with h9 | h9
  · exact div5_lo w X hX ad len cap l h ad2 len2 cap2 l2 h2 hm hm2 hc1 hc2 hd h9
  · exact div5_hi w X hX ad len cap l h ad2 len2 cap2 l2 h2 hm hm2 hc1 hc2 hd (l.length + 1 - l2.length) (by omega) (by omega)
theorem canon_mod {x lr l2 : List Nat} (hc : Canon lr) (h2 : ∀ y ∈ l2, y < 4294967296) (h0 : 0 < val l2) (h : val lr = val x % val l2) : lr.length ≤ l2.length := canon_len h2 hc (by rw [h]; exact Nat.le_of_lt (Nat.mod_lt _ h0))
theorem canon_pos {l : List Nat} (hc : Canon l) (h : 0 < l.length) : 0 < val l := by
  have := canon_len0 hc
  omega
theorem gcd5_c (w : World) (X : Hid) (hX : ∀ k o, X k o → k < w.heap.size) (ad : Option Addr) (len cap : Nat) (l : List Nat) (h : Limbs (rd w X) ad len cap l) (ad2 : Option Addr) (len2 cap2 : Nat) (l2 : List Nat) (h2 : Limbs (rd w X) ad2 len2 cap2 l2) (hm : len ≤ 100000) (hm2 : len2 ≤ 100000) (hc1 : Canon l) (hc2 : Canon l2) : Calls Tryz.prog 150 #[.slice ad len cap, .slice ad2 len2 cap2] w (Ret E0 w fun w' v => NatX X w' v (Nat.gcd (val l) (val l2))) := by
 obtain rfl := h.hlen
 obtain rfl := h2.hlen
 have hcap := h.hcap
 have hbig := h.hbig
 have hcap2 := h2.hcap
 have hbig2 := h2.hbig
 refine zen Tryz.func150 ?_
 have A0 : St E0 w X w X [] := St.start hX
 refine zz 7 ?_
 refine zlp Tryz.f150 [] [1, 0, 0] (fun ((lb, ad8, la, cap8, ad9, cap9) : List Nat × (Option Addr) × (List Nat) × Nat × (Option Addr) × Nat) => [(0, .slice ad8 la.length cap8), (1, .slice ad9 lb.length cap9)]) (fun ((lb, ad8, la, cap8, ad9, cap9) : List Nat × (Option Addr) × (List Nat) × Nat × (Option Addr) × Nat) w1 => ∃ (Y1 : Hid), St E0 w X w1 Y1 [] ∧ Le (rd w X) (rd w1 Y1) ∧ (Limbs (rd w1 Y1) ad8 la.length cap8 la) ∧ (Limbs (rd w1 Y1) ad9 lb.length cap9 lb) ∧ (Canon la) ∧ (Canon lb) ∧ (la.length ≤ 100000) ∧ (lb.length ≤ 100000) ∧ (Nat.gcd (val la) (val lb) = Nat.gcd (val l) (val l2))) (fun ((lb, ad8, la, cap8, ad9, cap9) : List Nat × (Option Addr) × (List Nat) × Nat × (Option Addr) × Nat) => val lb) (l2, ad, l, cap, ad2, cap2) ?_ ?_
 ·
  refine ⟨_, A0, Le.refl _, h, h2, hc1, hc2, hm, hm2, rfl⟩
 rintro ⟨lb, ad8, la, cap8, ad9, cap9⟩ w2 K2 V2 ⟨Y2, A2, y2, hp2_0, hp2_1, hp2_2, hp2_3, hp2_4, hp2_5, hp2_6⟩
 have ha := hp2_0
 have hb := hp2_1
 have hca := hp2_2
 have hcb := hp2_3
 have hla := hp2_4
 have hlb := hp2_5
 have hg := hp2_6
 refine zz 8 ?_
 refine zt 9 (p := (lb.length : Int) > 0) (fun ht3 => ?_) (fun ht3 => ?_)
 ·
  have hpos := canon_pos hcb (by omega)
  refine zz 8 ?_
  refine zc A2 (div5_c _ _ A2.lt _ _ _ la ha _ _ _ lb hb (by first | omega | (simp; done) | (simp; omega)) (by first | omega | (simp; done) | (simp; omega)) hca hcb hpos) ?_
  rintro v5 w5 A5 y5 hu5 ⟨_, _, rfl, ⟨ad5, len5, cap5, rfl, ls5, hL5, hcan5, hval5⟩, ⟨ae5, le5, ce5, rfl, lr5, hM5, hcam5, hvam5⟩⟩
  obtain rfl := hL5.hlen
  obtain rfl := hM5.hlen
  refine zz 14 ?_
  have hmod := canon_mod hcam5 hb.hlt hpos hvam5
  have hml := Nat.mod_lt (val la) hpos
  refine znext (fun a h => V2 ((lr5, ad9, lb, cap9, ae5, ce5)) _ a h ⟨_, A5, (Le2 y2 y5), (hb.mono y5), hM5, hcb, hcam5, hlb, by omega, by rw [hvam5, ← hg]; exact (Nat.gcd_comm _ _).trans ((Nat.gcd_rec (val lb) (val la)).symm.trans (Nat.gcd_comm _ _))⟩ ?_)
  first | omega | (simp <;> omega)
 have hz : val lb = 0 := by rw [List.eq_nil_of_length_eq_zero (l := lb) (by omega)]; rfl
 rw [hz, Nat.gcd_zero_right] at hg
 refine zz 9 ?_
 refine zop (at1 [K2] Tryz.f150 [1, 1, 0]) 1 (fun a6 _ G6 hz6 => op_nilL (e := 214) (i0 := Tryz.t214) G6 A2 ha (by first | omega | (simp; omega)) ?_)
 intro ad7 cap7 w7 A7 y7 hL7 a8 G8
 refine hz6 G8 ?_
 refine zz 4 ?_
 refine zr' (v := .slice ad7 la.length cap7) ?_
 exact ⟨A7.upd, _, rfl, _, _, _, rfl, _, (hL7).mono A7.le, hca, hg⟩
end Go.Proofs.YtdfmdiakjdggbaaGreatDoor
namespace Go.Proofs.YtdfmdiakjdggbaaGreatDoor
open Go Go.Gv Go.RowKit
set_option maxRecDepth 100000
set_option maxHeartbeats 1000000
theorem one6_c (w : World) (X : Hid) (hX : ∀ k o, X k o → k < w.heap.size) : Calls Tryz.prog 104 #[] w (Ret E0 w fun w' v => ∃ ad cap, v = .slice ad 1 cap ∧ Limbs (rd w' X) ad 1 cap [1]) := by
 refine zen Tryz.func104 ?_
 have A0 : St E0 w X w X [] := St.start hX
 refine zz 7 ?_
 refine zn (fun b => .slice (some ⟨b, 0, none⟩) 1 1) (.cells #[.int .u32 1] 214 (0, 0)) A0 ?_
 intro b3 w3 Y3 A3 y3 hu3
 refine zz 4 ?_
 refine zr' (v := .slice (some ⟨b3, 0, none⟩) 1 1) ?_
 have hrow4 : URow 1 1 #[.int .u32 1] [1] := URow.of [1] (by simp) (by simp [maxLen]) (by simp [U32]) (by simp)
 exact ⟨A3.upd, _, rfl, _, _, rfl, URow.limbs hrow4 (A3.get 0 rfl) (fun o h9 => Nat.not_lt.2 (A3.own_ge 0 rfl) (hX _ _ h9))⟩
theorem canon_one : Canon [1] := .inr (by decide)
end Go.Proofs.YtdfmdiakjdggbaaGreatDoor
namespace Go.Proofs.YtdfmdiakjdggbaaGreatDoor
open Go Go.Gv Go.RowKit
set_option maxRecDepth 100000
set_option maxHeartbeats 1000000
theorem one_iff {l : List Nat} (hl : ∀ x ∈ l, x < 4294967296) (hc : Canon l) : l = [1] ↔ val l = 1 :=
  ⟨fun h => by rw [h]; rfl, fun h => canon_inj hl (by intro x hx; simp at hx; omega) hc canon_one (h.trans rfl)⟩
theorem mk6_c (w : World) (X : Hid) (hX : ∀ k o, X k o → k < w.heap.size) (ad : Option Addr) (len cap : Nat) (l : List Nat) (h : Limbs (rd w X) ad len cap l) (ad2 : Option Addr) (len2 cap2 : Nat) (l2 : List Nat) (h2 : Limbs (rd w X) ad2 len2 cap2 l2) (sg : Bool) (hm : len ≤ 100000) (hm2 : len2 ≤ 100000) (hc1 : Canon l) (hc2 : Canon l2) (hd : 0 < val l2) : Calls Tryz.prog 102 #[.bool sg, .slice ad len cap, .slice ad2 len2 cap2] w (Ret E0 w fun w' v => RatX X w' v (mkRat (sgn sg (val l)) (val l2))) := by
 obtain rfl := h.hlen
 obtain rfl := h2.hlen
 have hcap := h.hcap
 have hbig := h.hbig
 have hcap2 := h2.hcap
 have hbig2 := h2.hbig
 refine zen Tryz.func102 ?_
 have A0 : St E0 w X w X [] := St.start hX
 refine zz 2 ?_
 refine zn pn (.cells #[.bool false, .slice none 0 0, .slice none 0 0] 28 (0, 0)) A0 ?_
 intro b3 w3 Y3 A3 y3 hu3
 refine zz 10 ?_
 refine zb 10 (b := ((l.length : Int) == 0)) (fun hc4 => ?_) (fun hc4 => ?_)
 ·
  have ht5 : (l.length : Int) = 0 := by simpa using hc4
  refine zz 4 ?_
  refine zx 0 #[.bool false, .slice none 0 0, .slice none 0 0] A3 ?_
  intro w6 A6 y6
  refine zz 4 ?_
  refine zrS [.cell 6 28] (v := .agg #[.bool false, .slice none 0 0, .slice none 0 0]) (Res.cM A6 0 Res.nil) ?_
  exact ⟨A6.upd, _, rfl, by rw [(canon_len0 hc1).1 (by omega)]; exact zero_rat _⟩
 have ht7 : (l.length : Int) ≠ 0 := by simpa using hc4
 refine zz 7 ?_
 refine zc A3 (gcd5_c _ _ A3.lt _ _ _ l (h.mono y3) _ _ _ l2 (h2.mono y3) (by first | omega | (simp; done) | (simp; omega)) (by first | omega | (simp; done) | (simp; omega)) hc1 hc2) ?_
 rintro v9 w9 A9 y9 hu9 ⟨ad9, len9, cap9, rfl, ls9, hL9, hcan9, hval9⟩
 obtain rfl := hL9.hlen
 have hgp : 0 < val ls9 := by rw [hval9]; exact Nat.gcd_pos_of_pos_right _ hd
 have hgl := canon_len h2.hlt hcan9 (by rw [hval9]; exact Nat.gcd_le_right _ hd)
 refine zz 7 ?_
 refine zc A9 (div5_c _ _ A9.lt _ _ _ l (h.mono (Le2 y3 y9)) _ _ _ ls9 hL9 (by first | omega | (simp; done) | (simp; omega)) (by first | omega | (simp; done) | (simp; omega)) hc1 hcan9 hgp) ?_
 rintro v11 w11 A11 y11 hu11 ⟨_, _, rfl, ⟨ad11, len11, cap11, rfl, ls11, hL11, hcan11, hval11⟩, ⟨ae11, le11, ce11, rfl, lr11, hM11, hcam11, hvam11⟩⟩
 obtain rfl := hL11.hlen
 obtain rfl := hM11.hlen
 have hql11 := canon_pow hcan11 (k := 100000) (Nat.lt_of_le_of_lt (hval11 ▸ Nat.div_le_self _ _) ((canon_le_iff h.hlt hc1 100000).1 (by omega)))
 refine zz 10 ?_
 refine zc A11 (div5_c _ _ A11.lt _ _ _ l2 (h2.mono (Le3 y3 y9 y11)) _ _ _ ls9 (hL9.mono y11) (by first | omega | (simp; done) | (simp; omega)) (by first | omega | (simp; done) | (simp; omega)) hc2 hcan9 hgp) ?_
 rintro v13 w13 A13 y13 hu13 ⟨_, _, rfl, ⟨ad13, len13, cap13, rfl, ls13, hL13, hcan13, hval13⟩, ⟨ae13, le13, ce13, rfl, lr13, hM13, hcam13, hvam13⟩⟩
 obtain rfl := hL13.hlen
 obtain rfl := hM13.hlen
 have hql13 := canon_pow hcan13 (k := 100000) (Nat.lt_of_le_of_lt (hval13 ▸ Nat.div_le_self _ _) ((canon_le_iff h2.hlt hc2 100000).1 (by omega)))
 refine zz 10 ?_
 refine zc A13 (one6_c _ _ A13.lt) ?_
 rintro v15 w15 A15 y15 hu15 ⟨ad15, cap15, rfl, hL15⟩
 refine zc A15 (EqualNat_c _ _ A15.lt _ _ _ _ (hL13.mono y15) _ _ _ _ hL15) ?_
 rintro v17 w17 A17 y17 hu17 rfl
 refine zz 2 ?_
 refine zb 29 (b := (decide (ls13 = [1]))) (fun hc18 => ?_) (fun hc18 => ?_)
 ·
  have ht19 : ls13 = [1] := of_decide_eq_true hc18
  refine zz 11 ?_
  refine zx 0 #[.bool sg, .slice ad11 ls11.length cap11, .slice none 0 0] A17 ?_
  intro w20 A20 y20
  refine zz 3 ?_
  refine zrS [.cell 6 28] (v := .agg #[.bool sg, .slice ad11 ls11.length cap11, .slice none 0 0]) (Res.cM A20 0 Res.nil) ?_
  have hn0 : val l ≠ 0 := fun e => ht7 (by have := (canon_len0 hc1).2 e; omega)
  have hc1_ := (Le3 y13 y15 y17).trans y20
  exact ⟨A20.upd, _, rfl, low_rat hn0 hd ⟨ls11, ((hL11.mono hc1_)).mono A20.le, hcan11, by rw [← hval9]; exact hval11⟩ (by rw [← hval9, ← hval13, (one_iff hL13.hlt hcan13).1 (by simpa using ht19)]; exact NatR.nil none (by omega))⟩
 have ht21 : ¬ (ls13 = [1]) := of_decide_eq_false hc18
 refine zz 9 ?_
 refine zx 0 #[.bool sg, .slice ad11 ls11.length cap11, .slice ad13 ls13.length cap13] A17 ?_
 intro w22 A22 y22
 refine zz 3 ?_
 refine zrS [.cell 6 28] (v := .agg #[.bool sg, .slice ad11 ls11.length cap11, .slice ad13 ls13.length cap13]) (Res.cM A22 0 Res.nil) ?_
 have hn0 : val l ≠ 0 := fun e => ht7 (by have := (canon_len0 hc1).2 e; omega)
 have hc2_ := (Le3 y13 y15 y17).trans y22
 exact ⟨A22.upd, _, rfl, low_rat hn0 hd ⟨ls11, ((hL11.mono hc2_)).mono A22.le, hcan11, by rw [← hval9]; exact hval11⟩ (by rw [← hval9, ← hval13, den1, if_neg (fun e => by have := (one_iff hL13.hlt hcan13).2 e; simp [this] at ht21)]; exact ⟨ls13, ((hL13.mono (Le3 y15 y17 y22))).mono A22.le, hcan13, rfl⟩)⟩
end Go.Proofs.YtdfmdiakjdggbaaGreatDoor
namespace Go.Proofs.YtdfmdiakjdggbaaGreatDoor
open Go Go.Gv Go.RowKit
set_option maxRecDepth 100000
set_option maxHeartbeats 1000000
theorem rcheck6_c (w : World) (X : Hid) (hX : ∀ k o, X k o → k < w.heap.size) (a : Raw) (ad : Option Addr) (len cap : Nat) (h : Limbs (rd w X) ad len cap a.ln) (ad2 : Option Addr) (len2 cap2 : Nat) (h2 : Limbs (rd w X) ad2 len2 cap2 a.ld) : Calls Tryz.prog 73 #[.agg #[.bool a.neg, .slice ad len cap, .slice ad2 len2 cap2]] w (Ret E0 w fun _ v => v = .int .i64 a.chk) := by
 obtain rfl := h.hlen
 obtain rfl := h2.hlen
 have hcap := h.hcap
 have hbig := h.hbig
 have hcap2 := h2.hcap
 have hbig2 := h2.hbig
 refine zen Tryz.func73 ?_
 have A0 : St E0 w X w X [] := St.start hX
 refine zz 2 ?_
 refine zn pn (.cells #[.bool a.neg, .slice ad a.ln.length cap, .slice ad2 a.ld.length cap2] 28 (0, 0)) A0 ?_
 intro b3 w3 Y3 A3 y3 hu3
 refine zz 7 ?_
 refine zo 0 A3 ?_
 refine zz 3 ?_
 refine zt 7 (p := (a.ln.length : Int) > 128) (fun ht4 => ?_) (fun ht4 => ?_)
 ·
  refine zz 15 ?_
  refine zr' (v := .int .i64 4) ?_
  exact ⟨A3.upd, _, rfl, vint (chk_4 (by omega)).symm⟩
 refine zz 1 ?_
 refine zo 0 A3 ?_
 refine zz 5 ?_
 refine zt 12 (p := (a.ld.length : Int) > 128) (fun ht5 => ?_) (fun ht5 => ?_)
 ·
  refine zz 8 ?_
  refine zr' (v := .int .i64 4) ?_
  exact ⟨A3.upd, _, rfl, vint (chk_4 (by omega)).symm⟩
 have hlong : ¬ (128 < a.ln.length ∨ 128 < a.ld.length) := by omega
 refine zz 7 ?_
 refine zo 0 A3 ?_
 refine zc A3 (check5_c _ X0 (X0_lt _) _ _ _ a.ln ((h.mono y3).mono Le.x0)) ?_
 rintro v7 w7 A7 y7 hu7 rfl
 refine zz 2 ?_
 refine zb 17 (b := ((chkN a.ln) != 0)) (fun hc8 => ?_) (fun hc8 => ?_)
 ·
  have ht9 : (chkN a.ln) ≠ 0 := by simpa using hc8
  refine zz 15 ?_
  refine zr' (v := .int .i64 2) ?_
  exact ⟨A7.upd, _, rfl, vint (chk_2 hlong (.inl (by simpa using ht9))).symm⟩
 have ht10 : (chkN a.ln) = 0 := by simpa using hc8
 have cn : chkN a.ln = 0 := by simpa using ht10
 have hcn := (chkN_ok cn).2
 have hzn := canon_len0 hcn
 refine zz 1 ?_
 refine zo 0 A7 ?_
 refine zc A7 (check5_c _ X0 (X0_lt _) _ _ _ a.ld ((h2.mono (Le2 y3 y7)).mono Le.x0)) ?_
 rintro v12 w12 A12 y12 hu12 rfl
 refine zz 4 ?_
 refine zb 22 (b := ((chkN a.ld) != 0)) (fun hc13 => ?_) (fun hc13 => ?_)
 ·
  have ht14 : (chkN a.ld) ≠ 0 := by simpa using hc13
  refine zz 8 ?_
  refine zr' (v := .int .i64 2) ?_
  exact ⟨A12.upd, _, rfl, vint (chk_2 hlong (.inr (.inl (by simpa using ht14)))).symm⟩
 have ht15 : (chkN a.ld) = 0 := by simpa using hc13
 have cd : chkN a.ld = 0 := by simpa using ht15
 have hcd := (chkN_ok cd).2
 have hzd := canon_len0 hcd
 refine zz 5 ?_
 refine zdr A12 ?_
 refine gz [0] ?_
 refine gw 1 0 ?_
 refine gz [2, 3, 4] ?_
 refine gb 27 (b := ((a.ln.length : Int) == 0)) (fun hc16 => ?_) (fun hc16 => ?_)
 ·
  have ht17 : (a.ln.length : Int) = 0 := by simpa using hc16
  refine gz [5] ?_
  refine gw 6 0 ?_
  refine gz [7] ?_
  refine gb 30 (b := a.neg) (fun hc18 => ?_) (fun hc18 => ?_)
  ·
   have ht19 : a.neg = true := by simpa using hc18
   have un : a.neg = true := by simpa using ht19
   refine gz [8, 9, 10, 11, 12, 13, 14, 15, 16, 17, 18, 19] ?_
   refine gend (fun w20 Y20 A20 y20 => ?_)
   refine zz 9 ?_
   refine zr' (v := .int .i64 2) ?_
   exact ⟨A20.upd, _, rfl, vint (chk_2 hlong (.inr (.inr (.inr ⟨by omega, .inl un⟩)))).symm⟩
  have ht21 : a.neg = false := by simpa using hc18
  have un : a.neg = false := by simpa using ht21
  refine gz [8] ?_
  refine gw 9 0 ?_
  refine gz [10, 11, 12, 13, 14] ?_
  refine gt 37 (p := (a.ld.length : Int) > 0) (fun ht22 => ?_) (fun ht22 => ?_)
  ·
   refine gz [15, 16, 17, 18, 19] ?_
   refine gend (fun w23 Y23 A23 y23 => ?_)
   refine zz 9 ?_
   refine zr' (v := .int .i64 2) ?_
   exact ⟨A23.upd, _, rfl, vint (chk_2 hlong (.inr (.inr (.inr ⟨by omega, .inr (by omega)⟩)))).symm⟩
  refine gz [15] ?_
  refine gw 16 0 ?_
  refine gC 17 (fun w24 Y24 _ A24 y24 => (one6_c _ _ A24.lt)) ?_
  rintro v25 w24 Y25 w25 A24 y25 ⟨ad25, cap25, rfl, hL25⟩
  have hc1_ := (Le3 y3 y7 y12).trans y25
  refine gC 18 (fun w26 Y26 _ A26 y26 => (EqualNat_c _ _ A26.lt _ _ _ _ (h2.mono (hc1_.trans y26)) _ _ _ _ (hL25.mono y26))) ?_
  rintro v27 w26 Y27 w27 A26 y27 rfl
  refine gz [19] ?_
  refine gend (fun w28 Y28 A28 y28 => ?_)
  refine zz 1 ?_
  refine zb 42 (b := (decide (a.ld = [1]))) (fun hc29 => ?_) (fun hc29 => ?_)
  ·
   have ht30 : a.ld = [1] := of_decide_eq_true hc29
   have u1 : val a.ld = 1 := (one_iff h2.hlt hcd).1 (by simpa using ht30)
   refine zz 8 ?_
   refine zr' (v := .int .i64 2) ?_
   exact ⟨A28.upd, _, rfl, vint (chk_2 hlong (.inr (.inr (.inl u1)))).symm⟩
  have ht31 : ¬ (a.ld = [1]) := of_decide_eq_false hc29
  have u1 : val a.ld ≠ 1 := fun e => absurd ((one_iff h2.hlt hcd).2 e) (by simpa using ht31)
  have hok : ¬ (chkN a.ln ≠ 0 ∨ chkN a.ld ≠ 0 ∨ val a.ld = 1 ∨ (val a.ln = 0 ∧ (a.neg = true ∨ 0 < val a.ld))) := by rintro (e | e | e | ⟨e, e2 | e2⟩); exact e cn; exact e cd; exact u1 e; (first | omega | (rw [un] at e2; cases e2)); omega
  refine zz 7 ?_
  refine zo 0 A28 ?_
  refine zz 3 ?_
  refine zt 47 (p := (a.ld.length : Int) > 0) (fun ht32 => ?_) (fun ht32 => ?_)
  ·
   have hdp : 0 < val a.ld := by omega
   refine zz 1 ?_
   refine zo 0 A28 ?_
   refine zz 1 ?_
   refine zo 0 A28 ?_
   have hc2_ := (hc1_.trans y27).trans y28
   refine zc A28 (gcd5_c _ _ A28.lt _ _ _ a.ln (h.mono hc2_) _ _ _ a.ld (h2.mono hc2_) (by first | omega | (simp; done) | (simp; omega)) (by first | omega | (simp; done) | (simp; omega)) hcn hcd) ?_
   rintro v34 w34 A34 y34 hu34 ⟨ad34, len34, cap34, rfl, ls34, hL34, hcan34, hval34⟩
   obtain rfl := hL34.hlen
   refine zc A34 (one6_c _ _ A34.lt) ?_
   rintro v36 w36 A36 y36 hu36 ⟨ad36, cap36, rfl, hL36⟩
   refine zc A36 (EqualNat_c _ _ A36.lt _ _ _ _ (hL34.mono y36) _ _ _ _ hL36) ?_
   rintro v38 w38 A38 y38 hu38 rfl
   refine zz 4 ?_
   refine zb 56 (b := !(decide (ls34 = [1]))) (fun hc39 => ?_) (fun hc39 => ?_)
   ·
    have ht40 : ¬ (ls34 = [1]) := by simpa using hc39
    have ug : Nat.gcd (val a.ln) (val a.ld) ≠ 1 := by rw [← hval34]; exact fun e => absurd ((one_iff hL34.hlt hcan34).2 e) (by simpa using ht40)
    refine zz 8 ?_
    refine zr' (v := .int .i64 2) ?_
    exact ⟨A38.upd, _, rfl, vint (chk_g hlong hok ⟨by omega, ug⟩).symm⟩
   have ht41 : ls34 = [1] := by simpa using hc39
   have ug : Nat.gcd (val a.ln) (val a.ld) = 1 := by rw [← hval34]; exact (one_iff hL34.hlt hcan34).1 (by simpa using ht41)
   refine zz 9 ?_
   refine zr' (v := .int .i64 0) ?_
   exact ⟨A38.upd, _, rfl, vint (chk_0 hlong hok (fun hh => hh.2 ug)).symm⟩
  refine zz 20 ?_
  refine zr' (v := .int .i64 0) ?_
  exact ⟨A28.upd, _, rfl, vint (chk_0 hlong hok (fun hh => by omega)).symm⟩
 have ht42 : (a.ln.length : Int) ≠ 0 := by simpa using hc16
 refine gz [5, 6, 7, 8, 9, 10, 11, 12, 13, 14, 15] ?_
 refine gw 16 0 ?_
 refine gC 17 (fun w43 Y43 _ A43 y43 => (one6_c _ _ A43.lt)) ?_
 rintro v44 w43 Y44 w44 A43 y44 ⟨ad44, cap44, rfl, hL44⟩
 have hc3_ := (Le3 y3 y7 y12).trans y44
 refine gC 18 (fun w45 Y45 _ A45 y45 => (EqualNat_c _ _ A45.lt _ _ _ _ (h2.mono (hc3_.trans y45)) _ _ _ _ (hL44.mono y45))) ?_
 rintro v46 w45 Y46 w46 A45 y46 rfl
 refine gz [19] ?_
 refine gend (fun w47 Y47 A47 y47 => ?_)
 refine zz 1 ?_
 refine zb 42 (b := (decide (a.ld = [1]))) (fun hc48 => ?_) (fun hc48 => ?_)
 ·
  have ht49 : a.ld = [1] := of_decide_eq_true hc48
  have u1 : val a.ld = 1 := (one_iff h2.hlt hcd).1 (by simpa using ht49)
  refine zz 8 ?_
  refine zr' (v := .int .i64 2) ?_
  exact ⟨A47.upd, _, rfl, vint (chk_2 hlong (.inr (.inr (.inl u1)))).symm⟩
 have ht50 : ¬ (a.ld = [1]) := of_decide_eq_false hc48
 have u1 : val a.ld ≠ 1 := fun e => absurd ((one_iff h2.hlt hcd).2 e) (by simpa using ht50)
 have hok : ¬ (chkN a.ln ≠ 0 ∨ chkN a.ld ≠ 0 ∨ val a.ld = 1 ∨ (val a.ln = 0 ∧ (a.neg = true ∨ 0 < val a.ld))) := by rintro (e | e | e | ⟨e, e2 | e2⟩); exact e cn; exact e cd; exact u1 e; (first | omega | (rw [un] at e2; cases e2)); omega
 refine zz 7 ?_
 refine zo 0 A47 ?_
 refine zz 3 ?_
 refine zt 47 (p := (a.ld.length : Int) > 0) (fun ht51 => ?_) (fun ht51 => ?_)
 ·
  have hdp : 0 < val a.ld := by omega
  refine zz 1 ?_
  refine zo 0 A47 ?_
  refine zz 1 ?_
  refine zo 0 A47 ?_
  have hc4_ := (hc3_.trans y46).trans y47
  refine zc A47 (gcd5_c _ _ A47.lt _ _ _ a.ln (h.mono hc4_) _ _ _ a.ld (h2.mono hc4_) (by first | omega | (simp; done) | (simp; omega)) (by first | omega | (simp; done) | (simp; omega)) hcn hcd) ?_
  rintro v53 w53 A53 y53 hu53 ⟨ad53, len53, cap53, rfl, ls53, hL53, hcan53, hval53⟩
  obtain rfl := hL53.hlen
  refine zc A53 (one6_c _ _ A53.lt) ?_
  rintro v55 w55 A55 y55 hu55 ⟨ad55, cap55, rfl, hL55⟩
  refine zc A55 (EqualNat_c _ _ A55.lt _ _ _ _ (hL53.mono y55) _ _ _ _ hL55) ?_
  rintro v57 w57 A57 y57 hu57 rfl
  refine zz 4 ?_
  refine zb 56 (b := !(decide (ls53 = [1]))) (fun hc58 => ?_) (fun hc58 => ?_)
  ·
   have ht59 : ¬ (ls53 = [1]) := by simpa using hc58
   have ug : Nat.gcd (val a.ln) (val a.ld) ≠ 1 := by rw [← hval53]; exact fun e => absurd ((one_iff hL53.hlt hcan53).2 e) (by simpa using ht59)
   refine zz 8 ?_
   refine zr' (v := .int .i64 2) ?_
   exact ⟨A57.upd, _, rfl, vint (chk_g hlong hok ⟨by omega, ug⟩).symm⟩
  have ht60 : ls53 = [1] := by simpa using hc58
  have ug : Nat.gcd (val a.ln) (val a.ld) = 1 := by rw [← hval53]; exact (one_iff hL53.hlt hcan53).1 (by simpa using ht60)
  refine zz 9 ?_
  refine zr' (v := .int .i64 0) ?_
  exact ⟨A57.upd, _, rfl, vint (chk_0 hlong hok (fun hh => hh.2 ug)).symm⟩
 refine zz 20 ?_
 refine zr' (v := .int .i64 0) ?_
 exact ⟨A47.upd, _, rfl, vint (chk_0 hlong hok (fun hh => by omega)).symm⟩
end Go.Proofs.YtdfmdiakjdggbaaGreatDoor
namespace Go.Proofs.YtdfmdiakjdggbaaGreatDoor
open Go Go.Gv Go.RowKit
set_option maxRecDepth 100000
set_option maxHeartbeats 1000000
theorem mk6_r (w : World) (X : Hid) (hX : ∀ k o, X k o → k < w.heap.size) (ad : Option Addr) (len cap : Nat) (l : List Nat) (h : Limbs (rd w X) ad len cap l) (ad2 : Option Addr) (len2 cap2 : Nat) (l2 : List Nat) (h2 : Limbs (rd w X) ad2 len2 cap2 l2) (sg : Bool) (hm : len ≤ 100000) (hm2 : len2 ≤ 100000) (hc1 : Canon l) (hc2 : Canon l2) (hd : 0 < val l2) (z : Rat) (hz : mkRat (sgn sg (val l)) (val l2) = z) : Calls Tryz.prog 102 #[.bool sg, .slice ad len cap, .slice ad2 len2 cap2] w (Ret E0 w fun w' v => RatX X w' v z) := by
  subst hz; exact mk6_c w X hX ad len cap l h ad2 len2 cap2 l2 h2 sg hm hm2 hc1 hc2 hd
end Go.Proofs.YtdfmdiakjdggbaaGreatDoor
namespace Go.Proofs.YtdfmdiakjdggbaaGreatDoor
open Go Go.Gv Go.RowKit
set_option maxRecDepth 100000
set_option maxHeartbeats 1000000
theorem ratE_fits {z : Rat} (h : z.num.natAbs < K128 ∧ den1 z.den < K128) : ratE z = 0 := if_pos h
end Go.Proofs.YtdfmdiakjdggbaaGreatDoor
namespace Go.Proofs.YtdfmdiakjdggbaaGreatDoor
open Go Go.Gv Go.RowKit
set_option maxRecDepth 100000
set_option maxHeartbeats 1000000
/-- A number as an operation answers it. -/
def Nf (r : Raw) : Prop := r = .of r.rat ∧ ratE r.rat = 0
theorem Nf.zero : Nf .zero := by
  unfold Nf; rw [zero_rat0]; exact ⟨by decide, ratE_fits ⟨Nat.pow_pos (by omega), by show 0 < _; exact Nat.pow_pos (by omega)⟩⟩
theorem Nf.op {a b : Raw} {z : Rat} (h : opE a b z = 0) : Nf (opR a b z) := by
  have h1 : opR a b z = .of z := if_pos h
  rw [h1, Nf, Raw.of_rat]; exact ⟨rfl, (or2_zero h).2⟩
theorem Nf.chk {r : Raw} (h : Nf r) : r.chk = 0 := by rw [h.1]; exact Raw.of_chk h.2
section
variable {r x y : Raw} {xs ys : List Raw} {k : Nat}
end
theorem int6 (n : Int) : mkRat (sgn (decide (n < 0)) n.natAbs) 1 = (n : Rat) := by rw [sgn_num]; first | exact Rat.mkRat_one _ | simp [Rat.mkRat_one] | (rw [Rat.mkRat_eq_div]; simp)
theorem nat6_c (w : World) (X : Hid) (hX : ∀ k o, X k o → k < w.heap.size) (n : Int) (h1 : -9223372036854775808 ≤ n) (h2 : n ≤ 9223372036854775807) : Calls Tryz.prog 103 #[.int .i64 n] w (Ret E0 w fun w' v => NatX X w' v n.natAbs) := by
 refine zen Tryz.func103 ?_
 have A0 : St E0 w X w X [] := St.start hX
 refine zz 12 ?_
 refine zt 4 (p := (n) < 0) (fun ht2 => ?_) (fun ht2 => ?_)
 ·
  refine zz 5 ?_
  refine zs 6 (v := .int .u64 (IntKind.u64.wrap (n))) (v' := .int .u64 (n + 18446744073709551616)) (vint (by rw [wrap_u64]; omega)) ?_
  refine zz 1 ?_
  refine zs 7 (v := .int .u64 (IntKind.u64.wrap ((0 : Int) - (n + 18446744073709551616)))) (v' := .int .u64 ((n.natAbs : Nat) : Int)) (vint (by rw [wrap_u64]; omega)) ?_
  refine zc A0 (from5_c _ _ A0.lt n.natAbs (by omega)) ?_
  rintro v4 w4 A4 y4 hu4 ⟨ad4, len4, cap4, rfl, hN4⟩
  refine zz 5 ?_
  refine zr' (v := .slice ad4 len4 cap4) ?_
  exact ⟨A4.upd, _, rfl, A4.lastN hN4⟩
 refine zz 7 ?_
 refine zs 10 (v := .int .u64 (IntKind.u64.wrap (n))) (v' := .int .u64 ((n.natAbs : Nat) : Int)) (vint (by rw [wrap_u64]; omega)) ?_
 refine zc A0 (from5_c _ _ A0.lt n.natAbs (by omega)) ?_
 rintro v6 w6 A6 y6 hu6 ⟨ad6, len6, cap6, rfl, hN6⟩
 refine zz 4 ?_
 refine zr' (v := .slice ad6 len6 cap6) ?_
 exact ⟨A6.upd, _, rfl, A6.lastN hN6⟩
theorem rFrom6_c (w : World) (X : Hid) (hX : ∀ k o, X k o → k < w.heap.size) (n : Int) (h1 : -9223372036854775808 ≤ n) (h2 : n ≤ 9223372036854775807) : Calls Tryz.prog 51 #[.int .i64 n] w (Ret E0 w fun w' v => RawX X w' v (.of (n : Rat))) := by
 refine zen Tryz.func51 ?_
 have A0 : St E0 w X w X [] := St.start hX
 refine zz 2 ?_
 refine zn pn (.cells #[.bool false, .slice none 0 0, .slice none 0 0] 28 (0, 0)) A0 ?_
 intro b3 w3 Y3 A3 y3 hu3
 refine zz 7 ?_
 refine zc A3 (nat6_c _ _ A3.lt n (by omega) (by omega)) ?_
 rintro v5 w5 A5 y5 hu5 ⟨ad5, len5, cap5, rfl, ls5, hL5, hcan5, hval5⟩
 obtain rfl := hL5.hlen
 have hsh5 : ls5.length ≤ 100000 := by have := canon_pow hcan5 (k := 3) (by rw [hval5]; exact Nat.lt_of_lt_of_le (show _ < 18446744073709551616 by omega) (by decide)); omega
 refine zc A5 (one6_c _ _ A5.lt) ?_
 rintro v7 w7 A7 y7 hu7 ⟨ad7, cap7, rfl, hL7⟩
 refine zc A7 (mk6_r _ _ A7.lt _ _ _ ls5 (hL5.mono y7) _ _ _ ([1]) hL7 _ (by omega) (by simp) hcan5 canon_one (by decide) (n : Rat) (by rw [hval5]; exact int6 n)) ?_
 rintro v9 w9 A9 y9 hu9 ⟨ad9, len9, cap9, ae9, le9, ce9, rfl, hN9, hD9⟩
 refine zx 0 #[.bool (decide ((n : Rat).num < 0)), .slice ad9 len9 cap9, .slice ae9 le9 ce9] A9 ?_
 intro w10 A10 y10
 refine zz 3 ?_
 refine zrS [.cell 2 28] (v := .agg #[.bool (decide ((n : Rat).num < 0)), .slice ad9 len9 cap9, .slice ae9 le9 ce9]) (Res.cM A10 0 Res.nil) ?_
 exact ⟨A10.upd, _, rfl, RatX.raw ⟨_, _, _, _, _, _, rfl, hN9.mono (Le.trans y10 A10.le), hD9.mono (Le.trans y10 A10.le)⟩⟩
theorem rOf6_c (w : World) (X : Hid) (hX : ∀ k o, X k o → k < w.heap.size) (p q : Int) (h1 : -9223372036854775808 ≤ p) (h2 : p ≤ 9223372036854775807) (h3 : -9223372036854775808 ≤ q) (h4 : q ≤ 9223372036854775807) (hq : q ≠ 0) : Calls Tryz.prog 53 #[.int .i64 p, .int .i64 q] w (Ret E0 w fun w' v => ∃ u, v = .tuple #[u, .int .i64 0] ∧ RawX X w' u (.of (mkRat (sgn (decide (p < 0) != decide (q < 0)) p.natAbs) q.natAbs))) := by
 refine zen Tryz.func53 ?_
 have A0 : St E0 w X w X [] := St.start hX
 refine zz 2 ?_
 refine zn pn (.cells #[.bool false, .slice none 0 0, .slice none 0 0] 28 (0, 0)) A0 ?_
 intro b3 w3 Y3 A3 y3 hu3
 refine zz 10 ?_
 refine zb 7 (b := ((q) == 0)) (fun hc4 => ?_) (fun hc4 => ?_)
 ·
  have ht5 : (q) = 0 := by simpa using hc4
  omega
 have ht6 : (q) ≠ 0 := by simpa using hc4
 refine zz 11 ?_
 refine zc A3 (nat6_c _ _ A3.lt p (by omega) (by omega)) ?_
 rintro v8 w8 A8 y8 hu8 ⟨ad8, len8, cap8, rfl, ls8, hL8, hcan8, hval8⟩
 obtain rfl := hL8.hlen
 have hsh8 : ls8.length ≤ 100000 := by have := canon_pow hcan8 (k := 3) (by rw [hval8]; exact Nat.lt_of_lt_of_le (show _ < 18446744073709551616 by omega) (by decide)); omega
 refine zz 1 ?_
 refine zc A8 (nat6_c _ _ A8.lt q (by omega) (by omega)) ?_
 rintro v10 w10 A10 y10 hu10 ⟨ad10, len10, cap10, rfl, ls10, hL10, hcan10, hval10⟩
 obtain rfl := hL10.hlen
 have hsh10 : ls10.length ≤ 100000 := by have := canon_pow hcan10 (k := 3) (by rw [hval10]; exact Nat.lt_of_lt_of_le (show _ < 18446744073709551616 by omega) (by decide)); omega
 refine zc A10 (mk6_r _ _ A10.lt _ _ _ ls8 (hL8.mono y10) _ _ _ ls10 hL10 _ (by omega) (by omega) hcan8 hcan10 (by rw [hval10]; omega) (mkRat (sgn (decide (p < 0) != decide (q < 0)) p.natAbs) q.natAbs) (by rw [hval8, hval10])) ?_
 rintro v12 w12 A12 y12 hu12 ⟨ad12, len12, cap12, ae12, le12, ce12, rfl, hN12, hD12⟩
 refine zx 0 #[.bool (decide ((mkRat (sgn (decide (p < 0) != decide (q < 0)) p.natAbs) q.natAbs).num < 0)), .slice ad12 len12 cap12, .slice ae12 le12 ce12] A12 ?_
 intro w13 A13 y13
 refine zz 4 ?_
 refine zrS [.cell 4 28, .tmp 5] (v := .tuple #[.agg #[.bool (decide ((mkRat (sgn (decide (p < 0) != decide (q < 0)) p.natAbs) q.natAbs).num < 0)), .slice ad12 len12 cap12, .slice ae12 le12 ce12], .int .i64 0]) (Res.cM A13 0 (Res.tZ Res.nil)) ?_
 exact ⟨A13.upd, _, rfl, _, rfl, RatX.raw ⟨_, _, _, _, _, _, rfl, hN12.mono (Le.trans y13 A13.le), hD12.mono (Le.trans y13 A13.le)⟩⟩
end Go.Proofs.YtdfmdiakjdggbaaGreatDoor
/- Programs read by an interpreter whose values are trees: the interpreter. By an AI agent; over any program. -/
namespace Go.Ev
open Go Go.Gv
/-! ### Values -/
/-- u: unknown; v: a value without addresses; sl: a slice of foreign cells, which are read only; sn: one whose cells lie in blocks that are new; st: one whose capacity is its length; fp: a pointer to such; os: a slice of an own object (its number, offset, length, capacity); og: a slice of an own object that has grown (its capacity is not known); op: a pointer into an own object; ag, tu: compounds; fn: a function with what it has captured; fb: a method with its receiver; om: an own map; yl: the yield of a loop. -/
inductive T where
  | u
  | v (x : Value)
  | sl (cs : List T) (n : Nat)
  | sn (cs : List T) (n : Nat)
  | st (cs : List T) (n : Nat)
  | fp (cs : List T)
  | os (i o n c : Nat)
  | og (i o n : Nat)
  | op (i o : Nat)
  | ag (cs : List T)
  | tu (cs : List T)
  | fn (f : Nat) (cs : List T)
  | fb (f : Nat) (bs : List T)
  | om (i : Nat)
  | yl (i : Nat)
/-- An own object: cells; cells with unknown ones behind them; cells that have been shown; a map; a loop; nothing any more. -/
inductive TO where
  | row (cs : List T) (e : TypeId)
  | gro (cs : List T) (e : TypeId)
  | fz (cs : List T)
  | map (l : List (Value × T))
  | loop (L : List T) (ps : List Nat) (a b : Code) (ready : Bool) (pend : Option Code)
  | gone
structure S where
  L : List T
  H : List TO
inductive Ex where
  | n | x (id : Nat) | r | p (t : T)
noncomputable def nth {α : Type} (d : α) (l : List α) : Nat → α := List.rec (fun _ => d) (fun x _ ih n => Nat.rec x (fun m _ => ih m) n) l
noncomputable def put {α : Type} (x : α) (l : List α) : Nat → List α := List.rec (fun _ => []) (fun y l ih n => Nat.rec (x :: l) (fun m _ => y :: ih m) n) l
def ln {α : Type} : List α → Nat
  | [] => 0
  | _ :: l => Nat.succ (ln l)
def sc : Value → Bool
  | .int .. | .bool _ | .string _ | .slice none 0 0 | .pointer none | .map none | .nilFunc | .nilIface | .iface _ (.int ..) => true
  | _ => false
def ofV (x : Value) : T := bif sc x then .v x else .u
def ofC : Value → T
  | .agg cs => .ag (cs.toList.map ofV)
  | .tuple cs => .tu (cs.toList.map ofV)
  | .func (.func f) ⟨[]⟩ ⟨[]⟩ => .fn f []
  | x => ofV x
/-- What is new is foreign, too. -/
noncomputable def dn : T → T
  | .sn cs n => .sl cs n
  | t => t
noncomputable def unN : Nat → T → T
  | 0, _ => .u
  | k + 1, t => match t with
    | .sn cs n => .sl (cs.map (unN k)) n
    | .sl cs n => .sl (cs.map (unN k)) n
    | .st cs n => .st (cs.map (unN k)) n
    | .fp cs => .fp (cs.map (unN k))
    | .ag cs => .ag (cs.map (unN k))
    | .tu cs => .tu (cs.map (unN k))
    | .fn f cs => .fn f (cs.map (unN k))
    | .fb f cs => .fb f (cs.map (unN k))
    | t => t
/-- All of it lies in new blocks. -/
noncomputable def mkN : Nat → T → T
  | 0, t => t
  | k + 1, t => match t with
    | .sl cs n => .sn (cs.map (mkN k)) n
    | .ag cs => .ag (cs.map (mkN k))
    | .tu cs => .tu (cs.map (mkN k))
    | .fn f cs => .fn f (cs.map (mkN k))
    | t => t
noncomputable def evO (L : List T) : Operand → T
  | .tmp t => nth .u L t
  | .const x => ofC x
  | .func f => .fn f []
  | .global _ => .u
/-! ### Numbers -/
noncomputable def kind : IntKind → Nat
  | .i8 => 0 | .i16 => 1 | .i32 => 2 | .i64 => 3 | .u8 => 4 | .u16 => 5 | .u32 => 6 | .u64 => 7
noncomputable def half : IntKind → Nat
  | .i8 => 128 | .i16 => 32768 | .i32 => 2147483648 | .i64 => 9223372036854775808 | .u8 => 256 | .u16 => 65536 | .u32 => 4294967296 | .u64 => 18446744073709551616
noncomputable def wr (k : IntKind) : Int → Int
  | .ofNat n => bif Nat.blt n (half k) then .ofNat n else k.wrap (.ofNat n)
  | .negSucc n => k.wrap (.negSucc n)
noncomputable def ieq : Int → Int → Bool
  | .ofNat a, .ofNat b => Nat.beq a b
  | .negSucc a, .negSucc b => Nat.beq a b
  | _, _ => false
noncomputable def ilt : Int → Int → Bool
  | .ofNat a, .ofNat b => Nat.blt a b
  | .negSucc a, .negSucc b => Nat.blt b a
  | .negSucc _, .ofNat _ => true
  | .ofNat _, .negSucc _ => false
/-- The commonest operations on integers; all others go by the model's own text. -/
noncomputable def binI (op : BinOp) (k : IntKind) (a b : Int) : Option Value := match op with
  | .add => some (.int k (wr k (Int.add a b)))
  | .sub => some (.int k (wr k (Int.sub a b)))
  | .mul => some (.int k (wr k (Int.mul a b)))
  | .eql => some (.bool (ieq a b))
  | .neq => some (.bool (!ieq a b))
  | .lss => some (.bool (ilt a b))
  | .leq => some (.bool (!ilt b a))
  | .gtr => some (.bool (ilt b a))
  | .geq => some (.bool (!ilt a b))
  | _ => none
noncomputable def beqB (a b : Bool) : Bool := match a with | true => b | false => !b
noncomputable def bin (op : BinOp) (x y : Value) : Option Value := match x, y with
  | .int k a, .int k' b => bif Nat.beq (kind k) (kind k') then binI op k a b else none
  | _, _ => none
/-! ### What the tables say -/
noncomputable def zer (P : Program) (t : TypeId) : Option (List T) := match (P.info? t) with
  | some i => (match i.zero with | some v => some (v.cells.toList.map ofV) | none => none)
  | none => none
noncomputable def fOff (P : Program) (s f : Nat) : Option (Nat × Nat) := match P.underlying s with
  | some (.struct fs) => (match fs[f]? with | some x => some (x.offset, x.type) | none => none)
  | _ => none
noncomputable def elT (P : Program) (t : TypeId) : Option TypeId := match P.underlying t with
  | some (.slice e) => some e
  | _ => none
/-! ### Operations -/
noncomputable def dropT : List T → Nat → List T
  | [], _ => []
  | x :: l, n => match n with
    | 0 => x :: l
    | n + 1 => dropT l n
/-- So many of them, or none if there are fewer. -/
noncomputable def takeT : Nat → List T → Option (List T)
  | 0, _ => some []
  | _ + 1, [] => none
  | n + 1, x :: l => match takeT n l with
    | some r => some (x :: r)
    | none => none
noncomputable def cellsOf : T → List T
  | .ag cs => cs
  | t => [t]
noncomputable def oRow : TO → Option (List T)
  | .row cs _ => some cs
  | .gro cs _ => some cs
  | .fz cs => some cs
  | _ => none
noncomputable def oOwn : TO → Option (List T)
  | .row cs _ => some cs
  | .gro cs _ => some cs
  | _ => none
/-- The cells from a pointer on. -/
noncomputable def from_ (H : List TO) : T → Option (List T)
  | .op i o => (match oRow (nth .gone H i) with | some cs => some (dropT cs o) | none => none)
  | .fp cs => some cs
  | _ => none
noncomputable def mkT (g : Bool) (cs : List T) : T := bif g then .ag cs else (match cs with | x :: _ => x | [] => .u)
noncomputable def isNat : T → Option Nat
  | .v (.int _ (.ofNat i)) => some i
  | _ => none
noncomputable def putCells (cs : List T) (o : Nat) : List T → List T
  | [] => cs
  | x :: l => putCells (put x cs o) (o + 1) l
noncomputable def isU : T → Bool
  | .u => true
  | _ => false
/-- It takes one cell. -/
noncomputable def one : T → Bool
  | .u | .ag _ | .tu _ => false
  | _ => true
noncomputable def ones : List T → Bool
  | [] => true
  | t :: l => one t && ones l
noncomputable def fillT (sz : Nat → Option (Nat × Nat)) (cs : List T) : List (Nat × T) → Option (List T)
  | [] => some cs
  | (i, t) :: l => match sz i with
    | none => none
    | some (o, s) => bif !isU t && (Nat.beq (ln (cellsOf t)) s && Nat.ble (o + s) (ln cs)) then fillT sz (putCells cs o (cellsOf t)) l else none
/-- n cells: z over and over. -/
noncomputable def reps (z : List T) : Nat → List T
  | 0 => []
  | n + 1 => z ++ reps z n
noncomputable def evP (ρ : Operand → T) (parts : Array (Nat × Operand)) : List (Nat × T) := parts.toList.map fun p => (p.1, ρ p.2)
noncomputable def sliceT (x : T) (lo hi : Nat) (sz : Nat) : Option T := match x with
  | .sl cs n => bif Nat.ble lo hi && Nat.ble hi n then some (bif Nat.beq lo hi then .sl [] 0 else .sl (dropT cs (lo * sz)) (hi - lo)) else none
  | .os i o n c => bif Nat.ble lo hi && Nat.ble hi c then (bif Nat.beq lo c then some (.os i o (hi - lo) (c - lo)) else some (.os i (o + lo * sz) (hi - lo) (c - lo))) else none
  | .og i o n => bif Nat.ble lo hi && (Nat.ble hi n && (Nat.blt lo n && Nat.blt 0 sz)) then some (.og i (o + lo * sz) (hi - lo)) else (bif Nat.beq lo 0 && Nat.beq hi 0 then some (.og i o 0) else (bif Nat.beq lo hi && Nat.ble hi n then some (.sl [] 0) else none))
  | .st cs n => bif Nat.ble lo hi && Nat.beq hi n then some (bif Nat.beq lo hi then .st [] 0 else .st (dropT cs (lo * sz)) (hi - lo)) else none
  | .v (.slice none 0 0) => bif Nat.beq hi 0 && Nat.beq lo 0 then some x else none
  | _ => none
/-- .. with a capacity. -/
noncomputable def sliceM (x : T) (lo hi mx : Nat) (sz : Nat) : Option T := match x with
  | .os i o n c => bif Nat.ble lo hi && (Nat.ble hi mx && Nat.ble mx c) then some (.os i (bif Nat.beq lo mx then o else o + lo * sz) (hi - lo) (mx - lo)) else none
  | .og i o n => bif Nat.ble lo hi && (Nat.ble hi mx && Nat.ble mx n) then some (.os i (bif Nat.beq lo mx then o else o + lo * sz) (hi - lo) (mx - lo)) else none
  | .sl cs n => bif Nat.ble lo hi && (Nat.beq hi mx && Nat.ble mx n) then some (bif Nat.beq lo hi then .st [] 0 else .st (dropT cs (lo * sz)) (hi - lo)) else none
  | .st cs n => bif Nat.ble lo hi && (Nat.beq hi mx && Nat.ble mx n) then some (bif Nat.beq lo hi then .st [] 0 else .st (dropT cs (lo * sz)) (hi - lo)) else none
  | .v (.slice none 0 0) => bif Nat.beq hi 0 && (Nat.beq lo 0 && Nat.beq mx 0) then some x else none
  | _ => none
noncomputable def lenT : T → Option Nat
  | .sl _ n => some n
  | .sn _ n => some n
  | .st _ n => some n
  | .os _ _ n _ => some n
  | .og _ _ n => some n
  | .v (.slice none 0 0) => some 0
  | _ => none
/-- The cells of a slice. -/
noncomputable def cellsS (H : List TO) (sz : Nat) : T → Option (List T)
  | .sl cs n => takeT (n * sz) cs
  | .sn cs n => takeT (n * sz) cs
  | .st cs n => takeT (n * sz) cs
  | .os i o n _ => (match oRow (nth .gone H i) with | some cs => takeT (n * sz) (dropT cs o) | none => none)
  | .og i o n => (match oRow (nth .gone H i) with | some cs => takeT (n * sz) (dropT cs o) | none => none)
  | .v (.slice none 0 0) => some []
  | _ => none
/-- What a plain operation answers: the value, and a new object if there is one (its number is the length of H). -/
abbrev R1 := Option (T × Option TO)
noncomputable def neNil (P : Program) (op : BinOp) (t : TypeId) : R1 := match elT P t with
  | some _ => (match op with
    | .eql => some (.v (.bool false), none)
    | .neq => some (.v (.bool true), none)
    | _ => none)
  | none => none
noncomputable def val (t : T) : R1 := some (t, none)
noncomputable def val' : Option T → R1
  | some t => some (t, none)
  | none => none
noncomputable def pPick (c a b : T) : R1 := match c with
  | .v (.bool c) => val (bif c then a else b)
  | _ => none
noncomputable def pAlloc (P : Program) (k : Nat) (e : TypeId) : R1 := match zer P e with
  | some cs => some (.op k 0, some (.row cs e))
  | none => none
noncomputable def pBox (k : Nat) (e : TypeId) (x : T) : R1 := bif isU x then none else some (.op k 0, some (.row (cellsOf x) e))
/-- The places of a compound's parts. -/
noncomputable def plcs (P : Program) : List Field → Option (List (Nat × Nat))
  | [] => some []
  | f :: l => match ldT P f.type, plcs P l with
    | some (_, s), some r => some ((f.offset, s) :: r)
    | _, _ => none
noncomputable def place (P : Program) (t : TypeId) : Option (Nat → Option (Nat × Nat)) := match P.underlying t with
  | some (.struct fs) => (match plcs P fs.toList with
    | some l => some fun i => l[i]?
    | none => none)
  | some (.array _ e) => (match ldT P e with
    | some (_, s) => some fun i => some (i * s, s)
    | none => none)
  | _ => none
noncomputable def pBuild (P : Program) (t : TypeId) (ps : List (Nat × T)) : R1 := match zer P t, place P t with
  | some z, some f => (match fillT f z ps with | some cs => val (.ag cs) | none => none)
  | _, _ => none
noncomputable def pBuildSlice (P : Program) (k : Nat) (t : TypeId) (n : Nat) (ps : List (Nat × T)) : R1 := match elT P t with
  | some e => (match zer P e, ldT P e with
    | some z, some (_, s) => bif Nat.ble (n * s) 16777216 && (Nat.beq (ln z) s && Nat.blt 0 s) then (match fillT (fun i => some (i * s, s)) (reps z n) ps with | some cs => some (.os k 0 n n, some (.row cs e)) | none => none) else none
    | _, _ => none)
  | none => none
noncomputable def pLoad (P : Program) (H : List TO) (t : TypeId) (a : T) : R1 := match ldT P t with
  | some (g, s) => (match from_ H a with
    | some cs => (match takeT s cs with | some cs => bif g || Nat.beq s 1 then val (mkT g cs) else none | none => none)
    | none => none)
  | none => none
noncomputable def pNil (x : T) : R1 := match x with
  | .op i o => val (.op i o)
  | .fp cs => val (.fp cs)
  | .fn f cs => val (.fn f cs)
  | .yl i => val (.yl i)
  | _ => none
noncomputable def pBin (P : Program) (op : BinOp) (t : TypeId) (x y : T) : R1 := match x, y with
  | .v a, .v b => (match bin op a b with | some c => val (.v c) | none => none)
  | .os .., .v (.slice none 0 0) => neNil P op t
  | .og .., .v (.slice none 0 0) => neNil P op t
  | .sl (_ :: _) _, .v (.slice none 0 0) => neNil P op t
  | .st (_ :: _) _, .v (.slice none 0 0) => neNil P op t
  | _, _ => none
noncomputable def pMake (P : Program) (k : Nat) (t : TypeId) (l c : T) : R1 := match elT P t, isNat l, isNat c with
  | some e, some l, some c => (match zer P e, ldT P e, P.info? e with
    | some z, some (_, s), some i => bif (Nat.ble l c && Nat.ble c 1000000) && (Nat.ble i.bytes 1000000 && (Nat.beq (ln z) s && Nat.blt 0 s)) then some (.os k 0 l c, some (.row (reps z c) e)) else none
    | _, _, _ => none)
  | _, _, _ => none
noncomputable def opt (ρ : Operand → T) (d : Nat) : Option Operand → Option Nat
  | some x => isNat (ρ x)
  | none => some d
noncomputable def pSlice2 (ρ : Operand → T) (x : T) (s lo hi : Nat) (hio : Option Operand) : Option Operand → R1
  | none => val' (sliceT x lo hi s)
  | some m => (match hio with
    | some _ => (match isNat (ρ m) with
      | some m => val' (sliceM x lo hi m s)
      | none => none)
    | none => none)
noncomputable def pSlice (P : Program) (t : TypeId) (x : T) (ρ : Operand → T) (lo hi mx : Option Operand) : R1 := match elT P t with
  | some e => (match ldT P e, lenT x with
    | some (_, s), some n => (match opt ρ 0 lo, opt ρ n hi with
      | some l, some h => pSlice2 ρ x s l h hi mx
      | _, _ => none)
    | _, _ => none)
  | none => none
noncomputable def pFieldAddr (P : Program) (s : TypeId) (x : T) (f : Nat) : R1 := match fOff P s f with
  | some (o, t) => (match ldT P t with
    | some (_, z) => bif Nat.beq z 0 then none else (match x with
      | .op i j => val (.op i (j + o))
      | .fp cs => val (.fp (dropT cs o))
      | _ => none)
    | none => none)
  | none => none
noncomputable def pField (P : Program) (s : TypeId) (x : T) (f : Nat) : R1 := match fOff P s f with
  | some (o, t) => (match x with
    | .ag cs => (match ldT P t with
      | some (g, s) => (match takeT s (dropT cs o) with | some cs => bif g || Nat.beq s 1 then val (mkT g cs) else none | none => none)
      | none => none)
    | _ => none)
  | none => none
noncomputable def pIdxAddr (P : Program) (t : TypeId) (x i : T) : R1 := match isNat i with
  | some i => (match P.underlying t with
    | some (.slice e) => (match ldT P e with
      | some (_, s) => (match x with
        | .sl cs n => bif Nat.blt i n then val (.fp (dropT cs (i * s))) else none
        | .st cs n => bif Nat.blt i n then val (.fp (dropT cs (i * s))) else none
        | .os j o n _ => bif Nat.blt i n then val (.op j (o + i * s)) else none
        | .og j o n => bif Nat.blt i n then val (.op j (o + i * s)) else none
        | _ => none)
      | none => none)
    | some (.array n e) => (match ldT P e with
      | some (_, s) => (match x with
        | .op j o => bif Nat.blt i n then val (.op j (o + i * s)) else none
        | .fp cs => bif Nat.blt i n then val (.fp (dropT cs (i * s))) else none
        | _ => none)
      | none => none)
    | _ => none)
  | none => none
noncomputable def pIdx (P : Program) (t : TypeId) (x i : T) : R1 := match isNat i with
  | some i => (match P.underlying t with
    | some (.array n e) => (match ldT P e with
      | some (g, s) => (match x with
        | .ag cs => bif Nat.blt i n && (g || Nat.beq s 1) then (match takeT s (dropT cs (i * s)) with | some cs => val (mkT g cs) | none => none) else none
        | _ => none)
      | none => none)
    | _ => none)
  | none => none
noncomputable def pExtract (x : T) (i : Nat) : R1 := match x with
  | .tu vs => (match vs[i]? with | some t => val t | none => none)
  | _ => none
noncomputable def pLen (x : T) : R1 := match lenT x with
  | some n => val (.v (.int .i64 (.ofNat n)))
  | none => none
noncomputable def pMkF (fn : Fn) (first cs : List T) : R1 := match fn, first with
  | .func f, [] => val (.fn f cs)
  | .func f, bs => (match cs with | [] => val (.fb f bs) | _ => none)
  | _, _ => none
/-! ### Maps: keys without addresses -/
/-- What does not look at the world. -/
noncomputable def run0 {α : Type} (P : Program) : Sem α → Option α
  | .pure a => some a
  | .program k => run0 P (k P)
  | _ => none
noncomputable def vOf : T → Option Value
  | .v x => some x
  | _ => none
noncomputable def vsOf : List T → Option (List Value)
  | [] => some []
  | t :: l => match vOf t, vsOf l with
    | some x, some r => some (x :: r)
    | _, _ => none
noncomputable def sOf : T → Option Value
  | .v x => some x
  | .ag cs => (match vsOf cs with | some l => some (.agg l.toArray) | none => none)
  | _ => none
noncomputable def kNow (d : TypeDesc) (k : Value) : List (Value × T) → Nat → Option (Option Nat)
  | [], _ => some none
  | e :: es, i => match Instr.sameNow d k e.1 with
    | some true => some (some i)
    | some false => kNow d k es (i + 1)
    | none => none
noncomputable def kAsk (P : Program) (t : TypeId) (k : Value) : List (Value × T) → Nat → Option (Option Nat)
  | [], _ => some none
  | e :: es, i => match run0 P (Op.equal t k e.1) with
    | some true => some (some i)
    | some false => kAsk P t k es (i + 1)
    | none => none
noncomputable def kFind (P : Program) (t : TypeId) (k : Value) (l : List (Value × T)) : Option (Option Nat) := match P.underlying t with
  | some d => (match kNow d k l 0 with
    | some r => some r
    | none => kAsk P t k l 0)
  | none => none
noncomputable def kOk (P : Program) (e : Bool) (t : TypeId) (k : Value) : Bool := match run0 P (Instr.checkKey e 10000 t k) with
  | some _ => true
  | none => false
noncomputable def emp {α : Type} : List α → Bool
  | [] => true
  | _ => false
noncomputable def mapT (P : Program) (t : TypeId) : Option (TypeId × TypeId) := match P.underlying t with
  | some (.map k v) => some (k, v)
  | _ => none
noncomputable def zerT (P : Program) (e : TypeId) : Option T := match P.info? e with
  | some i => (match i.zero with | some v => some (ofC v) | none => none)
  | none => none
/-- The entries of a map. -/
noncomputable def entsT (H : List TO) : T → Option (List (Value × T))
  | .v (.map none) => some []
  | .om i => (match nth .gone H i with
    | .map l => some l
    | _ => none)
  | _ => none
noncomputable def okT (ok : Bool) (t : T) (b : Bool) : T := bif ok then .tu [t, .v (.bool b)] else t
noncomputable def nthE (l : List (Value × T)) (i : Nat) : Option T := match l[i]? with
  | some e => some e.2
  | none => none
noncomputable def pLookup (P : Program) (H : List TO) (t : TypeId) (m k : T) (ok : Bool) : R1 := match mapT P t, entsT H m, sOf k with
  | some (kt, vt), some l, some kv => bif kOk P (emp l) kt kv then (match kFind P kt kv l with
    | some (some i) => (match nthE l i with | some x => val (okT ok x true) | none => none)
    | some none => (match zerT P vt with | some z => val (okT ok z false) | none => none)
    | none => none) else none
  | _, _, _ => none
noncomputable def pLenM (H : List TO) (m : T) : R1 := match entsT H m with
  | some l => val (.v (.int .i64 (.ofNat (ln l))))
  | none => none
noncomputable def pCall (P : Program) (H : List TO) (ρ : Operand → T) (c : Call) : R1 := match c.callee, c.args.toList, c.argTypes.toList with
  | .builtin .len, [x], [t] => (match elT P t with
    | some _ => pLen (ρ x)
    | none => (match mapT P t with
      | some _ => pLenM H (ρ x)
      | none => none))
  | _, _, _ => none
/-- Plain operations: they write nothing. -/
noncomputable def plop (P : Program) (H : List TO) (k : Nat) (ρ : Operand → T) (op : Op) : R1 := match op with
  | .move x => val (ρ x)
  | .assign x => val (ρ x)
  | .pick c a b => pPick (ρ c) (ρ a) (ρ b)
  | .alloc e => pAlloc P k e
  | .box e x => pBox k e (ρ x)
  | .build t parts => pBuild P t (evP ρ parts)
  | .buildSlice t n parts => pBuildSlice P k t n (evP ρ parts)
  | .load t a => pLoad P H t (ρ a)
  | .nilCheck x => pNil (ρ x)
  | .binOp op t x y _ => pBin P op t (dn (ρ x)) (dn (ρ y))
  | .makeFunc fn first caps => pMkF fn (first.toList.map ρ) (caps.toList.map ρ)
  | .makeSlice t l c => pMake P k t (ρ l) (ρ c)
  | .slice t x lo hi mx => pSlice P t (dn (ρ x)) (fun y => dn (ρ y)) lo hi mx
  | .fieldAddr s x f => pFieldAddr P s (ρ x) f
  | .field s x f => pField P s (ρ x) f
  | .indexAddr t x i => pIdxAddr P t (dn (ρ x)) (dn (ρ i))
  | .index t x i => pIdx P t (dn (ρ x)) (dn (ρ i))
  | .extract x i => pExtract (ρ x) i
  | .call c => pCall P H (fun y => dn (ρ y)) c
  | .makeMap _ none => some (.om k, some (.map []))
  | .lookup t m x ok => pLookup P H t (ρ m) (ρ x) ok
  | _ => none
noncomputable def setO (H : List TO) (i o : Nat) (vs : List T) : Option (List TO) := match nth .gone H i with
  | .row cs e => bif Nat.ble (o + ln vs) (ln cs) then some (put (.row (putCells cs o vs) e) H i) else none
  | .gro cs e => bif Nat.ble (o + ln vs) (ln cs) then some (put (.gro (putCells cs o vs) e) H i) else none
  | _ => none
/-- append: a new object; the old one is gone where the library may have written into it. -/
noncomputable def appN (H : List TO) (e : TypeId) (a b : List T) (n m : Nat) : T × List TO := (.og (ln H) 0 (n + m), H ++ [.gro (a ++ b) e])
noncomputable def app0 (H : List TO) (x : T) : Option (T × List TO) := match x with
  | .v _ => some (x, H)
  | .og .. => some (x, H)
  | .os _ _ n c => bif Nat.ble n c then some (x, H) else none
  | _ => none
noncomputable def appG (H : List TO) (e : TypeId) (s : Nat) (a b : List T) (i o n m : Nat) : TO → Option (T × List TO)
  | .gro cs e' => bif Nat.beq o 0 && (Nat.beq (ln cs) (n * s) && Nat.beq e e') then some (.og (ln H) 0 (n + m), put .gone H i ++ [.gro (a ++ b) e]) else none
  | _ => none
noncomputable def app1 (H : List TO) (e : TypeId) (s : Nat) (a b : List T) (n m : Nat) (x : T) : Option (T × List TO) := match x with
  | .v _ => some (appN H e a b n m)
  | .st .. => some (appN H e a b n m)
  | .os _ _ n' c => bif Nat.beq n' c then some (appN H e a b n m) else none
  | .og i o n => appG H e s a b i o n m (nth .gone H i)
  | _ => none
noncomputable def appOk (P : Program) (e : TypeId) (s N : Nat) : Bool := match P.info? e, zer P e with
  | some i, some z => Nat.beq (ln z) s && (Nat.ble N 1000000 && (Nat.ble i.bytes 1000000 && Nat.blt 0 s))
  | _, _ => false
noncomputable def appT (P : Program) (H : List TO) (t : TypeId) (x y : T) : Option (T × List TO) := match elT P t with
  | none => none
  | some e => match ldT P e with
    | none => none
    | some (_, s) => match cellsS H s x, cellsS H s y, lenT x, lenT y with
      | some a, some b, some n, some m => bif Nat.beq m 0 then app0 H x else bif appOk P e s (n + m) && ones b then app1 H e s a b n m x else none
      | _, _, _, _ => none
noncomputable def stoT (P : Program) (H : List TO) (t : TypeId) (a x : T) : Option (List TO) := match ldT P t, a with
  | some (_, m), .op i o => bif ones (cellsOf x) && Nat.beq (ln (cellsOf x)) m then setO H i o (cellsOf x) else none
  | _, _ => none
noncomputable def updL (P : Program) (kt : TypeId) (kv : Value) (x : T) (l : List (Value × T)) : Option (List (Value × T)) := bif kOk P false kt kv then (match kFind P kt kv l with
  | some (some i) => (match l[i]? with
    | some e => bif Instr.sameBits 10000 e.1 kv then some (put (kv, x) l i) else none
    | none => none)
  | some none => some (l ++ [(kv, x)])
  | none => none) else none
noncomputable def updT (P : Program) (H : List TO) (t : TypeId) (m k x : T) : Option (List TO) := match m with
  | .om i => (match nth .gone H i with
    | .map l => (match mapT P t, sOf k with
      | some (kt, _), some kv => (match updL P kt kv x l with
        | some l => some (put (.map l) H i)
        | none => none)
      | _, _ => none)
    | _ => none)
  | _ => none
/-- copy into an own row. -/
noncomputable def cpyT (P : Program) (H : List TO) (t : TypeId) (x y : T) : Option (T × List TO) := match x with
  | .os i o n _ => (match elT P t with
    | some e => (match ldT P e with
      | some (_, s) => (match cellsS H s y, lenT y with
        | some b, some m => (match takeT (Nat.min m n * s) b with
          | some us => bif ones us && Nat.blt 0 (Nat.min m n * s) then (match setO H i o us with | some H' => some (.v (.int .i64 (.ofNat (Nat.min m n))), H') | none => none) else none
          | none => none)
        | _, _ => none)
      | none => none)
    | none => none)
  | _ => none
/-- Operations that write. -/
noncomputable def efop (P : Program) (H : List TO) (ρ : Operand → T) (op : Op) : Option (Option T × List TO) := match op with
  | .store t a x => (match stoT P H t (ρ a) (ρ x) with | some H => some (none, H) | none => none)
  | .mapUpdate t m k x => (match updT P H t (ρ m) (ρ k) (ρ x) with | some H => some (none, H) | none => none)
  | .call c => (match c.callee, c.args.toList, c.argTypes.toList with
    | .builtin .append, [x, y], [t, t'] => bif Nat.beq t t' then (match appT P H t (ρ x) (ρ y) with | some (v, H) => some (some v, H) | none => none) else none
    | .builtin .copy, [x, y], [t, _] => (match cpyT P H t (ρ x) (ρ y) with | some (v, H) => some (some v, H) | none => none)
    | _, _, _ => none)
  | _ => none
/-! ### All else that has no addresses: by the model's own text -/
noncomputable def sOfs (ρ : Operand → T) : List Operand → Bool
  | [] => true
  | x :: l => (match sOf (ρ x) with | some _ => sOfs ρ l | none => false)
noncomputable def sAt (ρ : Operand → T) (x : Operand) : Value := match sOf (ρ x) with
  | some v => v
  | none => undef
noncomputable def nextV : Option Next → Option T
  | some (.value v) => some (ofC v)
  | _ => none
noncomputable def modE (P : Program) (ρ : Operand → T) (o : Oper) : Option T := bif noSel o.op && sOfs ρ o.op.operands.toList then nextV (run0 P (execOp (sAt ρ) o)) else none
/-! ### Code -/
noncomputable def wantT (ops : Array Oper) (L : List T) (o : Oper) : Option Bool := match o.guard with
  | none => some true
  | some (j, b) => match (match ops[j]? with | some p => p.dst | none => none) with
    | some t => (match nth .u L t with
      | .v (.bool c) => some (beqB c b)
      | .v (.int .u8 _) => none
      | .tu [] => some false
      | _ => none)
    | none => none
noncomputable def dst (d : Option Nat) (t : T) (L : List T) : List T := match d with
  | some d => put t L d
  | none => L
/-- How a call goes. -/
abbrev Cl := Nat → List T → List TO → Option (T × List TO)
/-- What is known of functions that write nothing: what they answer, and does it lie in new blocks alone? -/
abbrev Po := Nat → List T → Option (T × Bool)
/-- What is known of functions that read own objects and write nothing: what they answer. -/
abbrev Oo := List TO → Nat → List T → Option T
/-- How code goes. -/
abbrev Rn := Code → S → Option (Ex × S)
noncomputable def fin1 (d : Option Nat) (L : List T) (H : List TO) (r : T × Option TO) : Option S := match r.2 with
  | none => some ⟨dst d r.1 L, H⟩
  | some ob => some ⟨dst d r.1 L, H ++ [ob]⟩
noncomputable def fin2 (d : Option Nat) (L : List T) (r : Option T × List TO) : Option S := match r.1 with
  | some t => some ⟨dst d t L, r.2⟩
  | none => (match d with
    | none => some ⟨L, r.2⟩
    | some _ => none)
noncomputable def fin3 (d : Option Nat) (L : List T) : Option (T × List TO) → Option S
  | some (t, H) => some ⟨dst d t L, H⟩
  | none => none
/-- A call of it enters it. -/
noncomputable def enters (P : Program) (f : Nat) : Bool := match P.funcs[f]? with
  | some fn => bif fn.name == "runtime.NumGoroutine" then false else fn.body.isSome
  | none => false
noncomputable def callT (P : Program) (cl yd : Cl) (d : Option Nat) (L : List T) (H : List TO) (az : List T) : T → Option S
  | .fn f cs => bif enters P f then fin3 d L (cl f (az ++ cs) H) else none
  | .fb f bs => bif enters P f then fin3 d L (cl f (bs ++ az) H) else none
  | .yl l => fin3 d L (yd l az H)
  | _ => none
noncomputable def opC (P : Program) (cl yd : Cl) (d : Option Nat) (L : List T) (H : List TO) : Op → Option S
  | .call c => (match c.callee with
    | .value f => callT P cl yd d L H (c.args.toList.map (evO L)) (evO L f)
    | _ => none)
  | _ => none
noncomputable def opE3 (P : Program) (o : Oper) (L : List T) (H : List TO) : Option S := match modE P (evO L) o with
  | some t => some ⟨dst o.dst t L, H⟩
  | none => none
noncomputable def opE2 (P : Program) (cl yd : Cl) (o : Oper) (L : List T) (H : List TO) : Option S := match efop P H (evO L) o.op with
  | some r => fin2 o.dst L r
  | none => match opC P cl yd o.dst L H o.op with
    | some s => some s
    | none => opE3 P o L H
noncomputable def opE1 (P : Program) (cl yd : Cl) (o : Oper) (L : List T) (H : List TO) : Option S := match plop P H (ln H) (evO L) o.op with
  | some r => fin1 o.dst L H r
  | none => opE2 P cl yd o L H
noncomputable def opE (P : Program) (cl yd : Cl) (ops : Array Oper) (o : Oper) (s : S) : Option S := match wantT ops s.L o with
  | none => none
  | some false => some ⟨dst o.dst (.tu []) s.L, s.H⟩
  | some true => opE1 P cl yd o s.L s.H
noncomputable def opsE (P : Program) (cl yd : Cl) (ops : Array Oper) : List Oper → S → Option S
  | [], s => some s
  | o :: l, s => match opE P cl yd ops o s with
    | some s => opsE P cl yd ops l s
    | none => none
noncomputable def noDef' : Op → Bool
  | .defer _ => false
  | _ => true
/-- A panic of the text's own. -/
noncomputable def panT (L : List T) : Op → Option T
  | .panic x => (match evO L x with
    | .v (.iface t (.int k n)) => some (.v (.iface t (.int k n)))
    | _ => none)
  | _ => none
noncomputable def calP (P : Program) (pc : Cl) (s : S) : Op → Option (T × List TO)
  | .call c => (match c.callee with
    | .value f => (match evO s.L f with
      | .fn f cs => bif enters P f then pc f (c.args.toList.map (evO s.L) ++ cs) s.H else none
      | .fb f bs => bif enters P f then pc f (bs ++ c.args.toList.map (evO s.L)) s.H else none
      | _ => none)
    | _ => none)
  | _ => none
noncomputable def finP (L : List T) : Option (T × List TO) → Option (Ex × S)
  | some (t, H) => some (.p t, ⟨L, H⟩)
  | none => none
/-- An operation that panics. -/
noncomputable def opP (P : Program) (pc : Cl) (ops : Array Oper) (o : Oper) (s : S) : Option (Ex × S) := match wantT ops s.L o with
  | some true => (match panT s.L o.op with
    | some t => some (.p t, s)
    | none => finP s.L (calP P pc s o.op))
  | _ => none
noncomputable def opsX (P : Program) (cl yd pc : Cl) (ops : Array Oper) : List Oper → S → Option (Ex × S)
  | [], s => some (.n, s)
  | o :: l, s => match opE P cl yd ops o s with
    | some s => opsX P cl yd pc ops l s
    | none => opP P pc ops o s
/-- Operations, the last of which defers a function. -/
noncomputable def opsD (P : Program) (cl yd : Cl) (ops : Array Oper) : List Oper → S → Option (T × S)
  | [], _ => none
  | o :: l, s => bif noDef' o.op then (match opE P cl yd ops o s with
    | some s => opsD P cl yd ops l s
    | none => none) else (match l, o.op, o.guard, o.dst with
      | [], .defer c, none, none => (match c.callee, c.args.toList with
        | .value f, [] => (match evO s.L f with
          | .fn f cs => bif enters P f then some (.fn f cs, s) else none
          | _ => none)
        | _, _ => none)
      | _, _, _, _ => none)
noncomputable def resC (P : Program) (H : List TO) (x : T) (e : TypeId) : Option T := match ldT P e with
  | some (g, s) => (match from_ H x with
    | some cs => (match takeT s cs with
      | some cs => bif g || Nat.beq s 1 then some (mkT g cs) else none
      | none => none)
    | none => none)
  | none => none
noncomputable def resE (P : Program) (L : List T) (H : List TO) : List ResultVar → Option (List T)
  | [] => some []
  | .tmp t :: l => (match resE P L H l with | some r => some (nth .u L t :: r) | none => none)
  | .cell t e :: l => (match resC P H (nth .u L t) e, resE P L H l with
    | some x, some r => some (x :: r)
    | _, _ => none)
noncomputable def packE : List T → T
  | [t] => t
  | l => .tu l
noncomputable def us : Nat → List T
  | 0 => []
  | n + 1 => .u :: us n
noncomputable def rest (n : Nat) (az : List T) : List T := az ++ us (n - ln az)
noncomputable def puts : List T → List Nat → List T → List T
  | L, p :: ps, a :: az => puts (put a L p) ps az
  | L, _, _ => L
noncomputable def retE (P : Program) (fn : Func) : Option (Ex × S) → Option (T × List TO)
  | some (.x _, _) => none
  | some (.p _, _) => none
  | some (_, s) => (match resE P s.L s.H fn.results.toList with
    | some r => some (packE r, s.H)
    | none => none)
  | none => none
/-- No own parts at all. -/
noncomputable def clean : Nat → T → Bool
  | 0, _ => false
  | k + 1, t => match t with
    | .v _ => true
    | .sl cs _ => cs.all (clean k)
    | .st cs _ => cs.all (clean k)
    | .fp cs => cs.all (clean k)
    | .ag cs => cs.all (clean k)
    | .tu cs => cs.all (clean k)
    | .fn _ cs => cs.all (clean k)
    | _ => false
noncomputable def mapO (f : T → Option T) : List T → Option (List T)
  | [] => some []
  | t :: l => match f t, mapO f l with
    | some x, some r => some (x :: r)
    | _, _ => none
/-- A value whose own cells are read; nw: nothing in it may be foreign. -/
noncomputable def frzT (nw : Bool) (H : List TO) : Nat → T → Option T
  | 0, _ => none
  | k + 1, t => match t with
    | .v x => some (.v x)
    | .sl cs n => bif nw then (match cs, n with | [], 0 => some (.sl [] 0) | _, _ => none) else (bif clean 9 (.sl cs n) then some (.sl cs n) else none)
    | .sn cs n => (match mapO (frzT nw H k) cs with | some l => some (.sl l n) | none => none)
    | .st cs n => bif nw then (match cs, n with | [], 0 => some (.st [] 0) | _, _ => none) else (bif clean 9 (.st cs n) then some (.st cs n) else none)
    | .fp cs => bif nw then none else (bif clean 9 (.fp cs) then some (.fp cs) else none)
    | .ag cs => (match mapO (frzT nw H k) cs with | some l => some (.ag l) | none => none)
    | .tu cs => (match mapO (frzT nw H k) cs with | some l => some (.tu l) | none => none)
    | .fn f cs => (match mapO (frzT nw H k) cs with | some l => some (.fn f l) | none => none)
    | .os i o n c => bif Nat.ble n c && Nat.ble c 9223372036854775807 then (match oOwn (nth .gone H i) with
      | some cs => (match mapO (frzT nw H k) (dropT cs o) with | some l => some (.sl l n) | none => none)
      | none => none) else none
    | .og i o n => (match oOwn (nth .gone H i) with
      | some cs => (match mapO (frzT nw H k) (dropT cs o) with | some l => some (.sl l n) | none => none)
      | none => none)
    | .op i o => (match oOwn (nth .gone H i) with
      | some cs => (match mapO (frzT nw H k) (dropT cs o) with | some l => some (.fp l) | none => none)
      | none => none)
    | _ => none
/-- Own parts, but for those of what is foreign. -/
noncomputable def ownT : Nat → T → Bool
  | 0, _ => true
  | k + 1, t => match t with
    | .os .. | .og .. | .op .. | .om _ | .yl _ => true
    | .ag cs => cs.any (ownT k)
    | .tu cs => cs.any (ownT k)
    | .fn _ cs => cs.any (ownT k)
    | .fb _ cs => cs.any (ownT k)
    | _ => false
noncomputable def ownL (l : List T) : Bool := l.any (ownT 6)
/-- A call that writes nothing. -/
noncomputable def poC (po : Po) (H : List TO) (f : Nat) (az : List T) : Option T := bif ownL az then (match mapO (frzT false H 12) az with
    | some az2 => (match po f az2 with
      | some (t, true) => some (mkN 12 t)
      | _ => none)
    | none => none)
  else (match po f az with
    | some (t, nw) => some (bif nw then mkN 12 t else t)
    | none => none)
/-- What a round's end leaves of the loop's record. -/
noncomputable def endY (l : Nat) : Option (Ex × S) → Option (T × List TO)
  | some (e, s) => (match nth .gone s.H l with
    | .loop L ps a b false none => (match e with
      | .n => some (.v (.bool true), put (.loop L ps a b true none) s.H l)
      | .r => some (.v (.bool false), put (.loop L ps a b false (some .ret)) s.H l)
      | .x id => some (.v (.bool false), put (.loop L ps a b false (some (.exit id))) s.H l)
      | .p _ => none)
    | _ => none)
  | none => none
noncomputable def bodyY (rn : Rn) (l : Nat) (b0 : Code) : Option (Ex × S) → Option (T × List TO)
  | some (.n, s) => (match nth .gone s.H l with
    | .loop L ps a b true none => endY l (rn b0 ⟨s.L, put (.loop L ps a b false none) s.H l⟩)
    | _ => none)
  | _ => none
noncomputable def yieldE (rn : Rn) : Cl := fun l az H => match nth .gone H l with
  | .loop L ps a b true none => bif Nat.beq (ln ps) (ln az) then bodyY rn l b (rn a ⟨puts L ps az, H⟩) else none
  | _ => none
noncomputable def seqE (rn : Rn) (y : Code) : Option (Ex × S) → Option (Ex × S)
  | some (.n, s) => rn y s
  | r => r
noncomputable def condE (rn : Rn) (x y : Code) (s : S) : T → Option (Ex × S)
  | .v (.bool b) => rn (bif b then x else y) s
  | _ => none
noncomputable def blkE (id : Nat) : Option (Ex × S) → Option (Ex × S)
  | some (.x j, s) => some (bif Nat.beq j id then .n else .x j, s)
  | r => r
noncomputable def regE : Option S → Option (Ex × S)
  | some s => some (.n, s)
  | none => none
noncomputable def endR (l : Nat) (L : List T) : Option (T × List TO) → Option (Ex × S)
  | some (_, H) => (match nth .gone H l with
    | .loop _ _ _ _ true none => some (.n, ⟨L, put .gone H l⟩)
    | .loop _ _ _ _ false (some .ret) => some (.r, ⟨L, put .gone H l⟩)
    | .loop _ _ _ _ false (some (.exit id)) => some (.x id, ⟨L, put .gone H l⟩)
    | _ => none)
  | none => none
noncomputable def rngE (P : Program) (cl : Cl) (ps : List Nat) (a b : Code) (L : List T) (H : List TO) : T → Option (Ex × S)
  | .fn f cs => bif enters P f then endR (ln H) L (cl f (.yl (ln H) :: cs) (H ++ [.loop L ps a b true none])) else none
  | _ => none
/-- No range over a function, no scope. -/
noncomputable def noR : Code → Bool
  | .seq x y => noR x && noR y
  | .cond _ x y => noR x && noR y
  | .block _ x => noR x
  | .loop x => noR x
  | .rangeFunc .. => false
  | .scope _ => false
  | _ => true
noncomputable def okOps (ops : Array Oper) : Bool := ops.toList.all fun o => noDef' o.op
/-! ### Functions that defer one that recovers -/
/-- Is it the call of recover? -/
noncomputable def isRec (o : Oper) : Bool := match o.op with
  | .call c => (match c.callee, c.args.toList with
    | .builtin .recover, [] => true
    | _, _ => false)
  | _ => false
noncomputable def noG (o : Oper) : Bool := match o.guard with
  | none => true
  | some _ => false
noncomputable def eqNs : List Nat → List Nat → Bool
  | [], [] => true
  | a :: l, b :: m => Nat.beq a b && eqNs l m
  | _, _ => false
/-- Four operations: recover and a load in whatever order, then two more. -/
noncomputable def rdyOk (ops : Array Oper) : Bool :=
  eqNs (Region.ready .any ops #[false, false, false, false]) [0, 1] && (eqNs (Region.ready .any ops #[true, false, false, false]) [1] && (eqNs (Region.ready .any ops #[false, true, false, false]) [0] &&
  (eqNs (Region.ready .any ops #[true, true, false, false]) [2] && (eqNs (Region.ready .any ops #[true, true, true, false]) [3] && eqNs (Region.ready .any ops #[true, true, true, true]) []))))
/-- Such a region: what recover hands over is x. -/
noncomputable def recE (P : Program) (cl yd : Cl) (ops : Array Oper) (x : T) (s : S) : Option S := match ops.toList with
  | [o0, o1, o2, o3] => bif isRec o0 && (noG o0 && (noG o1 && (rdyOk ops && (noDef' o2.op && noDef' o3.op)))) then (match o0.dst, o1.dst, o1.op with
    | some d0, some d1, .load t (.tmp a) => bif !Nat.beq d0 d1 && !Nat.beq d0 a then (match pLoad P s.H t (nth .u s.L a) with
      | some (z, none) => opsE P cl yd ops [o2, o3] ⟨put z (put x s.L d0) d1, s.H⟩
      | _ => none) else none
    | _, _, _ => none) else none
  | _ => none
/-- A deferred function: none: it panics, or is not of this form; x: what recover hands over. -/
noncomputable def cloE (P : Program) (cl yd : Cl) (rn : Rn) (x : T) (H : List TO) : T → Option (List TO)
  | .fn f cs => (match P.funcs[f]? with
    | some fn => (match fn.body, fn.results.toList with
      | some (.seq (.region _ ops true) c), [] => bif Nat.ble (ln cs) fn.ntmps && noR c then (match recE P cl yd ops x ⟨rest fn.ntmps cs, H⟩ with
        | some s => (match rn c s with
          | some (.n, s) => some s.H
          | some (.r, s) => some s.H
          | _ => none)
        | none => none) else none
      | _, _ => none)
    | none => none)
  | _ => none
noncomputable def leaE (P : Program) (fn : Func) (s : S) : Option (List TO) → Option (T × List TO)
  | some H => (match resE P s.L H fn.results.toList with
    | some r => some (packE r, H)
    | none => none)
  | none => none
noncomputable def defR (P : Program) (cl yd : Cl) (rn : Rn) (fn : Func) (g : T) : Option (Ex × S) → Option (T × List TO)
  | some (.n, s) => leaE P fn s (cloE P cl yd rn (.v .nilIface) s.H g)
  | some (.r, s) => leaE P fn s (cloE P cl yd rn (.v .nilIface) s.H g)
  | some (.p t, s) => leaE P fn s (cloE P cl yd rn t s.H g)
  | _ => none
noncomputable def defE (P : Program) (cl yd : Cl) (rn : Rn) (fn : Func) (s : S) : Code → Option (T × List TO)
  | .seq c0 (.seq (.region _ ops false) c2) => (match rn c0 s with
    | some (.n, s) => (match opsD P cl yd ops ops.toList s with
      | some (g, s) => defR P cl yd rn fn g (rn c2 s)
      | none => none)
    | _ => none)
  | _ => none
noncomputable def enter0 (P : Program) (rn : Rn) (f : Nat) (az : List T) (H : List TO) : Option (T × List TO) := match P.funcs[f]? with
  | none => none
  | some fn => match fn.body with
    | none => none
    | some c => bif Nat.ble (ln az) fn.ntmps then retE P fn (rn c ⟨rest fn.ntmps az, H⟩) else none
noncomputable def enterD (P : Program) (rn : Rn) (f : Nat) (az : List T) (H : List TO) : Option (T × List TO) := match P.funcs[f]? with
  | none => none
  | some fn => match fn.body with
    | none => none
    | some c => bif Nat.ble (ln az) fn.ntmps then defE P (enter0 P rn) (fun _ _ _ => none) rn fn ⟨rest fn.ntmps az, H⟩ c else none
noncomputable def enterE (P : Program) (rn : Rn) (f : Nat) (az : List T) (H : List TO) : Option (T × List TO) := match enter0 P rn f az H with
  | some r => some r
  | none => enterD P rn f az H
/-- A call that panics: with what. -/
noncomputable def panE : Option (Ex × S) → Option (T × List TO)
  | some (.p t, s) => some (t, s.H)
  | _ => none
noncomputable def enterP (P : Program) (rn : Rn) : Cl := fun f az H => match P.funcs[f]? with
  | none => none
  | some fn => match fn.body with
    | none => none
    | some c => bif Nat.ble (ln az) fn.ntmps then panE (rn c ⟨rest fn.ntmps az, H⟩) else none
noncomputable def callE (P : Program) (SO : Oo) (O : Po) (rn : Rn) : Cl := fun f az H => match SO H f az with
  | some r => some (r, H)
  | none => match poC O H f az with
    | some r => some (r, H)
    | none => enterE P rn f az H
/-! ### Regions that draw their order -/
noncomputable def gones : Nat → List TO
  | 0 => []
  | n + 1 => .gone :: gones n
/-- A call with a memory of its own. -/
noncomputable def freshF (H : List TO) (t : T) : Option (T × Bool) := match frzT true H 12 t with
  | some t => some (t, true)
  | none => match frzT false H 12 t with
    | some t => some (t, false)
    | none => none
noncomputable def freshE (P : Program) (rn : Rn) (k : Nat) : Po := fun f az => match enterE P rn f (az.map (unN 12)) (gones k) with
  | some (t, H) => freshF H t
  | none => none
noncomputable def pureE (P : Program) (O : Po) (rn : Rn) (k : Nat) : Po := fun f az => match O f az with
  | some t => some t
  | none => freshE P rn k f az
noncomputable def headC (P : Program) (po : Po) (H : List TO) (L : List T) : Op → Option T
  | .call c => (match c.callee with
    | .value f => (match evO L f with
      | .fn f cs => bif enters P f then poC po H f (c.args.toList.map (evO L) ++ cs) else none
      | _ => none)
    | _ => none)
  | _ => none
/-- append in such a region: its base is nil, tight, or a row that has grown, which nobody else looks at any more. -/
noncomputable def baseB (H0 Hn : List TO) (e : TypeId) (s : Nat) (kq : Option Nat) (x : T) : Option (List T × Nat) := match kq with
  | none => (match x with
    | .v (.slice none 0 0) => some ([], 0)
    | .os _ _ n c => bif Nat.beq n c then (match cellsS Hn s x with | some a => some (a, n) | none => none) else none
    | .st _ n => (match cellsS Hn s x with | some a => some (a, n) | none => none)
    | _ => none)
  | some q => (match x with
    | .og i o n => bif Nat.beq i q && Nat.beq o 0 then (match nth .gone H0 i with
      | .gro cs e' => bif Nat.beq (ln cs) (n * s) && Nat.beq e e' then some (cs, n) else none
      | _ => none) else none
    | _ => none)
noncomputable def appB (P : Program) (H0 Hn : List TO) (kq : Option Nat) (t : TypeId) (x y : T) : R1 := match elT P t with
  | none => none
  | some e => match ldT P e with
    | none => none
    | some (_, s) => match baseB H0 Hn e s kq x, cellsS Hn s y, lenT y with
      | some (a, nx), some b, some ny => bif !Nat.beq ny 0 && (appOk P e s (nx + ny) && ones b) then some (.og (ln Hn) 0 (nx + ny), some (.gro (a ++ b) e)) else none
      | _, _, _ => none
noncomputable def appO (P : Program) (H0 Hn : List TO) (kq : Option Nat) (L : List T) : Op → R1
  | .call c => (match c.callee, c.args.toList, c.argTypes.toList with
    | .builtin .append, [x, y], [t, t'] => bif Nat.beq t t' then appB P H0 Hn kq t (evO L x) (evO L y) else none
    | _, _, _ => none)
  | _ => none
/-- The row that an append does away with. -/
noncomputable def autoK (L : List T) : Op → Option Nat
  | .call c => (match c.callee, c.args.toList with
    | .builtin .append, [x, _] => (match evO L x with
      | .og q _ _ => some q
      | _ => none)
    | _, _ => none)
  | _ => none
/-- An operation that may come up at any time: what it answers. -/
noncomputable def headV (P : Program) (po : Po) (H0 H Hn : List TO) (L : List T) (o : Oper) : R1 := match autoK L o.op with
  | some q => appO P H0 Hn (some q) L o.op
  | none => match plop P H (ln Hn) (evO L) o.op with
    | some z => some z
    | none => match headC P po Hn L o.op with
      | some t => some (t, none)
      | none => match appO P H0 Hn none L o.op with
        | some z => some z
        | none => match modE P (evO L) o with
          | some t => some (t, none)
          | none => none
noncomputable def headOp (P : Program) (po : Po) (H0 H Hn : List TO) (L : List T) (ops : Array Oper) (o : Oper) : R1 := match wantT ops L o with
  | none => none
  | some false => some (.tu [], none)
  | some true => headV P po H0 H Hn L o
noncomputable def nxH (H : List TO) : Option TO → List TO
  | none => H
  | some ob => H ++ [ob]
noncomputable def seenO (o : Oper) (seen : List Nat) : List Nat := (match o.dst with | some d => [d] | none => []) ++ (o.op.operands.toList.filterMap (fun | .tmp t => some t | _ => none) ++ seen)
noncomputable def seenIn (o : Oper) (seen : List Nat) : Bool := match o.dst with
  | some d => seen.any (Nat.beq d)
  | none => false
/-- The operations ahead of the first one that writes (a slot that has been looked at, too): what they answer. -/
noncomputable def headE (P : Program) (po : Po) (H0 H : List TO) (ops : Array Oper) : List Oper → List Nat → List TO → List T → List (T × Option TO)
  | [], _, _, _ => []
  | o :: l, seen, Hn, L => bif seenIn o seen then [] else match headOp P po H0 H Hn L ops o with
    | some z => z :: headE P po H0 H ops l (seenO o seen) (nxH Hn z.2) (dst o.dst z.1 L)
    | none => []
/-- The slots behind so many of them. -/
noncomputable def latE : List Oper → List (T × Option TO) → List T → List T
  | o :: l, z :: rs, L => latE l rs (dst o.dst z.1 L)
  | _, _, L => L
noncomputable def newsE : List (T × Option TO) → List TO
  | [] => []
  | (_, some ob) :: rs => ob :: newsE rs
  | (_, none) :: rs => newsE rs
/-- Does it wait for number i? -/
noncomputable def waitsE (o : Oper) (i : Nat) : Bool := o.after.toList.any fun e => Region.binds .any e && Nat.beq e.on i
/-- The first that writes slot t. -/
noncomputable def wrt (t : Nat) : List Oper → Nat → Option Nat
  | [], _ => none
  | o :: l, i => match o.dst with
    | some d => bif Nat.beq d t then some i else wrt t l (i + 1)
    | none => wrt t l (i + 1)
noncomputable def slotOk (hd : List Oper) (o : Oper) (i t : Nat) : Bool := match wrt t hd 0 with
  | none => true
  | some j => Nat.blt j i && waitsE o j
noncomputable def opndOk (hd : List Oper) (o : Oper) (i : Nat) : Operand → Bool
  | .tmp t => slotOk hd o i t
  | _ => true
noncomputable def grdOk (ops : Array Oper) (hd : List Oper) (o : Oper) (i : Nat) : Bool := match o.guard with
  | none => true
  | some (j, _) => match ops[j]? with
    | some p => (match p.dst with
      | some t => slotOk hd o i t
      | none => true)
    | none => true
/-- No operation of the head reads what a later one writes, or one for which it does not wait; each slot is written once. -/
noncomputable def headOk (ops : Array Oper) (hd : List Oper) : List Oper → Nat → Bool
  | [], _ => true
  | o :: l, i => (o.op.operands.toList.all (opndOk hd o i) && grdOk ops hd o i) && ((match o.dst with
    | some d => (match wrt d l 0 with
      | none => true
      | some _ => false)
    | none => true) && headOk ops hd l (i + 1))
/-- What each operation waits for, at first or second hand. -/
noncomputable def maskE (acc : List Nat) : List Edge → Nat
  | [] => 0
  | e :: l => bif Region.binds .any e then Nat.lor (Nat.lor (Nat.pow 2 e.on) (nth 0 acc e.on)) (maskE acc l) else maskE acc l
noncomputable def masksE : List Oper → List Nat → List Nat
  | [], acc => acc
  | o :: l, acc => masksE l (acc ++ [maskE acc o.after.toList])
/-- A plain operation that reads slots alone, and so may come up later than it stands. -/
noncomputable def lateK (o : Oper) : Bool := (match o.guard with | none => true | some _ => false) && (match o.op with
  | .move _ => true
  | .assign _ => true
  | .pick .. => true
  | .nilCheck _ => true
  | .binOp .. => true
  | .unOp .. => true
  | .convert .. => true
  | .slice .. => true
  | .fieldAddr .. => true
  | .field .. => true
  | .indexAddr .. => true
  | .index .. => true
  | .extract .. => true
  | _ => false)
noncomputable def noSlot (d : Nat) : Operand → Bool
  | .tmp t => !Nat.beq t d
  | _ => true
/-- o does not look at what p writes, nor does it write what p looks at or writes. -/
noncomputable def freeE (ops : Array Oper) (o p : Oper) : Bool := match p.dst with
  | none => false
  | some d => o.op.operands.toList.all (noSlot d) && ((match o.guard with
    | none => true
    | some (j, _) => (match ops[j]? with
      | some g => (match g.dst with
        | some t => !Nat.beq t d
        | none => true)
      | none => true)) && (match o.dst with
    | none => true
    | some x => !Nat.beq x d && p.op.operands.toList.all (noSlot x)))
noncomputable def eqV : Value → Value → Bool
  | .int j a, .int k b => Nat.beq (kind j) (kind k) && ieq a b
  | .bool a, .bool b => beqB a b
  | .slice none 0 0, .slice none 0 0 => true
  | .pointer none, .pointer none => true
  | .map none, .map none => true
  | _, _ => false
noncomputable def eqLs (e : T → T → Bool) : List T → List T → Bool
  | [], [] => true
  | a :: l, b :: m => e a b && eqLs e l m
  | _, _ => false
noncomputable def eqU : Nat → T → T → Bool
  | 0, _, _ => false
  | k + 1, a, b => match a, b with
    | .v x, .v y => eqV x y
    | .sl cs n, .sl ds m => Nat.beq n m && eqLs (eqU k) cs ds
    | .st cs n, .st ds m => Nat.beq n m && eqLs (eqU k) cs ds
    | .fp cs, .fp ds => eqLs (eqU k) cs ds
    | .ag cs, .ag ds => eqLs (eqU k) cs ds
    | .tu cs, .tu ds => eqLs (eqU k) cs ds
    | .fn f cs, .fn g ds => Nat.beq f g && eqLs (eqU k) cs ds
    | .os i o n c, .os i' o' n' c' => Nat.beq i i' && (Nat.beq o o' && (Nat.beq n n' && Nat.beq c c'))
    | .og i o n, .og i' o' n' => Nat.beq i i' && (Nat.beq o o' && Nat.beq n n')
    | .op i o, .op i' o' => Nat.beq i i' && Nat.beq o o'
    | .om i, .om j => Nat.beq i j
    | _, _ => false
/-- A load that has no guard. -/
noncomputable def isLd (p : Oper) : Bool := (match p.guard with | none => true | some _ => false) && (match p.op with
  | .load .. => true
  | _ => false)
noncomputable def inN (i : Nat) : List Nat → Bool
  | [] => false
  | j :: l => Nat.beq j i || inN i l
/-- May it come up later than it stands? ld: the loads that may. -/
noncomputable def lateL (m : Nat) (ld vl : List Nat) (i : Nat) (p : Oper) : Bool := bif Nat.blt i m then lateK p || (isLd p && inN i ld) else lateK p && inN i vl
/-- o does not write what p looks at or writes. -/
noncomputable def wfr (o p : Oper) : Bool := match o.dst with
  | none => true
  | some x => (match p.dst with
    | some d => !Nat.beq x d
    | none => true) && p.op.operands.toList.all (noSlot x)
noncomputable def slf (o : Oper) : Bool := match o.dst with
  | none => true
  | some x => o.op.operands.toList.all (noSlot x)
noncomputable def allW (o : Oper) : List Oper → Bool
  | [] => true
  | p :: l => (bif lateK p || isLd p then wfr o p else true) && allW o l
/-- Those of the tail that may come up later than they stand. -/
noncomputable def vlE : List Oper → List Oper → Nat → List Nat
  | _, [], _ => []
  | pre, o :: l, j => bif lateK o && (slf o && allW o pre) then j :: vlE (pre ++ [o]) l (j + 1) else vlE (pre ++ [o]) l (j + 1)
noncomputable def vlR (ops : Array Oper) (m : Nat) : List Nat := vlE (ops.toList.take m) (ops.toList.drop m) m
/-- The loads for which not all of the tail waits. -/
noncomputable def ldsE (K : Nat) : List Oper → Nat → List Nat
  | [], _ => []
  | p :: l, i => bif isLd p && !Nat.testBit K i then i :: ldsE K l (i + 1) else ldsE K l (i + 1)
noncomputable def andM : List Nat → Nat → Nat
  | [], k => k
  | m :: l, k => andM l (Nat.land m k)
noncomputable def ldsR (ops : Array Oper) (m : Nat) : List Nat := ldsE (andM ((masksE ops.toList []).drop m) (Nat.sub (Nat.pow 2 m) 1)) (ops.toList.take m) 0
/-- Does the load still give what it gave? -/
noncomputable def ldOk (P : Program) (s : S) (p : Oper) : Bool := match p.op, p.dst with
  | .load t x, some d => (match pLoad P s.H t (evO s.L x) with
    | some (z, none) => eqU 12 z (nth .u s.L d)
    | _ => false)
  | _, _ => false
noncomputable def ldsOk (P : Program) (ops : Array Oper) (s : S) : List Nat → Bool
  | [] => true
  | i :: l => (match ops[i]? with | some p => ldOk P s p | none => false) && ldsOk P ops s l
noncomputable def lateM (ops : Array Oper) (m : Nat) (ld vl : List Nat) (o : Oper) : List Oper → Nat → Nat
  | [], _ => 0
  | p :: l, i => bif lateL m ld vl i p && freeE ops o p then Nat.lor (Nat.pow 2 i) (lateM ops m ld vl o l (i + 1)) else lateM ops m ld vl o l (i + 1)
/-- Each operation of the tail waits for all ahead of it, but for late ones. -/
noncomputable def tailOk (ops : Array Oper) (m : Nat) (ld vl : List Nat) (hd : List Oper) : List Nat → List Oper → Nat → Bool
  | k :: ks, o :: l, j => (bif Nat.beq k (Nat.sub (Nat.pow 2 j) 1) then true else Nat.beq (Nat.lor k (lateM ops m ld vl o hd 0)) (Nat.sub (Nat.pow 2 j) 1)) && tailOk ops m ld vl (hd ++ [o]) ks l (j + 1)
  | _, _, _ => true
noncomputable def edgeOk : List Oper → Nat → Bool
  | [], _ => true
  | o :: l, i => o.after.toList.all (fun e => !Region.binds .any e || Nat.blt e.on i) && edgeOk l (i + 1)
noncomputable def drOk (ops : Array Oper) (m : Nat) : Bool := headOk ops (ops.toList.take m) (ops.toList.take m) 0 && (tailOk ops m (ldsR ops m) (vlR ops m) (ops.toList.take m) ((masksE ops.toList []).drop m) (ops.toList.drop m) m && edgeOk ops.toList 0)
/-- The rows that are done away with. -/
noncomputable def ksE : List Oper → List (T × Option TO) → List T → List (Option Nat)
  | o :: l, z :: rs, L => (match z.2 with | some _ => autoK L o.op | none => none) :: ksE l rs (dst o.dst z.1 L)
  | _, _, _ => []
noncomputable def killH : List (Option Nat) → List TO → List TO
  | [], H => H
  | some q :: ks, H => killH ks (put .gone H q)
  | none :: ks, H => killH ks H
noncomputable def anyK : List (Option Nat) → Bool
  | [] => false
  | some _ :: _ => true
  | none :: ks => anyK ks
noncomputable def isGone : TO → Bool
  | .gone => true
  | _ => false
noncomputable def hasK (q : Nat) : List (Option Nat) → Bool
  | [] => false
  | some k :: ks => Nat.beq k q || hasK q ks
  | none :: ks => hasK q ks
/-- Each once; nobody else sees them. -/
noncomputable def ksOk (H : List TO) : List (Option Nat) → Bool
  | [] => true
  | some q :: ks => !hasK q ks && (isGone (nth .gone H q) && ksOk H ks)
  | none :: ks => ksOk H ks
/-- The tail, one after the other. -/
noncomputable def tailE (P : Program) (cl yd : Cl) (ops : Array Oper) (ld : List Nat) : List Oper → S → Option S
  | [], s => some s
  | o :: l, s => match opE P cl yd ops o s with
    | some s => bif ldsOk P ops s ld then tailE P cl yd ops ld l s else none
    | none => none
noncomputable def taiE (P : Program) (cl yd : Cl) (ops : Array Oper) (ld : List Nat) (l : List Oper) (s : S) : Option S := bif ldsOk P ops s ld then tailE P cl yd ops ld l s else none
noncomputable def drF (P : Program) (cl yd : Cl) (ops : Array Oper) (s : S) (H : List TO) (rs : List (T × Option TO)) : Option S :=
  bif drOk ops (ln rs) && ksOk H (ksE ops.toList rs s.L) then taiE P cl yd ops (ldsR ops (ln rs)) (ops.toList.drop (ln rs)) ⟨latE ops.toList rs s.L, killH (ksE ops.toList rs s.L) s.H ++ newsE rs⟩ else none
noncomputable def drG (P : Program) (po : Po) (cl yd : Cl) (ops : Array Oper) (s : S) (rs : List (T × Option TO)) : Option S :=
  bif anyK (ksE ops.toList rs s.L) then drF P cl yd ops s (killH (ksE ops.toList rs s.L) s.H) (headE P po s.H (killH (ksE ops.toList rs s.L) s.H) ops ops.toList [] (killH (ksE ops.toList rs s.L) s.H) s.L) else drF P cl yd ops s s.H rs
noncomputable def drE (P : Program) (O : Po) (rn : Rn) (cl yd : Cl) (ops : Array Oper) (s : S) : Option S :=
  drG P (pureE P O rn (ln s.H + ops.size)) cl yd ops s (headE P (pureE P O rn (ln s.H + ops.size)) s.H s.H ops ops.toList [] s.H s.L)
noncomputable def stepE (P : Program) (SO : Oo) (O : Po) (rn : Rn) (c : Code) (s : S) : Option (Ex × S) := match c with
  | .skip => some (.n, s)
  | .label _ => some (.n, s)
  | .seq x y => seqE rn y (rn x s)
  | .cond c x y => condE rn x y s (evO s.L c)
  | .block id x => blkE id (rn x s)
  | .exit id => some (.x id, s)
  | .ret => some (.r, s)
  | .scope x => rn x s
  | .loop x => seqE rn (.loop x) (rn x s)
  | .region _ ops false => bif okOps ops then opsX P (callE P SO O rn) (yieldE rn) (enterP P rn) ops ops.toList s else none
  | .region _ ops true => regE (bif okOps ops then drE P O rn (callE P SO O rn) (yieldE rn) ops s else none)
  | .rangeFunc f ps a b => bif noR a && noR b then rngE P (callE P SO O rn) ps.toList a b s.L s.H (evO s.L f) else none
  | _ => none
noncomputable def evC (P : Program) (SO : Oo) (O : Rn → Po) : Nat → Rn
  | 0 => fun _ _ => none
  | k + 1 => stepE P SO (O (evC P SO O k)) (evC P SO O k)
noncomputable def hasN (f : Nat) : List Nat → Bool
  | [] => false
  | g :: l => Nat.beq g f || hasN f l
noncomputable def cleanR : Option (T × Bool) → Option (T × Bool)
  | some (t, b) => bif clean 12 t then some (t, b) else none
  | none => none
/-- Rows first; calls of these functions are reckoned with a memory of their own. -/
noncomputable def orF (P : Program) (O : Po) (fs : List Nat) (rn : Rn) : Po := fun f az => match O f az with
  | some r => some r
  | none => bif hasN f fs && (az.map (unN 12)).all (clean 12) then cleanR (freshE P rn 0 f (az.map (unN 12))) else none
end Go.Ev

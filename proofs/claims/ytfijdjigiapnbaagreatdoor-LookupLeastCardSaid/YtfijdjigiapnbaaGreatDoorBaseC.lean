import Derived.Test.YtfijdjigiapnbaaGreatDoorBaseA
import Derived.Test.YtfijdjigiapnbaaGreatDoorBaseB
set_option linter.unusedVariables false
set_option linter.unusedSimpArgs false
set_option linter.unnecessarySimpa false
namespace Go.Proofs.YtfijdjigiapnbaaGreatDoor
open Go Go.Gv Go.RowKit IntKind
set_option maxRecDepth 100000
set_option maxHeartbeats 1000000
theorem lF {x y : Nat} (h : qI (x : Int) (y : Int) ≥ 0) : y ≤ x := zLx (by omega)
theorem sQ {x y : Nat} (h : ¬ qI (x : Int) (y : Int) ≥ 0) : x < y := zLy (by omega)
theorem zYi (w : World) (X : Hid) (hX : ∀ k o,X k o → k < w.heap.size) (ad : Option Addr) (len cap : Nat) (l : List Nat) (h : zM (rd w X) ad len cap l) (ad2 : Option Addr) (len2 P2 : Nat) (l2 : List Nat) (h2 : zM (rd w X) ad2 len2 P2 l2) (J1 : zV l) (J2 : zV l2) (hl1 : len ≤ 512) (hl2 : len2 ≤ 512) (hd : 0 < val l2) : Calls Tryz.prog 197 #[.slice ad len cap,.slice ad2 len2 P2] w (Ret E0 w fun w' v => ∃ u u2 lq lr ad len cap ad2 len2 P2,v = .tuple #[u,u2] ∧ fU 195 w w' u lq ad len cap (val l / val l2) ∧ fU 195 w w' u2 lr ad2 len2 P2 (val l % val l2)) := by
 obtain rfl := h.hlen
 obtain rfl := h2.hlen
 have hcap := h.hcap
 have hbig := h.hbig
 have hcap2 := h2.hcap
 have hbig2 := h2.hbig
 refine zJm (n := 38) (vs := [.slice ad l.length cap,.slice ad2 l2.length P2]) Tryz.func197 rfl rfl rfl kr (fun a0 V0 => ?_)
 have V0 : Fr 38 a0 [(0,.slice ad l.length cap),(1,.slice ad2 l2.length P2)] := V0
 have G0 : St E0 w X w X [] := St.start hX
 refine zG (fun K1 Z1 => ?_)
 refine zC ?_
 refine qQ V0 kr (rX (d := 3) (fun b => .pointer (some ⟨b,0,none⟩)) (.cells #[.slice ad2 l2.length P2] 26 (0,0)) V0 kr G0 kw ?_)
 intro b2 w2 Y2 G2 y2 O2 a3 V3
 refine qQ V3 kr (rX (d := 4) (fun b => .pointer (some ⟨b,0,none⟩)) (.cells #[.slice none 0 0] 26 (0,0)) V3 kr G2 kw ?_)
 intro b4 w4 Y4 G4 y4 O4 a5 V5
 refine qQ V5 kr (rX (d := 5) (fun b => .pointer (some ⟨b,0,none⟩)) (.cells #[.slice none 0 0] 26 (0,0)) V5 kr G4 kw ?_)
 intro b6 w6 Y6 G6 y6 O6 a7 V7
 refine zH ?_
 refine zA (Z1 _ _ ?_)
 refine zG (fun K8 Z8 => ?_)
 refine zC ?_
 refine zD 2 [(9,.int .i64 (l.length : Int)),(8,.slice ad l.length cap)] V7 kr kr (fun a9 V9 => ?_)
 refine qQ V9 kr (zSp (d := 10) (t := 26) (e := 195) (m := l.length) (l := (l.length : Int)) (z := .int .u32 0) (i0 := Tryz.t195) V9 kr G6 rfl kr (by first | rfl | omega) kr kr kr kr kr (by show 4 * _ ≤ _; omega) (by omega) ?_)
 intro b10 w10 Y10 G10 y10 O10 a11 V11
 have D10 := zX.zeros l.length (by simp only [maxLen]; omega)
 refine qQ V11 kr (zE (t := 26) (b := b4) (off := 0) (c' := #[.slice (some ⟨b10,0,none⟩) l.length l.length]) (g := false) (m := 1) 2 _ V11 kr G10 rfl kr rfl kr kr kr rfl (by first | decide | (simp; done)) kr rfl ?_)
 intro w12 G12 y12
 refine zH ?_
 refine zA (Z8 _ _ ?_)
 refine zG (fun K13 Z13 => ?_)
 refine zG (fun K14 Z14 => ?_)
 refine zC ?_
 refine zD 1 [(11,.slice ad l.length cap)] V11 kr kr (fun a15 V15 => ?_)
 refine qQ V15 kr (yG (d := 12) (f := 212) (cap := #[]) (vs := #[.slice ad l.length cap]) V15 kr G12 rfl kr kr (fun w => Tryz.call212 _ w) (zYf _ _ G12.lt ad l.length cap) ?_)
 rintro v16 w16 G16 y16 O16 ⟨bx16,rfl,hge16,hget16⟩ a17 V17
 have G18 := St.adopt G16 (fun o h => Nat.not_lt.2 hge16 (G12.lt _ _ h)) (Nat.le_trans G12.upd.size hge16) hget16
 have y18 := Le.adopt y16 hge16
 refine zH ?_
 refine zA (Z14 _ _ ?_)
 refine yF ?_
 refine zDm (f := 223) (caps := #[.pointer (some ⟨bx16,0,none⟩)]) V17 G18 kr kr (fun args w => Tryz.call223 args w) fun rec19 l19 b19 w19 Y19 hr19 G19 y19 O19 => ?_
 have V20 := aJ b19 V17
 refine zUj l19 bx16 ad l.length cap l (by omega) (fun k w' => ∃ (Y' : Hid) (curq : Array Value) (lq : List Nat) (rb : List (Nat × Obj)) (adr : Option Addr) (capr : Nat) (lr : List Nat) (q : Nat),St E0 w X w' Y' ((l19,.loop rec19) :: (b19,.deferred (some [])) :: (bx16,.cells #[.slice ad l.length cap] 26 (0,0)) :: (b10,.cells curq 195 (0,0)) :: (b6,.cells #[.slice adr lr.length capr] 26 (0,0)) :: (b4,.cells #[.slice (some ⟨b10,0,none⟩) l.length l.length] 26 (0,0)) :: (b2,.cells #[.slice ad2 l2.length P2] 26 (0,0)) :: rb) ∧ Le (rd w19 Y19) (rd w' Y') ∧ (zX l.length l.length curq lq) ∧ (RSt 195 rb adr capr lr) ∧ (zV lr) ∧ (val lq = 2 ^ k * q) ∧ (val l / 2 ^ k = q * val l2 + val lr) ∧ (val lr < val l2)) _ _ ((h.mono (Le7 y2 y4 y6 y10 y12 y18 y19)).mono Le.x0) ?_ ?_ ?_ ?_ (G19.at0 2 rfl rfl) ?_
 rintro k w21 ⟨Y21,curq,lq,rb,adr,capr,lr,q,G21,y21,hp21_0,hp21_1,hp21_2,hp21_3,hp21_4,hp21_5⟩
 exact G21.at0 2 rfl rfl
 rintro k w22 ⟨Y22,curq,lq,rb,adr,capr,lr,q,G22,y22,hp22_0,hp22_1,hp22_2,hp22_3,hp22_4,hp22_5⟩
 intro hk
 obtain ⟨b,off,rfl,_⟩ := h.addr (by omega)
 exact ⟨b,off,rfl,((h.cell (i := k / 32) (by omega)).mono (Le8 y2 y4 y6 y10 y12 y18 y19 y22)).mono Le.x0⟩
 intro k w23 hk
 rintro ⟨Y23,curq,lq,rb,adr,capr,lr,q,G23,y23,hp23_0,hp23_1,hp23_2,hp23_3,hp23_4,hp23_5⟩
 refine zFv (p := 13) (q := 14) hr19 V17 G23 kr kr (fun a24 V24 => ?_)
 have hkl : k / 32 < l.length := by omega
 have hrowq := hp23_0
 have hrst := hp23_1
 have hcanlr := hp23_2
 have hvq := hp23_3
 have hdiv := hp23_4
 have hlt := hp23_5
 rcases hrst with ⟨rfl,rfl,rfl,rfl⟩ | ⟨gr,curr,rfl,rfl,hrowr⟩
 refine zG (fun K25 Z25 => ?_)
 refine zC ?_
 refine zD 1 [(6,.int .i64 (k : Int))] V24 kr kr (fun a26 V26 => ?_)
 refine zH ?_
 refine zA (Z25 _ _ ?_)
 refine zC ?_
 refine zD 1 [(7,.int .u32 ((val l / 2 ^ k % 2 : Nat) : Int))] V26 kr kr (fun a27 V27 => ?_)
 refine zH ?_
 refine zA ?_
 refine bS hr19 G23 (fun w28 G28 y28 => ?_)
 refine yF ?_
 refine zG (fun K29 Z29 => ?_)
 refine zC ?_
 refine qQ V27 kr (zF (d := 15) (v := .slice none 0 0) V27 kr (zB (t := 26) (g := false) (vs := [.slice none 0 0]) (ad := ⟨b6,0,none⟩) rfl kr kr ir (G28.cells 4 rfl rfl)) ?_)
 intro a30 V30
 refine zD 1 [(16,.int .u32 ((val l / 2 ^ k % 2 : Nat) : Int))] V30 kr kr (fun a31 V31 => ?_)
 refine qQ V31 kr (yG (d := 17) (f := 161) (cap := #[]) (vs := #[.slice none 0 0,.int .u32 ((val l / 2 ^ k % 2 : Nat) : Int)]) V31 kr G28 rfl kr kr (fun w => Tryz.call161 _ w) (zPi _ X0 (qB _) (val l / 2 ^ k % 2) (by omega)) ?_)
 rintro v32 w32 G32 y32 O32 ⟨ls32,ad32,len32,P32,⟨⟨rfl,hl32,hlt32,ho32⟩,hcan32,hval32⟩,hlen32⟩ a33 V33
 have hx32 : val ls32 = 2 * val ([] : List Nat) + val l / 2 ^ k % 2 := by simp only [val]; omega
 rcases ho32 with ⟨rfl,rfl,rfl⟩ | ⟨g32,Q32,rfl,hge32,hget32,D32⟩
 have hn32 : ls32 = [] := List.eq_nil_of_length_eq_zero hl32.symm
 subst hn32
 refine qQ V33 kr (zE (t := 26) (b := b6) (off := 0) (c' := #[.slice none 0 0]) (g := false) (m := 1) 4 _ V33 kr G32 rfl kr rfl kr kr kr rfl (by first | decide | (simp; done)) kr rfl ?_)
 intro w36 G36 y36
 refine zH ?_
 refine zA (Z29 _ _ ?_)
 refine zG (fun K37 Z37 => ?_)
 refine zC ?_
 refine qQ V33 kr (zF (d := 18) (v := .slice none 0 0) V33 kr (zB (t := 26) (g := false) (vs := [.slice none 0 0]) (ad := ⟨b6,0,none⟩) rfl kr kr ir (G36.cells 4 rfl rfl)) ?_)
 intro a38 V38
 refine qQ V38 kr (zF (d := 19) (v := .slice ad2 l2.length P2) V38 kr (zB (t := 26) (g := false) (vs := [.slice ad2 l2.length P2]) (ad := ⟨b2,0,none⟩) rfl kr kr ir (G36.cells 6 rfl rfl)) ?_)
 intro a39 V39
 refine qQ V39 kr (yG (d := 20) (f := 159) (cap := #[]) (vs := #[.slice none 0 0,.slice ad2 l2.length P2]) V39 kr G36 rfl kr kr (fun w => Tryz.call159 _ w) (cK _ X0 (qB _) _ _ _ ([]) (zM.nil none (by omega)) _ _ _ l2 ((h2.mono (qDe y2 y4 y6 y10 y12 y18 y19 y23 y28 y32 y36)).mono Le.x0) (.inl rfl) J2 (by omega)) ?_)
 rintro v40 w40 G40 y40 O40 rfl a41 V41
 refine zD 1 [(21,.bool (decide ((qI (val ([])) (val l2)) ≥ 0)))] V41 kr kr (fun a42 V42 => ?_)
 refine zH ?_
 refine zA (Z37 _ _ ?_)
 refine tX (decide ((qI (val ([])) (val l2)) ≥ 0)) V42 kr kr (fun J43 => ?_) (fun J43 => ?_)
 have V44 := V42.set 21 (v' := .bool true) kr rfl (zK J43)
 have F45 : (qI (val ([])) (val l2)) ≥ 0 := of_decide_eq_true J43
 have hcmp := lF F45
 simp only [val] at hcmp; omega
 have V46 := V42.set 21 (v' := .bool false) kr rfl (zK J43)
 have F47 : ¬ ((qI (val ([])) (val l2)) ≥ 0) := of_decide_eq_false J43
 have hcmp := sQ F47
 refine xQ ?_
 refine jU ?_
 refine pK hr19 G40 (fun w48 G48 y48 => kN.next ?_)
 exact ⟨_,curq,lq,[],none,0,[],(2 * q),G48,(Le6 y23 y28 y32 y36 y40 y48),hrowq,.inl ⟨rfl,rfl,rfl,rfl⟩,(.inl rfl),by rw [hvq,Nat.pow_succ]; ac_rfl,zYh hdiv hx32,hcmp⟩
 subst hl32
 have G34 := St.adopt G32 (fun o h => Nat.not_lt.2 hge32 (G28.lt _ _ h)) (Nat.le_trans G28.upd.size hge32) hget32
 have y34 := Le.adopt y32 hge32
 have G35 := St.mid (B := []) [(l19,.loop (zLr rec19)),(b19,.deferred (some [])),(bx16,.cells #[.slice ad l.length cap] 26 (0,0)),(b10,.cells curq 195 (0,0)),(b6,.cells #[.slice none 0 0] 26 (0,0)),(b4,.cells #[.slice (some ⟨b10,0,none⟩) l.length l.length] 26 (0,0)),(b2,.cells #[.slice ad2 l2.length P2] 26 (0,0))] G34
 have y35 : Le (rd w32 (dO g32 Y23)) (rd w32 (dO g32 Y23)) := Le.refl _
 refine qQ V33 kr (zE (t := 26) (b := b6) (off := 0) (c' := #[.slice (some ⟨g32,0,none⟩) ls32.length P32]) (g := false) (m := 1) 4 _ V33 kr G35 rfl kr rfl kr kr kr rfl (by first | decide | (simp; done)) kr rfl ?_)
 intro w49 G49 y49
 refine zH ?_
 refine zA (Z29 _ _ ?_)
 refine zG (fun K50 Z50 => ?_)
 refine zC ?_
 refine qQ V33 kr (zF (d := 18) (v := .slice (some ⟨g32,0,none⟩) ls32.length P32) V33 kr (zB (t := 26) (g := false) (vs := [.slice (some ⟨g32,0,none⟩) ls32.length P32]) (ad := ⟨b6,0,none⟩) rfl kr kr ir (G49.cells 4 rfl rfl)) ?_)
 intro a51 V51
 refine qQ V51 kr (zF (d := 19) (v := .slice ad2 l2.length P2) V51 kr (zB (t := 26) (g := false) (vs := [.slice ad2 l2.length P2]) (ad := ⟨b2,0,none⟩) rfl kr kr ir (G49.cells 6 rfl rfl)) ?_)
 intro a52 V52
 refine qQ V52 kr (yG (d := 20) (f := 159) (cap := #[]) (vs := #[.slice (some ⟨g32,0,none⟩) ls32.length P32,.slice ad2 l2.length P2]) V52 kr G49 rfl kr kr (fun w => Tryz.call159 _ w) (cK _ X0 (qB _) _ _ _ ls32 (zX.limbs (Y := X0) D32 (G49.get 7 rfl) (fun _ h => h.elim)) _ _ _ l2 ((h2.mono (qJg y2 y4 y6 y10 y12 y18 y19 y23 y28 y34 y35 y49)).mono Le.x0) hcan32 J2 (by omega)) ?_)
 rintro v53 w53 G53 y53 O53 rfl a54 V54
 refine zD 1 [(21,.bool (decide ((qI (val ls32) (val l2)) ≥ 0)))] V54 kr kr (fun a55 V55 => ?_)
 refine zH ?_
 refine zA (Z50 _ _ ?_)
 refine tX (decide ((qI (val ls32) (val l2)) ≥ 0)) V55 kr kr (fun J56 => ?_) (fun J56 => ?_)
 have V57 := V55.set 21 (v' := .bool true) kr rfl (zK J56)
 have F58 : (qI (val ls32) (val l2)) ≥ 0 := of_decide_eq_true J56
 have hcmp := lF F58
 obtain ⟨hset1,hset2,hset3⟩ := zKj lq hrowq.lt k q (by rw [hrowq.len]; exact hkl) hvq
 refine zG (fun K59 Z59 => ?_)
 refine zC ?_
 refine qQ V57 kr (zF (d := 22) (v := .slice (some ⟨g32,0,none⟩) ls32.length P32) V57 kr (zB (t := 26) (g := false) (vs := [.slice (some ⟨g32,0,none⟩) ls32.length P32]) (ad := ⟨b6,0,none⟩) rfl kr kr ir (G53.cells 4 rfl rfl)) ?_)
 intro a60 V60
 refine qQ V60 kr (zF (d := 23) (v := .slice ad2 l2.length P2) V60 kr (zB (t := 26) (g := false) (vs := [.slice ad2 l2.length P2]) (ad := ⟨b2,0,none⟩) rfl kr kr ir (G53.cells 6 rfl rfl)) ?_)
 intro a61 V61
 refine qQ V61 kr (dZ (d := 24) (f := 160) (cap := #[]) (vs := #[.slice (some ⟨g32,0,none⟩) ls32.length P32,.slice ad2 l2.length P2]) 7 V61 kr G53 rfl kr kr (fun w => Tryz.call160 _ w) rfl (wQ _ g32 ls32.length P32 _ ls32 (G53.get 7 rfl) D32 (by omega) _ _ _ l2 ((h2.mono (Le13 y2 y4 y6 y10 y12 y18 y19 y23 y28 y34 y35 y49 y53)).mono (G53.leHG 7 rfl)) (qA D32.lt J2 (by omega)) (by omega)) ?_)
 rintro v62 w62 ob62 ⟨Q62,ls62,rfl,hg62,D62,hcan62,hval62⟩ hob62 G62 y62 a63 V63
 obtain rfl := Option.some.inj (hob62.symm.trans hg62)
 refine qQ V63 kr (zE (t := 26) (b := b6) (off := 0) (c' := #[.slice (some ⟨g32,0,none⟩) ls62.length P32]) (g := false) (m := 1) 4 _ V63 kr G62 rfl kr rfl kr kr kr rfl (by first | decide | (simp; done)) kr rfl ?_)
 intro w64 G64 y64
 refine zH ?_
 refine zA (Z59 _ _ ?_)
 refine lK (N := 11) (yH [(⟨b4,0,none⟩,[.slice (some ⟨b10,0,none⟩) l.length l.length]),(⟨b10,k / 32,none⟩,[.int .u32 ((lq.getD (k / 32) 0 : Nat) : Int)])]) [10] kr kr kr G64 ?_
 intro w65 G65 y65 O65
 refine rP (yH.cons (G65.cells 5 rfl rfl) (yH.cons (G65.rowCells 3 rfl hrowq (by have := hrowq.len; (try simp only [List.length_set] at *); omega)) (yH.nil _))) (fun hH65 => ?_)
 refine sJ (d := 25) (v := .slice (some ⟨b10,0,none⟩) l.length l.length) 0 V63 rfl kr kr kr (fun w hw => zB (t := 26) (g := false) (vs := [.slice (some ⟨b10,0,none⟩) l.length l.length]) (ad := ⟨b4,0,none⟩) rfl kr kr ir (hw.get 0 kr)) hH65 ?_
 intro a66 V66
 refine zJ (d := 26) (v := .int .i64 (k : Int)) 1 V66 rfl kr kr kw (fun _ => hH65) fun a67 V67 => ?_
 refine zJ (d := 27) (v := .int .i64 (i64.wrap (Int.tdiv ((k : Int)) (32)))) 2 V67 rfl kr kr kw (fun _ => hH65) fun a68 V68 => ?_
 have V69 := V68.set 27 (v' := .int .i64 ((k / 32 : Nat) : Int)) kr rfl (zO (mK _ (by omega)))
 refine zJ (d := 28) (v := .pointer (some ⟨b10,k / 32,none⟩)) 3 V69 rfl kr kr (fun w => qY (t := 26) (e := 195) (b := b10) (off := 0) (len := l.length) (cap := l.length) (kd := .i64) (i := ((k / 32 : Nat) : Int)) (g := false) (m := 1) (off' := k / 32) rfl kr kr kr kr (by omega) (by omega) (by first | rfl | omega | (simp; done) | (simp; omega)) w) (fun _ => hH65) fun a70 V70 => ?_
 refine sJ (d := 29) (v := .int .u32 ((lq.getD (k / 32) 0 : Nat) : Int)) 4 V70 rfl kr kr kr (fun w hw => zB (t := 195) (g := false) (vs := [.int .u32 ((lq.getD (k / 32) 0 : Nat) : Int)]) (ad := ⟨b10,k / 32,none⟩) rfl kr kr ir (hw.get 1 kr)) hH65 ?_
 intro a71 V71
 refine zJ (d := 30) (v := .int .i64 (k : Int)) 5 V71 rfl kr kr kw (fun _ => hH65) fun a72 V72 => ?_
 refine zJ (d := 31) (v := .int .i64 (Int.tmod ((k : Int)) (32))) 6 V72 rfl kr kr kw (fun _ => hH65) fun a73 V73 => ?_
 have V74 := V73.set 31 (v' := .int .i64 ((k % 32 : Nat) : Int)) kr rfl (zO (zAj _))
 refine zJ (d := 32) (v := .int .u32 ((2 ^ (k % 32) : Nat) : Int)) 7 V74 rfl kr kr (fun w => zOf rfl rfl rfl (by omega)) (fun _ => hH65) fun a75 V75 => ?_
 refine zJ (d := 33) (v := .int .u32 (wJ ((lq.getD (k / 32) 0 : Nat) : Int) ((2 ^ (k % 32) : Nat) : Int))) 8 V75 rfl kr kr kw (fun _ => hH65) fun a76 V76 => ?_
 have V77 := V76.set 33 (v' := .int .u32 ((lq.getD (k / 32) 0 + 2 ^ (k % 32) : Nat) : Int)) kr rfl (zO hset1)
 refine zJ (d := 34) (v := .pointer (some ⟨b10,k / 32,none⟩)) 9 V77 rfl kr kr (fun w => qY (t := 26) (e := 195) (b := b10) (off := 0) (len := l.length) (cap := l.length) (kd := .i64) (i := ((k / 32 : Nat) : Int)) (g := false) (m := 1) (off' := k / 32) rfl kr kr kr kr (by omega) (by omega) (by first | rfl | omega | (simp; done) | (simp; omega)) w) (fun _ => hH65) fun a78 V78 => ?_
 refine xU [10] kr rfl ?_
 refine jQ.cons (i := 10) V78 rfl kr (rE (t := 195) (y := (lq.getD (k / 32) 0 + 2 ^ (k % 32))) (k := k / 32) (e := ((lq.getD (k / 32) 0 + 2 ^ (k % 32) : Nat) : Int)) 3 V78 kr G65 rfl rfl rfl (rfl) kr rfl hrowq (by have := hrowq.len; (try simp only [List.length_set] at *); omega) (hset2) ?_) jQ.nil
 intro Q79 w79 D79 G79 y79
 refine ⟨sM kr,?_⟩
 refine zAh kr (nrm ?_)
 refine jU ?_
 refine pK hr19 G79 (fun w80 G80 y80 => kN.next ?_)
 exact ⟨_,Q79,(lq.set (k / 32) (lq.getD (k / 32) 0 + 2 ^ (k % 32))),[(g32,.cells Q62 195 (0,0))],(some ⟨g32,0,none⟩),P32,ls62,(2 * q + 1),G80,(qDe y23 y28 y34 y35 y49 y53 y62 y64 y65 y79 y80),D79,.inr ⟨_,_,rfl,rfl,D62⟩,hcan62,by rw [hset3,hvq,Nat.pow_succ,Nat.mul_add,Nat.mul_one]; congr 1; ac_rfl,qEh hdiv (hval62.trans (by rw [hx32])) (by omega),by have := hval62; omega⟩
 have V81 := V55.set 21 (v' := .bool false) kr rfl (zK J56)
 have F82 : ¬ ((qI (val ls32) (val l2)) ≥ 0) := of_decide_eq_false J56
 have hcmp := sQ F82
 refine xQ ?_
 refine jU ?_
 refine pK hr19 G53 (fun w83 G83 y83 => kN.next ?_)
 exact ⟨_,curq,lq,[(g32,.cells Q32 195 (0,0))],(some ⟨g32,0,none⟩),P32,ls32,(2 * q),G83,(Le7 y23 y28 y34 y35 y49 y53 y83),hrowq,.inr ⟨_,_,rfl,rfl,D32⟩,hcan32,by rw [hvq,Nat.pow_succ]; ac_rfl,zYh hdiv hx32,hcmp⟩
 refine zG (fun K84 Z84 => ?_)
 refine zC ?_
 refine zD 1 [(6,.int .i64 (k : Int))] V24 kr kr (fun a85 V85 => ?_)
 refine zH ?_
 refine zA (Z84 _ _ ?_)
 refine zC ?_
 refine zD 1 [(7,.int .u32 ((val l / 2 ^ k % 2 : Nat) : Int))] V85 kr kr (fun a86 V86 => ?_)
 refine zH ?_
 refine zA ?_
 refine bS hr19 G23 (fun w87 G87 y87 => ?_)
 refine yF ?_
 refine zG (fun K88 Z88 => ?_)
 refine zC ?_
 refine qQ V86 kr (zF (d := 15) (v := .slice (some ⟨gr,0,none⟩) lr.length capr) V86 kr (zB (t := 26) (g := false) (vs := [.slice (some ⟨gr,0,none⟩) lr.length capr]) (ad := ⟨b6,0,none⟩) rfl kr kr ir (G87.cells 4 rfl rfl)) ?_)
 intro a89 V89
 refine zD 1 [(16,.int .u32 ((val l / 2 ^ k % 2 : Nat) : Int))] V89 kr kr (fun a90 V90 => ?_)
 have hlnr := qA h2.hlt hcanlr (Nat.le_of_lt hlt)
 refine qQ V90 kr (zNk (d := 17) (f := 161) (cap := #[]) (vs := #[.slice (some ⟨gr,0,none⟩) lr.length capr,.int .u32 ((val l / 2 ^ k % 2 : Nat) : Int)]) 7 V90 kr G87 rfl kr kr (fun w => Tryz.call161 _ w) rfl (zMc _ gr lr.length capr _ lr (G87.get 7 rfl) hrowr (by omega) hcanlr (val l / 2 ^ k % 2) (by omega)) ?_)
 rintro v91 w91 Y91 g91 o91 ⟨Q91,P91,ls91,rfl,rfl,D91,hlen91,hcan91,hval91⟩ G91 y91 a92 V92
 refine qQ V92 kr (zE (t := 26) (b := b6) (off := 0) (c' := #[.slice (some ⟨g91,0,none⟩) ls91.length P91]) (g := false) (m := 1) 4 _ V92 kr G91 rfl kr rfl kr kr kr rfl (by first | decide | (simp; done)) kr rfl ?_)
 intro w93 G93 y93
 refine zH ?_
 refine zA (Z88 _ _ ?_)
 refine zG (fun K94 Z94 => ?_)
 refine zC ?_
 refine qQ V92 kr (zF (d := 18) (v := .slice (some ⟨g91,0,none⟩) ls91.length P91) V92 kr (zB (t := 26) (g := false) (vs := [.slice (some ⟨g91,0,none⟩) ls91.length P91]) (ad := ⟨b6,0,none⟩) rfl kr kr ir (G93.cells 4 rfl rfl)) ?_)
 intro a95 V95
 refine qQ V95 kr (zF (d := 19) (v := .slice ad2 l2.length P2) V95 kr (zB (t := 26) (g := false) (vs := [.slice ad2 l2.length P2]) (ad := ⟨b2,0,none⟩) rfl kr kr ir (G93.cells 6 rfl rfl)) ?_)
 intro a96 V96
 refine qQ V96 kr (yG (d := 20) (f := 159) (cap := #[]) (vs := #[.slice (some ⟨g91,0,none⟩) ls91.length P91,.slice ad2 l2.length P2]) V96 kr G93 rfl kr kr (fun w => Tryz.call159 _ w) (cK _ X0 (qB _) _ _ _ ls91 (zX.limbs (Y := X0) D91 (G93.get 7 rfl) (fun _ h => h.elim)) _ _ _ l2 ((h2.mono (qDe y2 y4 y6 y10 y12 y18 y19 y23 y87 y91 y93)).mono Le.x0) hcan91 J2 (by omega)) ?_)
 rintro v97 w97 G97 y97 O97 rfl a98 V98
 refine zD 1 [(21,.bool (decide ((qI (val ls91) (val l2)) ≥ 0)))] V98 kr kr (fun a99 V99 => ?_)
 refine zH ?_
 refine zA (Z94 _ _ ?_)
 refine tX (decide ((qI (val ls91) (val l2)) ≥ 0)) V99 kr kr (fun J100 => ?_) (fun J100 => ?_)
 have V101 := V99.set 21 (v' := .bool true) kr rfl (zK J100)
 have F102 : (qI (val ls91) (val l2)) ≥ 0 := of_decide_eq_true J100
 have hcmp := lF F102
 obtain ⟨hset1,hset2,hset3⟩ := zKj lq hrowq.lt k q (by rw [hrowq.len]; exact hkl) hvq
 refine zG (fun K103 Z103 => ?_)
 refine zC ?_
 refine qQ V101 kr (zF (d := 22) (v := .slice (some ⟨g91,0,none⟩) ls91.length P91) V101 kr (zB (t := 26) (g := false) (vs := [.slice (some ⟨g91,0,none⟩) ls91.length P91]) (ad := ⟨b6,0,none⟩) rfl kr kr ir (G97.cells 4 rfl rfl)) ?_)
 intro a104 V104
 refine qQ V104 kr (zF (d := 23) (v := .slice ad2 l2.length P2) V104 kr (zB (t := 26) (g := false) (vs := [.slice ad2 l2.length P2]) (ad := ⟨b2,0,none⟩) rfl kr kr ir (G97.cells 6 rfl rfl)) ?_)
 intro a105 V105
 refine qQ V105 kr (dZ (d := 24) (f := 160) (cap := #[]) (vs := #[.slice (some ⟨g91,0,none⟩) ls91.length P91,.slice ad2 l2.length P2]) 7 V105 kr G97 rfl kr kr (fun w => Tryz.call160 _ w) rfl (wQ _ g91 ls91.length P91 _ ls91 (G97.get 7 rfl) D91 (by omega) _ _ _ l2 ((h2.mono (qJg y2 y4 y6 y10 y12 y18 y19 y23 y87 y91 y93 y97)).mono (G97.leHG 7 rfl)) (qA D91.lt J2 (by omega)) (by omega)) ?_)
 rintro v106 w106 ob106 ⟨Q106,ls106,rfl,hg106,D106,hcan106,hval106⟩ hob106 G106 y106 a107 V107
 obtain rfl := Option.some.inj (hob106.symm.trans hg106)
 refine qQ V107 kr (zE (t := 26) (b := b6) (off := 0) (c' := #[.slice (some ⟨g91,0,none⟩) ls106.length P91]) (g := false) (m := 1) 4 _ V107 kr G106 rfl kr rfl kr kr kr rfl (by first | decide | (simp; done)) kr rfl ?_)
 intro w108 G108 y108
 refine zH ?_
 refine zA (Z103 _ _ ?_)
 refine lK (N := 11) (yH [(⟨b4,0,none⟩,[.slice (some ⟨b10,0,none⟩) l.length l.length]),(⟨b10,k / 32,none⟩,[.int .u32 ((lq.getD (k / 32) 0 : Nat) : Int)])]) [10] kr kr kr G108 ?_
 intro w109 G109 y109 O109
 refine rP (yH.cons (G109.cells 5 rfl rfl) (yH.cons (G109.rowCells 3 rfl hrowq (by have := hrowq.len; (try simp only [List.length_set] at *); omega)) (yH.nil _))) (fun hH109 => ?_)
 refine sJ (d := 25) (v := .slice (some ⟨b10,0,none⟩) l.length l.length) 0 V107 rfl kr kr kr (fun w hw => zB (t := 26) (g := false) (vs := [.slice (some ⟨b10,0,none⟩) l.length l.length]) (ad := ⟨b4,0,none⟩) rfl kr kr ir (hw.get 0 kr)) hH109 ?_
 intro a110 V110
 refine zJ (d := 26) (v := .int .i64 (k : Int)) 1 V110 rfl kr kr kw (fun _ => hH109) fun a111 V111 => ?_
 refine zJ (d := 27) (v := .int .i64 (i64.wrap (Int.tdiv ((k : Int)) (32)))) 2 V111 rfl kr kr kw (fun _ => hH109) fun a112 V112 => ?_
 have V113 := V112.set 27 (v' := .int .i64 ((k / 32 : Nat) : Int)) kr rfl (zO (mK _ (by omega)))
 refine zJ (d := 28) (v := .pointer (some ⟨b10,k / 32,none⟩)) 3 V113 rfl kr kr (fun w => qY (t := 26) (e := 195) (b := b10) (off := 0) (len := l.length) (cap := l.length) (kd := .i64) (i := ((k / 32 : Nat) : Int)) (g := false) (m := 1) (off' := k / 32) rfl kr kr kr kr (by omega) (by omega) (by first | rfl | omega | (simp; done) | (simp; omega)) w) (fun _ => hH109) fun a114 V114 => ?_
 refine sJ (d := 29) (v := .int .u32 ((lq.getD (k / 32) 0 : Nat) : Int)) 4 V114 rfl kr kr kr (fun w hw => zB (t := 195) (g := false) (vs := [.int .u32 ((lq.getD (k / 32) 0 : Nat) : Int)]) (ad := ⟨b10,k / 32,none⟩) rfl kr kr ir (hw.get 1 kr)) hH109 ?_
 intro a115 V115
 refine zJ (d := 30) (v := .int .i64 (k : Int)) 5 V115 rfl kr kr kw (fun _ => hH109) fun a116 V116 => ?_
 refine zJ (d := 31) (v := .int .i64 (Int.tmod ((k : Int)) (32))) 6 V116 rfl kr kr kw (fun _ => hH109) fun a117 V117 => ?_
 have V118 := V117.set 31 (v' := .int .i64 ((k % 32 : Nat) : Int)) kr rfl (zO (zAj _))
 refine zJ (d := 32) (v := .int .u32 ((2 ^ (k % 32) : Nat) : Int)) 7 V118 rfl kr kr (fun w => zOf rfl rfl rfl (by omega)) (fun _ => hH109) fun a119 V119 => ?_
 refine zJ (d := 33) (v := .int .u32 (wJ ((lq.getD (k / 32) 0 : Nat) : Int) ((2 ^ (k % 32) : Nat) : Int))) 8 V119 rfl kr kr kw (fun _ => hH109) fun a120 V120 => ?_
 have V121 := V120.set 33 (v' := .int .u32 ((lq.getD (k / 32) 0 + 2 ^ (k % 32) : Nat) : Int)) kr rfl (zO hset1)
 refine zJ (d := 34) (v := .pointer (some ⟨b10,k / 32,none⟩)) 9 V121 rfl kr kr (fun w => qY (t := 26) (e := 195) (b := b10) (off := 0) (len := l.length) (cap := l.length) (kd := .i64) (i := ((k / 32 : Nat) : Int)) (g := false) (m := 1) (off' := k / 32) rfl kr kr kr kr (by omega) (by omega) (by first | rfl | omega | (simp; done) | (simp; omega)) w) (fun _ => hH109) fun a122 V122 => ?_
 refine xU [10] kr rfl ?_
 refine jQ.cons (i := 10) V122 rfl kr (rE (t := 195) (y := (lq.getD (k / 32) 0 + 2 ^ (k % 32))) (k := k / 32) (e := ((lq.getD (k / 32) 0 + 2 ^ (k % 32) : Nat) : Int)) 3 V122 kr G109 rfl rfl rfl (rfl) kr rfl hrowq (by have := hrowq.len; (try simp only [List.length_set] at *); omega) (hset2) ?_) jQ.nil
 intro Q123 w123 D123 G123 y123
 refine ⟨sM kr,?_⟩
 refine zAh kr (nrm ?_)
 refine jU ?_
 refine pK hr19 G123 (fun w124 G124 y124 => kN.next ?_)
 exact ⟨_,Q123,(lq.set (k / 32) (lq.getD (k / 32) 0 + 2 ^ (k % 32))),[(g91,.cells Q106 195 (0,0))],(some ⟨g91,0,none⟩),P91,ls106,(2 * q + 1),G124,(Le10 y23 y87 y91 y93 y97 y106 y108 y109 y123 y124),D123,.inr ⟨_,_,rfl,rfl,D106⟩,hcan106,by rw [hset3,hvq,Nat.pow_succ,Nat.mul_add,Nat.mul_one]; congr 1; ac_rfl,qEh hdiv (hval106.trans (by rw [hval91])) (by omega),by have := hval106; omega⟩
 have V125 := V99.set 21 (v' := .bool false) kr rfl (zK J100)
 have F126 : ¬ ((qI (val ls91) (val l2)) ≥ 0) := of_decide_eq_false J100
 have hcmp := sQ F126
 refine xQ ?_
 refine jU ?_
 refine pK hr19 G97 (fun w127 G127 y127 => kN.next ?_)
 exact ⟨_,curq,lq,[(g91,.cells Q91 195 (0,0))],(some ⟨g91,0,none⟩),P91,ls91,(2 * q),G127,(Le6 y23 y87 y91 y93 y97 y127),hrowq,.inr ⟨_,_,rfl,rfl,D91⟩,hcan91,by rw [hvq,Nat.pow_succ]; ac_rfl,zYh hdiv hval91,hcmp⟩
 rintro w128 ⟨Y128,curq,lq,rb,adr,capr,lr,q,G128,y128,hp128_0,hp128_1,hp128_2,hp128_3,hp128_4,hp128_5⟩
 refine kY.norm hr19 G128 (fun w129 G129 y129 => ?_)
 have hrowq := hp128_0
 have hrst := hp128_1
 have hcanlr := hp128_2
 have hvq := hp128_3
 have hdiv := hp128_4
 have hlt := hp128_5
 rcases hrst with ⟨rfl,rfl,rfl,rfl⟩ | ⟨gr,curr,rfl,rfl,hrowr⟩
 refine jU ?_
 refine zA (Z13 _ _ ?_)
 refine zG (fun K130 Z130 => ?_)
 refine lK (N := 5) (yH [(⟨b6,0,none⟩,[.slice none 0 0])]) [4] kr kr kr G129 ?_
 intro w131 G131 y131 O131
 refine rP (yH.cons (G131.cells 4 rfl rfl) (yH.nil _)) (fun hH131 => ?_)
 refine sJ (d := 37) (v := .slice none 0 0) 2 V20 rfl kr kr kr (fun w hw => zB (t := 26) (g := false) (vs := [.slice none 0 0]) (ad := ⟨b6,0,none⟩) rfl kr kr ir (hw.get 0 kr)) hH131 ?_
 intro a132 V132
 refine xU [0] kr rfl ?_
 refine jQ.cons (i := 0) V132 rfl kr (zF (d := 35) (v := .slice (some ⟨b10,0,none⟩) l.length l.length) V132 kr (zB (t := 26) (g := false) (vs := [.slice (some ⟨b10,0,none⟩) l.length l.length]) (ad := ⟨b4,0,none⟩) rfl kr kr ir (G131.cells 5 rfl rfl)) ?_) jQ.nil
 intro a133 V133
 refine xP (yH.cons (G131.cells 4 rfl rfl) (yH.nil _)) (fun hH131 => ?_)
 refine xU [1] kr rfl ?_
 refine jQ.cons (i := 1) V133 rfl kr (yG (d := 36) (f := 171) (cap := #[]) (vs := #[.slice (some ⟨b10,0,none⟩) l.length l.length]) V133 kr G131 rfl kr kr (fun w => Tryz.call171 _ w) (fQ _ X0 (qB _) _ _ _ lq (zX.limbs (Y := X0) hrowq (G131.get 3 rfl) (fun _ h => h.elim))) ?_) jQ.nil
 rintro v134 w134 G134 y134 O134 rfl a135 V135
 refine xP (yH.cons (G134.cells 4 rfl rfl) (yH.nil _)) (fun hH134 => ?_)
 refine xU [3] kr rfl ?_
 refine jQ.cons (i := 3) V135 rfl kr (zE (t := 26) (b := b4) (off := 0) (c' := #[.slice (some ⟨b10,0,none⟩) (qP lq) l.length]) (g := false) (m := 1) 5 _ V135 kr G134 rfl kr rfl kr kr kr rfl (by first | decide | (simp; done)) kr rfl ?_) jQ.nil
 intro w136 G136 y136
 refine xP (yH.cons (G136.cells 4 rfl rfl) (yH.nil _)) (fun hH136 => ?_)
 refine xU [4] kr rfl ?_
 refine jQ.cons (i := 4) V135 rfl kr (zE (t := 26) (b := b6) (off := 0) (c' := #[.slice none 0 0]) (g := false) (m := 1) 4 _ V135 kr G136 rfl kr rfl kr kr kr rfl (by first | decide | (simp; done)) kr rfl ?_) jQ.nil
 intro w137 G137 y137
 refine ⟨sM kr,?_⟩
 refine zAh kr (nrm ?_)
 refine zA (Z130 _ _ ?_)
 refine sV ?_
 refine zJn (v := .tuple #[.slice (some ⟨b10,0,none⟩) (qP lq) l.length,.slice none 0 0]) (rs := [.cell 4 26,.cell 5 26]) (vs := [.slice (some ⟨b10,0,none⟩) (qP lq) l.length,.slice none 0 0]) 1 V135 G137 rfl kr kr (fun w138 G138 y138 => ?_)
 refine ⟨(Res.cell (ad := ⟨b4,0,none⟩) (cs := [.slice (some ⟨b10,0,none⟩) (qP lq) l.length]) (g := false) kr kr kr ir (G138.cells 5 rfl rfl) (Res.cell (ad := ⟨b6,0,none⟩) (cs := [.slice none 0 0]) (g := false) kr kr kr ir (G138.cells 4 rfl rfl) Res.nil)),?_⟩
 obtain ⟨he1,he2⟩ := zPh hdiv hlt hvq
 exact ⟨G138.upd,_,rfl,_,_,Go.Gv.trimmed lq,[],_,_,_,_,_,_,rfl,⟨⟨rfl,(jF _).symm,xV hrowq.lt,.inr ⟨_,_,rfl,G138.own_ge 3 rfl,G138.get 3 rfl,hrowq.trimmed⟩⟩,qU _,by rw [jE]; exact he1⟩,⟨⟨rfl,rfl,fun x hx => by simp at hx,.inl ⟨rfl,rfl,rfl⟩⟩,.inl rfl,he2⟩⟩
 refine jU ?_
 refine zA (Z13 _ _ ?_)
 refine zG (fun K139 Z139 => ?_)
 refine lK (N := 5) (yH [(⟨b6,0,none⟩,[.slice (some ⟨gr,0,none⟩) lr.length capr])]) [4] kr kr kr G129 ?_
 intro w140 G140 y140 O140
 refine rP (yH.cons (G140.cells 4 rfl rfl) (yH.nil _)) (fun hH140 => ?_)
 refine sJ (d := 37) (v := .slice (some ⟨gr,0,none⟩) lr.length capr) 2 V20 rfl kr kr kr (fun w hw => zB (t := 26) (g := false) (vs := [.slice (some ⟨gr,0,none⟩) lr.length capr]) (ad := ⟨b6,0,none⟩) rfl kr kr ir (hw.get 0 kr)) hH140 ?_
 intro a141 V141
 refine xU [0] kr rfl ?_
 refine jQ.cons (i := 0) V141 rfl kr (zF (d := 35) (v := .slice (some ⟨b10,0,none⟩) l.length l.length) V141 kr (zB (t := 26) (g := false) (vs := [.slice (some ⟨b10,0,none⟩) l.length l.length]) (ad := ⟨b4,0,none⟩) rfl kr kr ir (G140.cells 5 rfl rfl)) ?_) jQ.nil
 intro a142 V142
 refine xP (yH.cons (G140.cells 4 rfl rfl) (yH.nil _)) (fun hH140 => ?_)
 refine xU [1] kr rfl ?_
 refine jQ.cons (i := 1) V142 rfl kr (yG (d := 36) (f := 171) (cap := #[]) (vs := #[.slice (some ⟨b10,0,none⟩) l.length l.length]) V142 kr G140 rfl kr kr (fun w => Tryz.call171 _ w) (fQ _ X0 (qB _) _ _ _ lq (zX.limbs (Y := X0) hrowq (G140.get 3 rfl) (fun _ h => h.elim))) ?_) jQ.nil
 rintro v143 w143 G143 y143 O143 rfl a144 V144
 refine xP (yH.cons (G143.cells 4 rfl rfl) (yH.nil _)) (fun hH143 => ?_)
 refine xU [3] kr rfl ?_
 refine jQ.cons (i := 3) V144 rfl kr (zE (t := 26) (b := b4) (off := 0) (c' := #[.slice (some ⟨b10,0,none⟩) (qP lq) l.length]) (g := false) (m := 1) 5 _ V144 kr G143 rfl kr rfl kr kr kr rfl (by first | decide | (simp; done)) kr rfl ?_) jQ.nil
 intro w145 G145 y145
 refine xP (yH.cons (G145.cells 4 rfl rfl) (yH.nil _)) (fun hH145 => ?_)
 refine xU [4] kr rfl ?_
 refine jQ.cons (i := 4) V144 rfl kr (zE (t := 26) (b := b6) (off := 0) (c' := #[.slice (some ⟨gr,0,none⟩) lr.length capr]) (g := false) (m := 1) 4 _ V144 kr G145 rfl kr rfl kr kr kr rfl (by first | decide | (simp; done)) kr rfl ?_) jQ.nil
 intro w146 G146 y146
 refine ⟨sM kr,?_⟩
 refine zAh kr (nrm ?_)
 refine zA (Z139 _ _ ?_)
 refine sV ?_
 refine zJn (v := .tuple #[.slice (some ⟨b10,0,none⟩) (qP lq) l.length,.slice (some ⟨gr,0,none⟩) lr.length capr]) (rs := [.cell 4 26,.cell 5 26]) (vs := [.slice (some ⟨b10,0,none⟩) (qP lq) l.length,.slice (some ⟨gr,0,none⟩) lr.length capr]) 1 V144 G146 rfl kr kr (fun w147 G147 y147 => ?_)
 refine ⟨(Res.cell (ad := ⟨b4,0,none⟩) (cs := [.slice (some ⟨b10,0,none⟩) (qP lq) l.length]) (g := false) kr kr kr ir (G147.cells 5 rfl rfl) (Res.cell (ad := ⟨b6,0,none⟩) (cs := [.slice (some ⟨gr,0,none⟩) lr.length capr]) (g := false) kr kr kr ir (G147.cells 4 rfl rfl) Res.nil)),?_⟩
 obtain ⟨he1,he2⟩ := zPh hdiv hlt hvq
 exact ⟨G147.upd,_,rfl,_,_,Go.Gv.trimmed lq,lr,_,_,_,_,_,_,rfl,⟨⟨rfl,(jF _).symm,xV hrowq.lt,.inr ⟨_,_,rfl,G147.own_ge 3 rfl,G147.get 3 rfl,hrowq.trimmed⟩⟩,qU _,by rw [jE]; exact he1⟩,⟨⟨rfl,rfl,hrowr.lt,.inr ⟨_,_,rfl,G147.own_ge 7 rfl,G147.get 7 rfl,hrowr⟩⟩,hcanlr,he2⟩⟩
 intro k w9 O9 hm1 hm2
 exact ⟨_,(List.replicate l.length (Value.int .u32 0)).toArray,(List.replicate l.length 0),[],none,0,[],0,G19.call O9,O9.le _,D10,.inl ⟨rfl,rfl,rfl,rfl⟩,.inl rfl,by rw [yR]; rfl,by rw [Nat.div_eq_of_lt hm1]; simp [val],hd⟩
set_option maxHeartbeats 1000000
def zBc (y : Nat) : Int := if y = 0 then 14 else 0
theorem zKz (w : World) (X : Hid) (hX : ∀ k o,X k o → k < w.heap.size) (ad : Option Addr) (len cap : Nat) (l : List Nat) (h : zM (rd w X) ad len cap l) (ad2 : Option Addr) (len2 P2 : Nat) (l2 : List Nat) (h2 : zM (rd w X) ad2 len2 P2 l2) : Calls Tryz.prog 169 #[.slice ad len cap,.slice ad2 len2 P2] w (Ret E0 w fun w' v => DivV 195 w w' (or2 (kD l l2) (zBc (val l2))) (val l / val l2) (val l % val l2) v) := by
 obtain rfl := h.hlen
 obtain rfl := h2.hlen
 have hcap := h.hcap
 have hbig := h.hbig
 have hcap2 := h2.hcap
 have hbig2 := h2.hbig
 refine zen Tryz.func169 ?_
 have G0 : St E0 w X w X [] := St.start hX
 refine zz 12 ?_
 refine zc G0 (dA _ X0 (qB _) _ _ _ l (h.mono Le.x0) _ _ _ l2 (h2.mono Le.x0)) ?_
 rintro v3 w3 G3 y3 O3 rfl
 refine zz 11 ?_
 refine zb 11 (b := ((kD l l2) != 0)) (fun J4 => ?_) (fun J4 => ?_)
 have F5 : (kD l l2) ≠ 0 := by simpa using J4
 refine zz 12 ?_
 refine zr' (v := .tuple #[.slice none 0 0,.slice none 0 0,.int .i64 (kD l l2)]) ?_
 exact ⟨G3.upd,_,rfl,by rw [cB F5]; exact .inl ⟨F5,rfl⟩⟩
 have F6 : (kD l l2) = 0 := by simpa using J4
 obtain ⟨⟨hl1,c1⟩,hl2,c2⟩ := dE F6
 refine zz 9 ?_
 refine zb 15 (b := ((l2.length : Int) == 0)) (fun J7 => ?_) (fun J7 => ?_)
 have F8 : (l2.length : Int) = 0 := by simpa using J7
 have hz : val l2 = 0 := by rw [List.eq_nil_of_length_eq_zero (by omega : l2.length = 0)]; rfl
 refine zz 11 ?_
 refine zr' (v := .tuple #[.slice none 0 0,.slice none 0 0,.int .i64 14]) ?_
 exact ⟨G3.upd,_,rfl,by rw [xG F6,zBc,if_pos hz]; exact .inl ⟨by decide,rfl⟩⟩
 have F9 : (l2.length : Int) ≠ 0 := by simpa using J7
 have hp : 0 < val l2 := wC c2 (by rintro rfl; simp at F9)
 refine zz 8 ?_
 refine zc G3 (zYi _ X0 (qB _) _ _ _ l ((h.mono y3).mono Le.x0) _ _ _ l2 ((h2.mono y3).mono Le.x0) c1 c2 (by omega) (by omega) hp) ?_
 rintro v11 w11 G11 y11 O11 ⟨u11,v211,lq11,qOr,adq11,lenq11,capq11,adr11,lenr11,capr11,rfl,hq11,hr11⟩
 obtain rfl := hq11.own.hv; obtain rfl := hr11.own.hv
 refine zz 17 ?_
 refine zr' (v := .tuple #[.slice adq11 lenq11 capq11,.slice adr11 lenr11 capr11,.int .i64 0]) ?_
 have hsz := (G3).upd.size
 exact ⟨G11.upd,_,rfl,by rw [xG F6,zBc,if_neg (by omega)]; exact .inr ⟨rfl,_,_,_,_,_,_,_,_,_,_,rfl,hq11.back hsz,Nat.le_trans (qA h.hlt hq11.canon (by rw [hq11.val]; exact Nat.div_le_self _ _)) hl1,hr11.back hsz,Nat.le_trans (qA h.hlt hr11.canon (by rw [hr11.val]; exact Nat.mod_le _ _)) hl1⟩⟩
set_option maxHeartbeats 1000000
theorem lC {l l2 : List Nat} (h : l.length ≤ 512) (hc : zV l) (h2 : l2.length ≤ 512) (J2 : zV l2) : kD l l2 = 0 := by
 unfold kD; rw [zBv h hc,zBv h2 J2]; rfl
theorem qRb (w : World) (ad : Option Addr) (len cap x : Nat) (h : qC (rd w X0) ad len cap x) (ad2 : Option Addr) (len2 P2 y : Nat) (h2 : qC (rd w X0) ad2 len2 P2 y) (hx : x < 4294967296 ^ 512) (hy : y < 4294967296 ^ 512) (hf : x * y < 4294967296 ^ 512) : Calls Tryz.prog 170 #[.slice ad len cap,.slice ad2 len2 P2] w (Ret E0 w fun w' v => ∃ u,v = .tuple #[u,.int .i64 0] ∧ zBd w w' u (x * y)) := by
 obtain ⟨l,hl,hc,rfl,hn⟩ := h.limbs hx
 obtain ⟨l2,hl2,J2,rfl,hn2⟩ := h2.limbs hy
 refine (qRa w X0 (qB _) ad len cap l hl ad2 len2 P2 l2 hl2).mono ?_
 rintro e w' ⟨hu,v,rfl,hv⟩
 obtain ⟨u,lr,adr,lenr,capr,rfl,hown,_⟩ := hv.ok (by rw [xG (lC hn hc hn2 J2)]; unfold zUo; rw [if_pos hf])
 exact ⟨hu,_,rfl,u,rfl,hown.natV⟩
theorem qQx (w : World) (ad : Option Addr) (len cap x : Nat) (h : qC (rd w X0) ad len cap x) (ad2 : Option Addr) (len2 P2 y : Nat) (h2 : qC (rd w X0) ad2 len2 P2 y) (hx : x < 4294967296 ^ 512) (hy : y < 4294967296 ^ 512) (hf : x + y < 4294967296 ^ 512) : Calls Tryz.prog 172 #[.slice ad len cap,.slice ad2 len2 P2] w (Ret E0 w fun w' v => ∃ u,v = .tuple #[u,.int .i64 0] ∧ zBd w w' u (x + y)) := by
 obtain ⟨l,hl,hc,rfl,hn⟩ := h.limbs hx
 obtain ⟨l2,hl2,J2,rfl,hn2⟩ := h2.limbs hy
 refine (qQw w X0 (qB _) ad len cap l hl ad2 len2 P2 l2 hl2).mono ?_
 rintro e w' ⟨hu,v,rfl,hv⟩
 obtain ⟨u,lr,adr,lenr,capr,rfl,hown,_⟩ := hv.ok (by rw [xG (lC hn hc hn2 J2)]; unfold zUo; rw [if_pos hf])
 exact ⟨hu,_,rfl,u,rfl,hown.natV⟩
theorem qIh (w : World) (ad : Option Addr) (len cap x : Nat) (h : qC (rd w X0) ad len cap x) (ad2 : Option Addr) (len2 P2 y : Nat) (h2 : qC (rd w X0) ad2 len2 P2 y) (hx : x < 4294967296 ^ 512) (hy : y < 4294967296 ^ 512) (hf : y ≤ x) : Calls Tryz.prog 173 #[.slice ad len cap,.slice ad2 len2 P2] w (Ret E0 w fun w' v => ∃ u,v = .tuple #[u,.int .i64 0] ∧ zBd w w' u (x - y)) := by
 obtain ⟨l,hl,hc,rfl,hn⟩ := h.limbs hx
 obtain ⟨l2,hl2,J2,rfl,hn2⟩ := h2.limbs hy
 refine (qIg w X0 (qB _) ad len cap l hl ad2 len2 P2 l2 hl2).mono ?_
 rintro e w' ⟨hu,v,rfl,hv⟩
 obtain ⟨u,lr,adr,lenr,capr,rfl,hown,_⟩ := hv.ok (by rw [xG (lC hn hc hn2 J2)]; unfold zQq; rw [if_neg (by omega)])
 exact ⟨hu,_,rfl,u,rfl,hown.natV⟩
theorem zWv (w : World) (ad : Option Addr) (len cap x : Nat) (h : qC (rd w X0) ad len cap x) (ad2 : Option Addr) (len2 P2 y : Nat) (h2 : qC (rd w X0) ad2 len2 P2 y) (hx : x < 4294967296 ^ 512) (hy : y < 4294967296 ^ 512) (hf : x < y) : Calls Tryz.prog 173 #[.slice ad len cap,.slice ad2 len2 P2] w (Ret E0 w fun _ v => v = .tuple #[.slice none 0 0,.int .i64 7]) := by
 obtain ⟨l,hl,hc,rfl,hn⟩ := h.limbs hx
 obtain ⟨l2,hl2,J2,rfl,hn2⟩ := h2.limbs hy
 refine (qIg w X0 (qB _) ad len cap l hl ad2 len2 P2 l2 hl2).mono ?_
 rintro e w' ⟨hu,v,rfl,hv⟩
 have he : or2 (kD l l2) (zQq (val l) (val l2)) = 7 := by rw [xG (lC hn hc hn2 J2)]; unfold zQq; rw [if_pos hf]
 rw [he] at hv
 exact ⟨hu,_,rfl,hv.err (by decide)⟩
theorem zWh (w : World) (ad : Option Addr) (len cap x : Nat) (h : qC (rd w X0) ad len cap x) (ad2 : Option Addr) (len2 P2 y : Nat) (h2 : qC (rd w X0) ad2 len2 P2 y) (hx : x < 4294967296 ^ 512) (hy : y < 4294967296 ^ 512) : Calls Tryz.prog 108 #[.slice ad len cap,.slice ad2 len2 P2] w (Ret E0 w fun w' v => ∃ u,v = .tuple #[u,.int .i64 0] ∧ zBd w w' u (Nat.gcd x y)) := by
 obtain ⟨l,hl,hc,rfl,hn⟩ := h.limbs hx
 obtain ⟨l2,hl2,J2,rfl,hn2⟩ := h2.limbs hy
 refine (qQz w X0 (qB _) ad len cap l hl ad2 len2 P2 l2 hl2).mono ?_
 rintro e w' ⟨hu,v,rfl,hv⟩
 obtain ⟨u,lr,adr,lenr,capr,rfl,hown,_⟩ := hv.ok (lC hn hc hn2 J2)
 exact ⟨hu,_,rfl,u,rfl,hown.natV⟩
theorem zLa (w : World) (ad : Option Addr) (len cap x : Nat) (h : qC (rd w X0) ad len cap x) (ad2 : Option Addr) (len2 P2 y : Nat) (h2 : qC (rd w X0) ad2 len2 P2 y) (hx : x < 4294967296 ^ 512) (hy : y < 4294967296 ^ 512) (hd : 0 < y) : Calls Tryz.prog 169 #[.slice ad len cap,.slice ad2 len2 P2] w (Ret E0 w fun w' v => ∃ u u2,v = .tuple #[u,u2,.int .i64 0] ∧ zBd w w' u (x / y) ∧ zBd w w' u2 (x % y)) := by
 obtain ⟨l,hl,hc,rfl,hn⟩ := h.limbs hx
 obtain ⟨l2,hl2,J2,rfl,hn2⟩ := h2.limbs hy
 refine (zKz w X0 (qB _) ad len cap l hl ad2 len2 P2 l2 hl2).mono ?_
 rintro e w' ⟨hu,v,rfl,hv⟩
 have he : or2 (kD l l2) (zBc (val l2)) = 0 := by rw [xG (lC hn hc hn2 J2)]; unfold zBc; rw [if_neg (by omega)]
 rcases hv with ⟨h0,_⟩ | ⟨_,u,u2,a1,a2,a3,a4,a5,a6,a7,a8,rfl,hq,_,hr,_⟩
 ·exact absurd he h0
 ·exact ⟨hu,_,rfl,u,u2,rfl,hq.natV,hr.natV⟩
theorem zBw (w : World) (ad : Option Addr) (len cap x : Nat) (h : qC (rd w X0) ad len cap x) (hx : x < 4294967296 ^ 512) : Calls Tryz.prog 143 #[.slice ad len cap] w (Ret E0 w fun w' v => zBd w w' v x) := by
 obtain ⟨l,hl,hc,rfl,hn⟩ := h.limbs hx
 refine (dI w X0 (qB _) ad len cap l hl (by rw [hl.hlen]; omega)).mono ?_
 rintro e w' ⟨hu,v,rfl,ad',len',cap',hown⟩
 exact ⟨hu,_,rfl,fU.natV ⟨hown,hc,rfl⟩⟩
theorem zYx (w : World) (x : Nat) (hx : x < 18446744073709551616) : Calls Tryz.prog 125 #[.int .u64 (x : Int)] w (Ret E0 w fun w' v => zBd w w' v x) := by
 refine (qKz w X0 (qB _) x hx).mono ?_
 rintro e w' ⟨hu,v,rfl,l,ad,len,cap,h1,h2,h3⟩
 exact ⟨hu,_,rfl,fU.natV ⟨h1,h2,h3⟩⟩
section
variable (w : World) (X : Hid) (hX : ∀ k o,X k o → k < w.heap.size)
set_option maxHeartbeats 1000000
include hX in
theorem bK (ad : Option Addr) (len cap x : Nat) (h : qC (rd w X) ad len cap x) (ad2 : Option Addr) (len2 P2 y : Nat) (h2 : qC (rd w X) ad2 len2 P2 y) (hx : x < 4294967296 ^ 512) (hy : y < 4294967296 ^ 512) (hf : x * y < 4294967296 ^ 512) : Calls Tryz.prog 124 #[.slice ad len cap,.slice ad2 len2 P2] w (Ret E0 w fun w' v => pX X w' v (x * y)) := by
 refine zen Tryz.func124 ?_
 have G0 : St E0 w X w X [] := St.start hX
 refine zz 9 ?_
 refine zc G0 (qRb _ _ _ _ x (h.mono Le.x0) _ _ _ y (h2.mono Le.x0) (by first | assumption | omega) (by first | assumption | omega) (by first | assumption | omega)) ?_
 rintro v3 w3 G3 y3 O3 ⟨u3,rfl,⟨ad3,len3,P3,rfl,hn3⟩⟩
 have hN3 := hn3 _ G0.lt
 refine zz 14 ?_
 refine zr' (v := .slice ad3 len3 P3) ?_
 exact ⟨G3.upd,_,rfl,G3.lastN hN3⟩
include hX in
theorem qPs (ad : Option Addr) (len cap x : Nat) (h : qC (rd w X) ad len cap x) (ad2 : Option Addr) (len2 P2 y : Nat) (h2 : qC (rd w X) ad2 len2 P2 y) (hx : x < 4294967296 ^ 512) (hy : y < 4294967296 ^ 512) (hf : x + y < 4294967296 ^ 512) : Calls Tryz.prog 127 #[.slice ad len cap,.slice ad2 len2 P2] w (Ret E0 w fun w' v => pX X w' v (x + y)) := by
 refine zen Tryz.func127 ?_
 have G0 : St E0 w X w X [] := St.start hX
 refine zz 9 ?_
 refine zc G0 (qQx _ _ _ _ x (h.mono Le.x0) _ _ _ y (h2.mono Le.x0) (by first | assumption | omega) (by first | assumption | omega) (by first | assumption | omega)) ?_
 rintro v3 w3 G3 y3 O3 ⟨u3,rfl,⟨ad3,len3,P3,rfl,hn3⟩⟩
 have hN3 := hn3 _ G0.lt
 refine zz 14 ?_
 refine zr' (v := .slice ad3 len3 P3) ?_
 exact ⟨G3.upd,_,rfl,G3.lastN hN3⟩
include hX in
theorem qAb (ad : Option Addr) (len cap x : Nat) (h : qC (rd w X) ad len cap x) (ad2 : Option Addr) (len2 P2 y : Nat) (h2 : qC (rd w X) ad2 len2 P2 y) (hx : x < 4294967296 ^ 512) (hy : y < 4294967296 ^ 512) (hf : y ≤ x) : Calls Tryz.prog 128 #[.slice ad len cap,.slice ad2 len2 P2] w (Ret E0 w fun w' v => ∃ u,v = .tuple #[u,.bool false] ∧ pX X w' u (x - y)) := by
 refine zen Tryz.func128 ?_
 have G0 : St E0 w X w X [] := St.start hX
 refine zz 11 ?_
 refine zc G0 (qIh _ _ _ _ x (h.mono Le.x0) _ _ _ y (h2.mono Le.x0) (by first | assumption | omega) (by first | assumption | omega) (by first | assumption | omega)) ?_
 rintro v3 w3 G3 y3 O3 ⟨u3,rfl,⟨ad3,len3,P3,rfl,hn3⟩⟩
 have hN3 := hn3 _ G0.lt
 refine zz 23 ?_
 refine zr' (v := .tuple #[.slice ad3 len3 P3,.bool false]) ?_
 exact ⟨G3.upd,_,rfl,_,rfl,G3.lastN hN3⟩
include hX in
theorem qAc (ad : Option Addr) (len cap x : Nat) (h : qC (rd w X) ad len cap x) (ad2 : Option Addr) (len2 P2 y : Nat) (h2 : qC (rd w X) ad2 len2 P2 y) (hx : x < 4294967296 ^ 512) (hy : y < 4294967296 ^ 512) (hf : x < y) : Calls Tryz.prog 128 #[.slice ad len cap,.slice ad2 len2 P2] w (Ret E0 w fun w' v => ∃ u,v = .tuple #[u,.bool true] ∧ pX X w' u (y - x)) := by
 refine zen Tryz.func128 ?_
 have G0 : St E0 w X w X [] := St.start hX
 refine zz 11 ?_
 refine zc G0 (zWv _ _ _ _ x (h.mono Le.x0) _ _ _ y (h2.mono Le.x0) (by first | assumption | omega) (by first | assumption | omega) (by first | assumption | omega)) ?_
 rintro v3 w3 G3 y3 O3 rfl
 refine zz 20 ?_
 refine zc G3 (qIh _ _ _ _ y ((h2.mono y3).mono Le.x0) _ _ _ x ((h.mono y3).mono Le.x0) (by first | assumption | omega) (by first | assumption | omega) (by first | assumption | omega)) ?_
 rintro v5 w5 G5 y5 O5 ⟨u5,rfl,⟨ad5,len5,P5,rfl,hn5⟩⟩
 have hN5 := hn5 _ G3.lt
 refine zz 15 ?_
 refine zr' (v := .tuple #[.slice ad5 len5 P5,.bool true]) ?_
 exact ⟨G5.upd,_,rfl,_,rfl,G5.lastN hN5⟩
include hX in
theorem qFq (ad : Option Addr) (len cap x : Nat) (h : qC (rd w X) ad len cap x) (ad2 : Option Addr) (len2 P2 y : Nat) (h2 : qC (rd w X) ad2 len2 P2 y) (hx : x < 4294967296 ^ 512) (hy : y < 4294967296 ^ 512) : Calls Tryz.prog 128 #[.slice ad len cap,.slice ad2 len2 P2] w (Ret E0 w fun w' v => ∃ u,v = .tuple #[u,.bool (decide (x < y))] ∧ pX X w' u (if x < y then y - x else x - y)) := by
 by_cases hf : x < y
 ·rw [if_pos hf,decide_eq_true hf]; exact qAc w X hX ad len cap x h ad2 len2 P2 y h2 hx hy hf
 ·rw [if_neg hf,decide_eq_false hf]; exact qAb w X hX ad len cap x h ad2 len2 P2 y h2 hx hy (by omega)
include hX in
theorem zAk (ad : Option Addr) (len cap x : Nat) (h : qC (rd w X) ad len cap x) : Calls Tryz.prog 107 #[.slice ad len cap] w (Ret E0 w fun _ v => v = .bool (decide (x = 1))) := by
 refine zen Tryz.func107 ?_
 have G0 : St E0 w X w X [] := St.start hX
 refine zz 11 ?_
 refine zb 6 (b := ((len : Int) == 1)) (fun J2 => ?_) (fun J2 => ?_)
 have F3 : (len : Int) = 1 := by simpa using J2
 obtain ⟨bk,of,rfl,hx1,hat⟩ := h.one (by omega)
 refine zz 1 ?_
 refine zi (b := bk) (off := of) (len := len) (cap := cap) (kd := .i64) (i := 0) 1 of ?_ (hoff := kr)
 refine zl (hat).cells ?_
 refine zz 6 ?_
 refine zr' (v := .bool ((x : Int) == 1)) ?_
 exact ⟨G0.upd,_,rfl,zK (by rw [Bool.eq_iff_iff]; simp; omega)⟩
 have F4 : (len : Int) ≠ 1 := by simpa using J2
 have hx1 : x ≠ 1 := fun e => by subst e; exact absurd h.of_one (by omega)
 refine zz 9 ?_
 refine zr' (v := .bool false) ?_
 exact ⟨G0.upd,_,rfl,zK (by simp [hx1])⟩
end
set_option maxHeartbeats 1000000
theorem aW (w : World) (X : Hid) (hX : ∀ k o,X k o → k < w.heap.size) (n : Int) (h1 : -9223372036854775808 ≤ n) (h2 : n ≤ 9223372036854775807) : Calls Tryz.prog 71 #[.int .i64 n] w (Ret E0 w fun w' v => pX X w' v n.natAbs) := by
 refine zen Tryz.func71 ?_
 have G0 : St E0 w X w X [] := St.start hX
 refine zz 12 ?_
 refine zt 4 (p := (n) < 0) (fun F2 => ?_) (fun F2 => ?_)
 refine zz 5 ?_
 refine zs 6 (v := .int .u64 (IntKind.u64.wrap (n))) (v' := .int .u64 (n + 18446744073709551616)) (zO (by rw [zFu]; omega)) ?_
 refine zz 1 ?_
 refine zs 7 (v := .int .u64 (IntKind.u64.wrap ((0 : Int) - (n + 18446744073709551616)))) (v' := .int .u64 ((n.natAbs : Nat) : Int)) (zO (by rw [zFu]; omega)) ?_
 refine zc G0 (zYx _ n.natAbs (by omega)) ?_
 rintro v4 w4 G4 y4 O4 ⟨ad4,len4,P4,rfl,hn4⟩
 have hN4 := hn4 _ G0.lt
 refine zz 5 ?_
 refine zr' (v := .slice ad4 len4 P4) ?_
 exact ⟨G4.upd,_,rfl,G4.lastN hN4⟩
 refine zz 7 ?_
 refine zs 10 (v := .int .u64 (IntKind.u64.wrap (n))) (v' := .int .u64 ((n.natAbs : Nat) : Int)) (zO (by rw [zFu]; omega)) ?_
 refine zc G0 (zYx _ n.natAbs (by omega)) ?_
 rintro v6 w6 G6 y6 O6 ⟨ad6,len6,P6,rfl,hn6⟩
 have hN6 := hn6 _ G0.lt
 refine zz 4 ?_
 refine zr' (v := .slice ad6 len6 P6) ?_
 exact ⟨G6.upd,_,rfl,G6.lastN hN6⟩
theorem zZz (w : World) (X : Hid) (hX : ∀ k o,X k o → k < w.heap.size) (ad : Option Addr) (len cap x : Nat) (h : qC (rd w X) ad len cap x) (ad2 : Option Addr) (len2 P2 y : Nat) (h2 : qC (rd w X) ad2 len2 P2 y) (sg : Bool) (hx : x < 4294967296 ^ 512) (hy : y < 4294967296 ^ 512) (hd : 0 < y) : Calls Tryz.prog 123 #[.agg #[.slice ad len cap,.slice ad2 len2 P2,.bool sg]] w (Ret E0 w fun w' v => bV (old w) w' v (mkRat (sgn sg x) y)) := by
 refine zen Tryz.func123 ?_
 have G0 : St E0 w X w X [] := St.start hX
 refine zz 2 ?_
 refine zn pn (.cells #[.slice ad len cap,.slice ad2 len2 P2,.bool sg] 116 (0,0)) G0 fun b3 w3 Y3 G3 y3 O3 => ?_
 refine zn pn (.cells #[.bool false,.slice none 0 0,.slice none 0 0] 28 (0,0)) G3 fun b5 w5 Y5 G5 y5 O5 => ?_
 refine zz 7 ?_
 refine zo 1 G5 ?_
 refine zz 4 ?_
 refine zb 10 (b := ((len : Int) == 0)) (fun J6 => ?_) (fun J6 => ?_)
 have F7 : (len : Int) = 0 := by simpa using J6
 have hx0 : x = 0 := h.len0.1 (by omega)
 refine zz 4 ?_
 refine zx 0 #[.bool false,.slice none 0 0,.slice none 0 0] G5 fun w8 G8 y8 => ?_
 refine zz 4 ?_
 refine zrS [.cell 2 28] (v := .agg #[.bool false,.slice none 0 0,.slice none 0 0]) (Res.cM G8 0 Res.nil) ?_
 exact ⟨G8.upd,_,rfl,by rw [hx0]; exact zOt y⟩
 have F9 : (len : Int) ≠ 0 := by simpa using J6
 have hx0 : x ≠ 0 := fun e => absurd (h.len0.2 e) (by omega)
 have hgp : 0 < Nat.gcd x y := Nat.gcd_pos_of_pos_right _ hd
 have hgb : Nat.gcd x y < 4294967296 ^ 512 := Nat.lt_of_le_of_lt (Nat.gcd_le_right _ hd) hy
 have hb1 : x / Nat.gcd x y < 4294967296 ^ 512 := Nat.lt_of_le_of_lt (Nat.div_le_self _ _) hx
 have hb2 : y / Nat.gcd x y < 4294967296 ^ 512 := Nat.lt_of_le_of_lt (Nat.div_le_self _ _) hy
 refine zz 8 ?_
 refine zo 1 G5 ?_
 refine zz 2 ?_
 refine zo 1 G5 ?_
 refine zc G5 (zWh _ _ _ _ x ((h.mono (Le2 y3 y5)).mono Le.x0) _ _ _ y ((h2.mono (Le2 y3 y5)).mono Le.x0) (by first | assumption | omega) (by first | assumption | omega)) ?_
 rintro v11 w11 G11 y11 O11 ⟨u11,rfl,⟨ad11,len11,P11,rfl,hn11⟩⟩
 have hN11 := hn11 _ G5.lt
 refine zz 10 ?_
 refine zc G11 (zAk _ _ G11.lt _ _ _ (Nat.gcd x y) hN11) ?_
 rintro v13 w13 G13 y13 O13 rfl
 refine zz 3 ?_
 refine zb 24 (b := !(decide (Nat.gcd x y = 1))) (fun J14 => ?_) (fun J14 => ?_)
 have F15 : ¬ (Nat.gcd x y = 1) := by simpa using J14
 refine zz 5 ?_
 refine zo 1 G13 ?_
 refine zz 1 ?_
 have J1_ := (Le3 y3 y5 y11).trans y13
 refine zc G13 (zLa _ _ _ _ x ((h.mono J1_).mono Le.x0) _ _ _ (Nat.gcd x y) ((hN11.mono y13).mono Le.x0) (by first | assumption | omega) (by first | assumption | omega) (by assumption)) ?_
 rintro v17 w17 G17 y17 O17 ⟨u17,v217,rfl,⟨ad17,len17,P17,rfl,hn17⟩,⟨ae17,le17,ce17,rfl,hm17⟩⟩
 have hN17 := hn17 _ G13.lt
 refine zz 6 ?_
 refine zx 1 #[.slice ad17 len17 P17,.slice ad2 len2 P2,.bool sg] G17 fun w18 G18 y18 => ?_
 refine zz 5 ?_
 refine zo 1 G18 ?_
 refine zz 1 ?_
 have J2_ := (J1_.trans y17).trans y18
 refine zc G18 (zLa _ _ _ _ y ((h2.mono J2_).mono Le.x0) _ _ _ (Nat.gcd x y) ((hN11.mono (Le3 y13 y17 y18)).mono Le.x0) (by first | assumption | omega) (by first | assumption | omega) (by assumption)) ?_
 rintro v20 w20 G20 y20 O20 ⟨u20,v220,rfl,⟨ad20,len20,P20,rfl,hn20⟩,⟨ae20,le20,ce20,rfl,hm20⟩⟩
 have hN20 := hn20 _ G18.lt
 refine zz 6 ?_
 refine zx 1 #[.slice ad17 len17 P17,.slice ad20 len20 P20,.bool sg] G20 fun w21 G21 y21 => ?_
 refine zz 3 ?_
 refine zdr G21 ?_
 refine gz [0] ?_
 refine gw 1 1 ?_
 refine gz [2,3] ?_
 refine gw 4 1 ?_
 refine gp (al 7 5 pn (.cells #[.bool false,.slice none 0 0,.slice none 0 0] 28 (0,0))) ?_
 have J3_ := (Le2 y18 y20).trans y21
 refine gC 5 (fun w22 Y22 _ G22 y22 => (zBw _ _ _ _ (x / (Nat.gcd x y)) ((hN17.mono (J3_.trans y22)).mono Le.x0) (by first | assumption | omega))) ?_ (hPd := yI.nil.k)
 rintro v23 w22 Y23 w23 G22 y23 ⟨ad23,len23,P23,rfl,hn23⟩
 have hN23 := hn23 _ G22.lt
 refine gz [6] ?_
 refine gs1 (fun b24 => ?_) yI.nil.k
 refine gX 8 0 #[.bool sg,.slice ad23 len23 P23,.slice none 0 0] fun w25 Y25 y25 => ?_
 refine xL (fun w26 Y26 G26 y26 => ?_)
 refine zz 6 ?_
 refine zo 2 G26 ?_
 have J4_ := (Le3 y21 y23 y25).trans y26
 refine zc G26 (zAk _ _ G26.lt _ _ _ (y / (Nat.gcd x y)) (hN20.mono J4_)) ?_
 rintro v28 w28 G28 y28 O28 rfl
 refine zz 3 ?_
 refine zb 58 (b := !(decide (y / (Nat.gcd x y) = 1))) (fun J29 => ?_) (fun J29 => ?_)
 have F30 : ¬ (y / (Nat.gcd x y) = 1) := by simpa using J29
 refine zz 4 ?_
 refine zo 2 G28 ?_
 have J5_ := J4_.trans y28
 refine zc G28 (zBw _ _ _ _ (y / (Nat.gcd x y)) ((hN20.mono J5_).mono Le.x0) (by first | assumption | omega)) ?_
 rintro v32 w32 G32 y32 O32 ⟨ad32,len32,P32,rfl,hn32⟩
 have hN32 := hn32 _ G28.lt
 refine zz 1 ?_
 refine zx 0 #[.bool sg,.slice ad23 len23 P23,.slice ad32 len32 P32] G32 fun w33 G33 y33 => ?_
 refine zz 4 ?_
 refine zo 0 G33 ?_
 refine zx 1 #[.bool sg,.slice ad23 len23 P23,.slice ad32 len32 P32] G33 fun w34 G34 y34 => ?_
 refine zz 3 ?_
 refine zrS [.cell 2 28] (v := .agg #[.bool sg,.slice ad23 len23 P23,.slice ad32 len32 P32]) (Res.cM G34 1 Res.nil) ?_
 have J6_ := (Le5 y25 y26 y28 y32 y33).trans y34
 refine ⟨G34.upd,_,rfl,lS hx0 hd (by exact (((hn23 (old _) (fun _ _ h => h)).mono (Le.own G22.lt G22.upd.size J6_)).mono Le.orr)) ?_⟩
 rw [sS,if_neg F30]; exact (((hn32 (old _) (fun _ _ h => h)).mono (Le.own G28.lt G28.upd.size (Le2 y33 y34))).mono Le.orr)
 have F35 : y / (Nat.gcd x y) = 1 := by simpa using J29
 refine zz 5 ?_
 refine zo 0 G28 ?_
 refine zx 1 #[.bool sg,.slice ad23 len23 P23,.slice none 0 0] G28 fun w36 G36 y36 => ?_
 refine zz 3 ?_
 refine zrS [.cell 2 28] (v := .agg #[.bool sg,.slice ad23 len23 P23,.slice none 0 0]) (Res.cM G36 1 Res.nil) ?_
 have J7_ := (Le3 y25 y26 y28).trans y36
 refine ⟨G36.upd,_,rfl,lS hx0 hd (by exact (((hn23 (old _) (fun _ _ h => h)).mono (Le.own G22.lt G22.upd.size J7_)).mono Le.orr)) ?_⟩
 rw [sS,if_pos F35]; exact (qC.nil none (by omega))
 have F37 : Nat.gcd x y = 1 := by simpa using J14
 refine zz 4 ?_
 refine zdr G13 ?_
 refine gz [0] ?_
 refine gw 1 1 ?_
 refine gz [2,3] ?_
 refine gw 4 1 ?_
 refine gp (al 7 5 pn (.cells #[.bool false,.slice none 0 0,.slice none 0 0] 28 (0,0))) ?_
 have J8_ := (Le3 y3 y5 y11).trans y13
 refine gC 5 (fun w38 Y38 _ G38 y38 => (zBw _ _ _ _ x ((h.mono (J8_.trans y38)).mono Le.x0) (by first | assumption | omega))) ?_ (hPd := yI.nil.k)
 rintro v39 w38 Y39 w39 G38 y39 ⟨ad39,len39,P39,rfl,hn39⟩
 have hN39 := hn39 _ G38.lt
 refine gz [6] ?_
 refine gs1 (fun b40 => ?_) yI.nil.k
 refine gX 8 0 #[.bool sg,.slice ad39 len39 P39,.slice none 0 0] fun w41 Y41 y41 => ?_
 refine xL (fun w42 Y42 G42 y42 => ?_)
 refine zz 6 ?_
 refine zo 2 G42 ?_
 have J9_ := ((J8_.trans y39).trans y41).trans y42
 refine zc G42 (zAk _ _ G42.lt _ _ _ y (h2.mono J9_)) ?_
 rintro v44 w44 G44 y44 O44 rfl
 refine zz 3 ?_
 refine zb 58 (b := !(decide (y = 1))) (fun J45 => ?_) (fun J45 => ?_)
 have F46 : ¬ (y = 1) := by simpa using J45
 refine zz 4 ?_
 refine zo 2 G44 ?_
 have J10_ := J9_.trans y44
 refine zc G44 (zBw _ _ _ _ y ((h2.mono J10_).mono Le.x0) (by first | assumption | omega)) ?_
 rintro v48 w48 G48 y48 O48 ⟨ad48,len48,P48,rfl,hn48⟩
 have hN48 := hn48 _ G44.lt
 refine zz 1 ?_
 refine zx 0 #[.bool sg,.slice ad39 len39 P39,.slice ad48 len48 P48] G48 fun w49 G49 y49 => ?_
 refine zz 4 ?_
 refine zo 0 G49 ?_
 refine zx 1 #[.bool sg,.slice ad39 len39 P39,.slice ad48 len48 P48] G49 fun w50 G50 y50 => ?_
 refine zz 3 ?_
 refine zrS [.cell 2 28] (v := .agg #[.bool sg,.slice ad39 len39 P39,.slice ad48 len48 P48]) (Res.cM G50 1 Res.nil) ?_
 have J11_ := (Le5 y41 y42 y44 y48 y49).trans y50
 refine ⟨G50.upd,_,rfl,lS hx0 hd (by rw [F37,Nat.div_one]; exact (((hn39 (old _) (fun _ _ h => h)).mono (Le.own G38.lt G38.upd.size J11_)).mono Le.orr)) ?_⟩
 rw [F37,Nat.div_one]
 rw [sS,if_neg F46]; exact (((hn48 (old _) (fun _ _ h => h)).mono (Le.own G44.lt G44.upd.size (Le2 y49 y50))).mono Le.orr)
 have F51 : y = 1 := by simpa using J45
 refine zz 5 ?_
 refine zo 0 G44 ?_
 refine zx 1 #[.bool sg,.slice ad39 len39 P39,.slice none 0 0] G44 fun w52 G52 y52 => ?_
 refine zz 3 ?_
 refine zrS [.cell 2 28] (v := .agg #[.bool sg,.slice ad39 len39 P39,.slice none 0 0]) (Res.cM G52 1 Res.nil) ?_
 have J12_ := (Le3 y41 y42 y44).trans y52
 refine ⟨G52.upd,_,rfl,lS hx0 hd (by rw [F37,Nat.div_one]; exact (((hn39 (old _) (fun _ _ h => h)).mono (Le.own G38.lt G38.upd.size J12_)).mono Le.orr)) ?_⟩
 rw [F37,Nat.div_one]
 rw [sS,if_pos F51]; exact (qC.nil none (by omega))
section
variable (w : World) (X : Hid) (hX : ∀ k o,X k o → k < w.heap.size)
set_option maxHeartbeats 1000000
include hX in
theorem zVb (sg : Bool) (ad : Option Addr) (len cap x : Nat) (h : qC (rd w X) ad len cap x) (ad2 : Option Addr) (len2 P2 y : Nat) (h2 : qC (rd w X) ad2 len2 P2 y) : Calls Tryz.prog 73 #[.agg #[.bool sg,.slice ad len cap,.slice ad2 len2 P2]] w (Ret E0 w fun w' v => zTu X w' v sg x (if y = 0 then 1 else y)) := by
 refine zen Tryz.func73 ?_
 have G0 : St E0 w X w X [] := St.start hX
 refine zz 2 ?_
 refine zn pn (.cells #[.bool sg,.slice ad len cap,.slice ad2 len2 P2] 28 (0,0)) G0 fun b3 w3 Y3 G3 y3 O3 => ?_
 refine zn pn (.cells #[.slice none 0 0,.slice none 0 0,.bool false] 116 (0,0)) G3 fun b5 w5 Y5 G5 y5 O5 => ?_
 refine zz 5 ?_
 refine zo 1 G5 ?_
 refine zz 1 ?_
 refine zo 1 G5 ?_
 refine zz 2 ?_
 refine zo 1 G5 ?_
 refine zz 1 ?_
 refine zn pn (.cells #[.slice none 0 0,.slice none 0 0,.bool false] 116 (0,0)) G5 fun b7 w7 Y7 G7 y7 O7 => ?_
 refine zx 0 #[.slice ad len cap,.slice ad2 len2 P2,.bool sg] G7 fun w8 G8 y8 => ?_
 refine zz 7 ?_
 refine zo 0 G8 ?_
 refine zz 4 ?_
 refine zb 16 (b := ((len2 : Int) == 0)) (fun J9 => ?_) (fun J9 => ?_)
 have F10 : (len2 : Int) = 0 := by simpa using J9
 have hy0 : y = 0 := h2.len0.1 (by omega)
 refine zz 2 ?_
 refine zn (fun b => .slice (some ⟨b,0,none⟩) 1 1) (.cells #[.int .u32 1] 195 (0,0)) G8 fun b12 w12 Y12 G12 y12 O12 => ?_
 refine zz 2 ?_
 refine zx 1 #[.slice ad len cap,.slice (some ⟨b12,0,none⟩) 1 1,.bool sg] G12 fun w13 G13 y13 => ?_
 refine zz 4 ?_
 refine zo 1 G13 ?_
 refine zx 2 #[.slice ad len cap,.slice (some ⟨b12,0,none⟩) 1 1,.bool sg] G13 fun w14 G14 y14 => ?_
 refine zz 3 ?_
 refine zrS [.cell 2 116] (v := .agg #[.slice ad len cap,.slice (some ⟨b12,0,none⟩) 1 1,.bool sg]) (Res.cM G14 2 Res.nil) ?_
 have J1_ := (Le6 y3 y5 y7 y8 y12 y13).trans y14
 exact ⟨G14.upd,_,rfl,_,_,_,_,_,_,rfl,(h.mono J1_).mono G14.le,by rw [if_pos hy0]; exact qFv (G14.rowX 0 rfl (G14.own_ge 0 rfl) (qFw rfl))⟩
 have F15 : (len2 : Int) ≠ 0 := by simpa using J9
 have hy0 : y ≠ 0 := fun e => absurd (h2.len0.2 e) (by omega)
 refine zz 5 ?_
 refine zo 0 G8 ?_
 refine zx 1 #[.slice ad len cap,.slice ad2 len2 P2,.bool sg] G8 fun w16 G16 y16 => ?_
 refine zz 3 ?_
 refine zrS [.cell 2 116] (v := .agg #[.slice ad len cap,.slice ad2 len2 P2,.bool sg]) (Res.cM G16 1 Res.nil) ?_
 have J2_ := (Le4 y3 y5 y7 y8).trans y16
 exact ⟨G16.upd,_,rfl,_,_,_,_,_,_,rfl,(h.mono J2_).mono G16.le,by rw [if_neg hy0]; exact (h2.mono J2_).mono G16.le⟩
include hX in
theorem qJa (ad₁ : Option Addr) (len₁ cap₁ n₁ : Nat) (h₁ : qC (rd w X) ad₁ len₁ cap₁ n₁) (ae₁ : Option Addr) (le₁ ce₁ d₁ : Nat) (k₁ : qC (rd w X) ae₁ le₁ ce₁ d₁) (s₁ : Bool) (hn₁ : n₁ < jK) (hd₁ : d₁ < jK) (ad₂ : Option Addr) (len₂ cap₂ n₂ : Nat) (h₂ : qC (rd w X) ad₂ len₂ cap₂ n₂) (ae₂ : Option Addr) (le₂ ce₂ d₂ : Nat) (k₂ : qC (rd w X) ae₂ le₂ ce₂ d₂) (s₂ : Bool) (hn₂ : n₂ < jK) (hd₂ : d₂ < jK) : Calls Tryz.prog 74 #[.agg #[.slice ad₁ len₁ cap₁,.slice ae₁ le₁ ce₁,.bool s₁],.agg #[.slice ad₂ len₂ cap₂,.slice ae₂ le₂ ce₂,.bool s₂]] w (Ret E0 w fun w' v => ∃ s m,zTu X w' v s m (d₁ * d₂) ∧ m < 4294967296 ^ 512 ∧ sgn s m = sgn s₁ n₁ * d₂ + sgn s₂ n₂ * d₁) := by
 refine zen Tryz.func74 ?_
 have G0 : St E0 w X w X [] := St.start hX
 have hb : ∀ {x : Nat},x < jK → x < 4294967296 ^ 512 := fun h => Nat.lt_of_lt_of_le h qFd
 have hbn1 := hb hn₁
 have hbn2 := hb hn₂
 have hbd1 := hb hd₁
 have hbd2 := hb hd₂
 obtain ⟨hp1,hp12⟩ := kQ hn₁ hd₂ hn₂ hd₁
 have hp2 := (kQ hn₂ hd₁ hn₁ hd₂).1
 have hpd := (kQ hd₁ hd₂ hd₁ hd₂).1
 have hpn := (kQ hn₁ hn₂ hd₁ hd₂).1
 refine zz 2 ?_
 refine zn pn (.cells #[.slice ad₁ len₁ cap₁,.slice ae₁ le₁ ce₁,.bool s₁] 116 (0,0)) G0 fun b3 w3 Y3 G3 y3 O3 => ?_
 refine zn pn (.cells #[.slice ad₂ len₂ cap₂,.slice ae₂ le₂ ce₂,.bool s₂] 116 (0,0)) G3 fun b5 w5 Y5 G5 y5 O5 => ?_
 refine zn pn (.cells #[.slice none 0 0,.slice none 0 0,.bool false] 116 (0,0)) G5 fun b7 w7 Y7 G7 y7 O7 => ?_
 refine zz 3 ?_
 refine zdr G7 ?_
 refine gz [0,1] ?_
 refine gw 2 2 ?_
 refine gz [3,4] ?_
 refine gw 5 1 ?_
 refine gz [7,8] ?_
 refine gw 9 1 ?_
 refine gz [10,11] ?_
 refine gw 12 2 ?_
 have J1_ := (Le2 y3 y5).trans y7
 refine gC 6 (fun w8 Y8 _ G8 y8 => (bK _ _ G8.lt _ _ _ n₁ (h₁.mono (J1_.trans y8)) _ _ _ d₂ (k₂.mono (J1_.trans y8)) (by first | assumption | omega) (by first | assumption | omega) (by first | assumption | omega))) ?_
 rintro v9 w8 Y9 w9 G8 y9 ⟨ad9,len9,P9,rfl,hN9⟩
 have J2_ := J1_.trans y9
 refine gC 13 (fun w10 Y10 _ G10 y10 => (bK _ _ G10.lt _ _ _ n₂ (h₂.mono (J2_.trans y10)) _ _ _ d₁ (k₁.mono (J2_.trans y10)) (by first | assumption | omega) (by first | assumption | omega) (by first | assumption | omega))) ?_
 rintro v11 w10 Y11 w11 G10 y11 ⟨ad11,len11,P11,rfl,hN11⟩
 refine gz [14,15] ?_
 refine xL (fun w12 Y12 G12 y12 => ?_)
 refine zz 2 ?_
 refine zdr G12 ?_
 refine gz [0,1] ?_
 refine gw 2 2 ?_
 refine gz [3,4] ?_
 refine gw 5 1 ?_
 refine gz [8] ?_
 refine gw 9 2 ?_
 refine gp (al 11 7 pn (.cells #[.slice none 0 0,.slice none 0 0,.bool false] 116 (0,0))) ?_
 have J3_ := (J2_.trans y11).trans y12
 refine gC 6 (fun w13 Y13 _ G13 y13 => (bK _ _ G13.lt _ _ _ d₁ (k₁.mono (J3_.trans y13)) _ _ _ d₂ (k₂.mono (J3_.trans y13)) (by first | assumption | omega) (by first | assumption | omega) (by first | assumption | omega))) ?_ (hPd := yI.nil.k)
 rintro v14 w13 Y14 w14 G13 y14 ⟨ad14,len14,P14,rfl,hN14⟩
 refine gz [7,10] ?_
 refine gs1 (fun b15 => ?_) yI.nil.k
 refine gX 12 0 #[.slice none 0 0,.slice ad14 len14 P14,.bool s₁] fun w16 Y16 y16 => ?_
 refine xL (fun w17 Y17 G17 y17 => ?_)
 refine zz 5 ?_
 refine zo 3 G17 ?_
 refine zz 1 ?_
 refine zo 2 G17 ?_
 refine zz 3 ?_
 refine zb 38 (b := (s₁ == s₂)) (fun J18 => ?_) (fun J18 => ?_)
 have F19 : s₁ = s₂ := by simpa using J18
 refine zz 5 ?_
 have J4_ := (Le4 y11 y12 y14 y16).trans y17
 have J5_ := (Le3 y12 y14 y16).trans y17
 refine zc G17 (qPs _ _ G17.lt _ _ _ (n₁ * d₂) (hN9.mono J4_) _ _ _ (n₂ * d₁) (hN11.mono J5_) (by first | assumption | omega) (by first | assumption | omega) (by first | assumption | omega)) ?_
 rintro v21 w21 G21 y21 O21 ⟨ad21,len21,P21,rfl,hN21⟩
 refine zz 2 ?_
 refine zx 0 #[.slice ad21 len21 P21,.slice ad14 len14 P14,.bool s₁] G21 fun w22 G22 y22 => ?_
 refine zz 4 ?_
 refine zo 0 G22 ?_
 refine zx 1 #[.slice ad21 len21 P21,.slice ad14 len14 P14,.bool s₁] G22 fun w23 G23 y23 => ?_
 refine zz 4 ?_
 refine zrS [.cell 4 116] (v := .agg #[.slice ad21 len21 P21,.slice ad14 len14 P14,.bool s₁]) (Res.cM G23 1 Res.nil) ?_
 have J6_ := (Le4 y16 y17 y21 y22).trans y23
 have hx9 := (hN21.mono (Le2 y22 y23))
 exact ⟨G23.upd,_,rfl,_,_,⟨_,_,_,_,_,_,rfl,hx9.mono G23.le,(hN14.mono J6_).mono G23.le⟩,hp12,qCo F19 _ _ _ _⟩
 have F24 : s₁ ≠ s₂ := by simpa using J18
 refine zz 13 ?_
 have J7_ := (Le4 y11 y12 y14 y16).trans y17
 have J8_ := (Le3 y12 y14 y16).trans y17
 refine zc G17 (qFq _ _ G17.lt _ _ _ (n₁ * d₂) (hN9.mono J7_) _ _ _ (n₂ * d₁) (hN11.mono J8_) (by first | assumption | omega) (by first | assumption | omega)) ?_
 rintro v26 w26 G26 y26 O26 ⟨u26,rfl,⟨ad26,len26,P26,rfl,hN26⟩⟩
 refine zz 5 ?_
 refine zx 0 #[.slice ad26 len26 P26,.slice ad14 len14 P14,.bool s₁] G26 fun w27 G27 y27 => ?_
 refine zz 8 ?_
 refine zt 53 (p := (n₁ * d₂) < (n₂ * d₁)) (fun F28 => ?_) (fun F28 => ?_)
 refine zz 3 ?_
 refine zo 2 G27 ?_
 refine zz 1 ?_
 refine zx 0 #[.slice ad26 len26 P26,.slice ad14 len14 P14,.bool s₂] G27 fun w29 G29 y29 => ?_
 refine zz 4 ?_
 refine zo 0 G29 ?_
 refine zx 1 #[.slice ad26 len26 P26,.slice ad14 len14 P14,.bool s₂] G29 fun w30 G30 y30 => ?_
 refine zz 3 ?_
 refine zrS [.cell 4 116] (v := .agg #[.slice ad26 len26 P26,.slice ad14 len14 P14,.bool s₂]) (Res.cM G30 1 Res.nil) ?_
 have J9_ := (Le5 y16 y17 y26 y27 y29).trans y30
 have hx9 := (hN26.mono (Le3 y27 y29 y30))
 rw [if_pos F28] at hx9
 exact ⟨G30.upd,_,rfl,_,_,⟨_,_,_,_,_,_,rfl,hx9.mono G30.le,(hN14.mono J9_).mono G30.le⟩,Nat.lt_of_le_of_lt (Nat.sub_le _ _) hp2,qQl F24 F28⟩
 refine zz 5 ?_
 refine zo 0 G27 ?_
 refine zx 1 #[.slice ad26 len26 P26,.slice ad14 len14 P14,.bool s₁] G27 fun w31 G31 y31 => ?_
 refine zz 3 ?_
 refine zrS [.cell 4 116] (v := .agg #[.slice ad26 len26 P26,.slice ad14 len14 P14,.bool s₁]) (Res.cM G31 1 Res.nil) ?_
 have J10_ := (Le4 y16 y17 y26 y27).trans y31
 have hx9 := (hN26.mono (Le2 y27 y31))
 rw [if_neg F28] at hx9
 exact ⟨G31.upd,_,rfl,_,_,⟨_,_,_,_,_,_,rfl,hx9.mono G31.le,(hN14.mono J10_).mono G31.le⟩,Nat.lt_of_le_of_lt (Nat.sub_le _ _) hp1,qQk F24 (by omega)⟩
include hX in
theorem zHz (ad₁ : Option Addr) (len₁ cap₁ n₁ : Nat) (h₁ : qC (rd w X) ad₁ len₁ cap₁ n₁) (ae₁ : Option Addr) (le₁ ce₁ d₁ : Nat) (k₁ : qC (rd w X) ae₁ le₁ ce₁ d₁) (s₁ : Bool) (hn₁ : n₁ < jK) (hd₁ : d₁ < jK) (ad₂ : Option Addr) (len₂ cap₂ n₂ : Nat) (h₂ : qC (rd w X) ad₂ len₂ cap₂ n₂) (ae₂ : Option Addr) (le₂ ce₂ d₂ : Nat) (k₂ : qC (rd w X) ae₂ le₂ ce₂ d₂) (s₂ : Bool) (hn₂ : n₂ < jK) (hd₂ : d₂ < jK) : Calls Tryz.prog 70 #[.agg #[.slice ad₁ len₁ cap₁,.slice ae₁ le₁ ce₁,.bool s₁],.agg #[.slice ad₂ len₂ cap₂,.slice ae₂ le₂ ce₂,.bool s₂]] w (Ret E0 w fun w' v => ∃ s m,zTu X w' v s m (d₁ * d₂) ∧ m < 4294967296 ^ 512 ∧ sgn s m = sgn s₁ n₁ * sgn s₂ n₂) := by
 refine zen Tryz.func70 ?_
 have G0 : St E0 w X w X [] := St.start hX
 have hb : ∀ {x : Nat},x < jK → x < 4294967296 ^ 512 := fun h => Nat.lt_of_lt_of_le h qFd
 have hbn1 := hb hn₁
 have hbn2 := hb hn₂
 have hbd1 := hb hd₁
 have hbd2 := hb hd₂
 obtain ⟨hp1,hp12⟩ := kQ hn₁ hd₂ hn₂ hd₁
 have hp2 := (kQ hn₂ hd₁ hn₁ hd₂).1
 have hpd := (kQ hd₁ hd₂ hd₁ hd₂).1
 have hpn := (kQ hn₁ hn₂ hd₁ hd₂).1
 refine zz 2 ?_
 refine zn pn (.cells #[.slice ad₁ len₁ cap₁,.slice ae₁ le₁ ce₁,.bool s₁] 116 (0,0)) G0 fun b3 w3 Y3 G3 y3 O3 => ?_
 refine zn pn (.cells #[.slice ad₂ len₂ cap₂,.slice ae₂ le₂ ce₂,.bool s₂] 116 (0,0)) G3 fun b5 w5 Y5 G5 y5 O5 => ?_
 refine zn pn (.cells #[.slice none 0 0,.slice none 0 0,.bool false] 116 (0,0)) G5 fun b7 w7 Y7 G7 y7 O7 => ?_
 refine zz 3 ?_
 refine zdr G7 ?_
 refine gz [0,1] ?_
 refine gw 2 2 ?_
 refine gz [3,4] ?_
 refine gw 5 1 ?_
 refine gz [7,8] ?_
 refine gw 9 2 ?_
 refine gz [10,11] ?_
 refine gw 12 1 ?_
 refine gz [15] ?_
 refine gw 16 2 ?_
 refine gz [17] ?_
 refine gw 18 1 ?_
 refine gz [19] ?_
 have J1_ := (Le2 y3 y5).trans y7
 refine gC 6 (fun w8 Y8 _ G8 y8 => (bK _ _ G8.lt _ _ _ n₁ (h₁.mono (J1_.trans y8)) _ _ _ n₂ (h₂.mono (J1_.trans y8)) (by first | assumption | omega) (by first | assumption | omega) (by first | assumption | omega))) ?_
 rintro v9 w8 Y9 w9 G8 y9 ⟨ad9,len9,P9,rfl,hN9⟩
 have J2_ := J1_.trans y9
 refine gC 13 (fun w10 Y10 _ G10 y10 => (bK _ _ G10.lt _ _ _ d₁ (k₁.mono (J2_.trans y10)) _ _ _ d₂ (k₂.mono (J2_.trans y10)) (by first | assumption | omega) (by first | assumption | omega) (by first | assumption | omega))) ?_
 rintro v11 w10 Y11 w11 G10 y11 ⟨ad11,len11,P11,rfl,hN11⟩
 refine gz [14,20] ?_
 refine gX 21 0 #[.slice ad9 len9 P9,.slice ad11 len11 P11,.bool (!(s₁ == s₂))] fun w12 Y12 y12 => ?_
 refine xL (fun w13 Y13 G13 y13 => ?_)
 refine zz 2 ?_
 refine zrS [.cell 4 116] (v := .agg #[.slice ad9 len9 P9,.slice ad11 len11 P11,.bool (!(s₁ == s₂))]) (Res.cM G13 0 Res.nil) ?_
 exact ⟨G13.upd,_,rfl,_,_,⟨_,_,_,_,_,_,rfl,(hN9.mono (Le3 y11 y12 y13)).mono G13.le,(hN11.mono (Le2 y12 y13)).mono G13.le⟩,hpn,qHe _ _ _ _⟩
end
set_option maxHeartbeats 1000000
theorem zRd {a : Raw} (h : 128 < a.ln.length ∨ 128 < a.ld.length) : a.chk = 4 := if_pos h
theorem nC {a : Raw} (h : ¬ (128 < a.ln.length ∨ 128 < a.ld.length)) (h2 : jA a.ln ≠ 0 ∨ jA a.ld ≠ 0 ∨ val a.ld = 1 ∨ (val a.ln = 0 ∧ (a.neg = true ∨ 0 < val a.ld))) : a.chk = 2 := (if_neg h).trans (if_pos h2)
theorem zRe {a : Raw} (h : ¬ (128 < a.ln.length ∨ 128 < a.ld.length)) (h2 : ¬ (jA a.ln ≠ 0 ∨ jA a.ld ≠ 0 ∨ val a.ld = 1 ∨ (val a.ln = 0 ∧ (a.neg = true ∨ 0 < val a.ld)))) (h3 : 0 < val a.ld ∧ Nat.gcd (val a.ln) (val a.ld) ≠ 1) : a.chk = 2 := (if_neg h).trans ((if_neg h2).trans (if_pos h3))
theorem zAs {a : Raw} (h : ¬ (128 < a.ln.length ∨ 128 < a.ld.length)) (h2 : ¬ (jA a.ln ≠ 0 ∨ jA a.ld ≠ 0 ∨ val a.ld = 1 ∨ (val a.ln = 0 ∧ (a.neg = true ∨ 0 < val a.ld)))) (h3 : ¬ (0 < val a.ld ∧ Nat.gcd (val a.ln) (val a.ld) ≠ 1)) : a.chk = 0 := (if_neg h).trans ((if_neg h2).trans (if_neg h3))
theorem jX {l : List Nat} (hc : zV l) : l.length = 0 ↔ val l = 0 := by
 constructor
 ·intro h; rw [List.eq_nil_of_length_eq_zero h]; rfl
 ·intro h; rw [gY hc h]; rfl
theorem xI (w : World) (X : Hid) (hX : ∀ k o,X k o → k < w.heap.size) (a : Raw) (ad : Option Addr) (len cap : Nat) (h : zM (rd w X) ad len cap a.ln) (ad2 : Option Addr) (len2 P2 : Nat) (h2 : zM (rd w X) ad2 len2 P2 a.ld) : Calls Tryz.prog 56 #[.agg #[.bool a.neg,.slice ad len cap,.slice ad2 len2 P2]] w (Ret E0 w fun _ v => v = .int .i64 a.chk) := by
 obtain rfl := h.hlen
 obtain rfl := h2.hlen
 have hcap := h.hcap
 have hbig := h.hbig
 have hcap2 := h2.hcap
 have hbig2 := h2.hbig
 refine zen Tryz.func56 ?_
 have G0 : St E0 w X w X [] := St.start hX
 refine zz 2 ?_
 refine zn pn (.cells #[.bool a.neg,.slice ad a.ln.length cap,.slice ad2 a.ld.length P2] 28 (0,0)) G0 fun b3 w3 Y3 G3 y3 O3 => ?_
 refine zz 8 ?_
 refine zo 0 G3 ?_
 refine zz 3 ?_
 refine zt 10 (p := (a.ln.length : Int) > 128) (fun F4 => ?_) (fun F4 => ?_)
 refine zz 17 ?_
 refine zr' (v := .int .i64 4) ?_
 exact ⟨G3.upd,_,rfl,zO (zRd (by omega)).symm⟩
 refine zz 1 ?_
 refine zo 0 G3 ?_
 refine zz 6 ?_
 refine zt 5 (p := (a.ld.length : Int) > 128) (fun F5 => ?_) (fun F5 => ?_)
 refine zz 9 ?_
 refine zr' (v := .int .i64 4) ?_
 exact ⟨G3.upd,_,rfl,zO (zRd (by omega)).symm⟩
 have hlong : ¬ (128 < a.ln.length ∨ 128 < a.ld.length) := by omega
 refine zz 5 ?_
 refine zo 0 G3 ?_
 refine zc G3 (zIp _ X0 (qB _) _ _ _ a.ln ((h.mono y3).mono Le.x0)) ?_
 rintro v7 w7 G7 y7 O7 rfl
 refine zz 2 ?_
 refine zb 21 (b := ((jA a.ln) != 0)) (fun J8 => ?_) (fun J8 => ?_)
 have F9 : (jA a.ln) ≠ 0 := by simpa using J8
 refine zz 20 ?_
 refine zr' (v := .int .i64 2) ?_
 exact ⟨G7.upd,_,rfl,zO (nC hlong (.inl F9)).symm⟩
 have F10 : (jA a.ln) = 0 := by simpa using J8
 refine zz 1 ?_
 refine zo 0 G7 ?_
 refine zc G7 (zIp _ X0 (qB _) _ _ _ a.ld ((h2.mono (Le2 y3 y7)).mono Le.x0)) ?_
 rintro v12 w12 G12 y12 O12 rfl
 refine zz 5 ?_
 refine zb 16 (b := ((jA a.ld) != 0)) (fun J13 => ?_) (fun J13 => ?_)
 have F14 : (jA a.ld) ≠ 0 := by simpa using J13
 refine zz 12 ?_
 refine zr' (v := .int .i64 2) ?_
 exact ⟨G12.upd,_,rfl,zO (nC hlong (.inr (.inl F14))).symm⟩
 have F15 : (jA a.ld) = 0 := by simpa using J13
 have hcn := (wY (by simpa using F10 : jA a.ln = 0)).2
 have hcd := (wY (by simpa using F15 : jA a.ld = 0)).2
 have hzn := jX hcn
 have hzd := jX hcd
 have hB : (4294967296 : Nat) ^ 128 ≤ 4294967296 ^ 512 := qFd
 have hbn : val a.ln < 4294967296 ^ 512 := Nat.lt_of_lt_of_le ((zW h.hlt hcn 128).1 (by omega)) hB
 have hbd : val a.ld < 4294967296 ^ 512 := Nat.lt_of_lt_of_le ((zW h2.hlt hcd 128).1 (by omega)) hB
 have hNn := h.natR hcn
 have hNd := h2.natR hcd
 refine zz 4 ?_
 refine zo 0 G12 ?_
 refine zc G12 (zAk _ _ G12.lt _ _ _ (val a.ld) (hNd.mono (Le3 y3 y7 y12))) ?_
 rintro v17 w17 G17 y17 O17 rfl
 refine zz 3 ?_
 refine zt 16 (p := (val a.ld) = 1) (fun F18 => ?_) (fun F18 => ?_)
 refine zz 12 ?_
 refine zr' (v := .int .i64 2) ?_
 exact ⟨G17.upd,_,rfl,zO (nC hlong (.inr (.inr (.inl (by simpa using F18))))).symm⟩
 refine zz 3 ?_
 refine zo 0 G17 ?_
 refine zz 3 ?_
 refine zb 34 (b := ((a.ln.length : Int) == 0)) (fun J19 => ?_) (fun J19 => ?_)
 have F20 : (a.ln.length : Int) = 0 := by simpa using J19
 refine zz 1 ?_
 refine zo 0 G17 ?_
 refine zz 1 ?_
 refine zb 37 (b := a.neg) (fun J21 => ?_) (fun J21 => ?_)
 have F22 : a.neg = true := by simpa using J21
 refine zz 18 ?_
 refine zr' (v := .int .i64 2) ?_
 exact ⟨G17.upd,_,rfl,zO (nC hlong (.inr (.inr (.inr ⟨by omega,.inl F22⟩)))).symm⟩
 have F23 : a.neg = false := by simpa using J21
 refine zz 1 ?_
 refine zo 0 G17 ?_
 refine zz 7 ?_
 refine zt 16 (p := (a.ld.length : Int) > 0) (fun F24 => ?_) (fun F24 => ?_)
 refine zz 9 ?_
 refine zr' (v := .int .i64 2) ?_
 exact ⟨G17.upd,_,rfl,zO (nC hlong (.inr (.inr (.inr ⟨by omega,.inr (by omega)⟩)))).symm⟩
 have hok : ¬ (jA a.ln ≠ 0 ∨ jA a.ld ≠ 0 ∨ val a.ld = 1 ∨ (val a.ln = 0 ∧ (a.neg = true ∨ 0 < val a.ld))) := by intro hh; rcases hh with e | e | e | ⟨e,e2⟩; exact (fun x => absurd (by simpa using F10 : jA a.ln = 0) x) e; exact (fun x => absurd (by simpa using F15 : jA a.ld = 0) x) e; exact (fun x => absurd x (by simpa using F18)) e; rcases e2 with e2 | e2; rw [F23] at e2; cases e2; omega
 have hz : ¬ 0 < val a.ld := by omega
 refine zz 8 ?_
 refine zo 0 G17 ?_
 refine zz 4 ?_
 refine zt 47 (p := (a.ld.length : Int) > 0) (fun F25 => ?_) (fun F25 => ?_)
 refine zz 4 ?_
 refine zo 0 G17 ?_
 refine zz 1 ?_
 refine zo 0 G17 ?_
 have J1_ := (Le3 y3 y7 y12).trans y17
 refine zc G17 (zWh _ _ _ _ (val a.ln) ((hNn.mono J1_).mono Le.x0) _ _ _ (val a.ld) ((hNd.mono J1_).mono Le.x0) (by first | assumption | omega) (by first | assumption | omega)) ?_
 rintro v27 w27 G27 y27 O27 ⟨u27,rfl,⟨ad27,len27,P27,rfl,hn27⟩⟩
 have hN27 := hn27 _ G17.lt
 refine zz 10 ?_
 refine zc G27 (zAk _ _ G27.lt _ _ _ (Nat.gcd (val a.ln) (val a.ld)) hN27) ?_
 rintro v29 w29 G29 y29 O29 rfl
 refine zz 3 ?_
 refine zb 58 (b := !(decide (Nat.gcd (val a.ln) (val a.ld) = 1))) (fun J30 => ?_) (fun J30 => ?_)
 have F31 : ¬ (Nat.gcd (val a.ln) (val a.ld) = 1) := by simpa using J30
 refine zz 8 ?_
 refine zr' (v := .int .i64 2) ?_
 exact ⟨G29.upd,_,rfl,zO (zRe hlong hok ⟨by omega,by simpa using F31⟩).symm⟩
 have F32 : Nat.gcd (val a.ln) (val a.ld) = 1 := by simpa using J30
 refine zz 9 ?_
 refine zr' (v := .int .i64 0) ?_
 exact ⟨G29.upd,_,rfl,zO (zAs hlong hok (fun hh => hh.2 (by simpa using F32))).symm⟩
 refine zz 9 ?_
 refine zr' (v := .int .i64 0) ?_
 exact ⟨G17.upd,_,rfl,zO (zAs hlong hok (fun hh => by omega)).symm⟩
 have F33 : (a.ln.length : Int) ≠ 0 := by simpa using J19
 refine zz 20 ?_
 refine zo 0 G17 ?_
 refine zz 4 ?_
 refine zt 47 (p := (a.ld.length : Int) > 0) (fun F34 => ?_) (fun F34 => ?_)
 have hok : ¬ (jA a.ln ≠ 0 ∨ jA a.ld ≠ 0 ∨ val a.ld = 1 ∨ (val a.ln = 0 ∧ (a.neg = true ∨ 0 < val a.ld))) := by intro hh; rcases hh with e | e | e | ⟨e,e2⟩; exact (fun x => absurd (by simpa using F10 : jA a.ln = 0) x) e; exact (fun x => absurd (by simpa using F15 : jA a.ld = 0) x) e; exact (fun x => absurd x (by simpa using F18)) e; omega
 refine zz 4 ?_
 refine zo 0 G17 ?_
 refine zz 1 ?_
 refine zo 0 G17 ?_
 have J2_ := (Le3 y3 y7 y12).trans y17
 refine zc G17 (zWh _ _ _ _ (val a.ln) ((hNn.mono J2_).mono Le.x0) _ _ _ (val a.ld) ((hNd.mono J2_).mono Le.x0) (by first | assumption | omega) (by first | assumption | omega)) ?_
 rintro v36 w36 G36 y36 O36 ⟨u36,rfl,⟨ad36,len36,P36,rfl,hn36⟩⟩
 have hN36 := hn36 _ G17.lt
 refine zz 10 ?_
 refine zc G36 (zAk _ _ G36.lt _ _ _ (Nat.gcd (val a.ln) (val a.ld)) hN36) ?_
 rintro v38 w38 G38 y38 O38 rfl
 refine zz 3 ?_
 refine zb 58 (b := !(decide (Nat.gcd (val a.ln) (val a.ld) = 1))) (fun J39 => ?_) (fun J39 => ?_)
 have F40 : ¬ (Nat.gcd (val a.ln) (val a.ld) = 1) := by simpa using J39
 refine zz 8 ?_
 refine zr' (v := .int .i64 2) ?_
 exact ⟨G38.upd,_,rfl,zO (zRe hlong hok ⟨by omega,by simpa using F40⟩).symm⟩
 have F41 : Nat.gcd (val a.ln) (val a.ld) = 1 := by simpa using J39
 refine zz 9 ?_
 refine zr' (v := .int .i64 0) ?_
 exact ⟨G38.upd,_,rfl,zO (zAs hlong hok (fun hh => hh.2 (by simpa using F41))).symm⟩
 have hok : ¬ (jA a.ln ≠ 0 ∨ jA a.ld ≠ 0 ∨ val a.ld = 1 ∨ (val a.ln = 0 ∧ (a.neg = true ∨ 0 < val a.ld))) := by intro hh; rcases hh with e | e | e | ⟨e,e2⟩; exact (fun x => absurd (by simpa using F10 : jA a.ln = 0) x) e; exact (fun x => absurd (by simpa using F15 : jA a.ld = 0) x) e; exact (fun x => absurd x (by simpa using F18)) e; omega
 refine zz 9 ?_
 refine zr' (v := .int .i64 0) ?_
 exact ⟨G17.upd,_,rfl,zO (zAs hlong hok (fun hh => by omega)).symm⟩
section
variable (w : World) (X : Hid) (hX : ∀ k o,X k o → k < w.heap.size)
set_option maxHeartbeats 1000000
def OpC (f : Nat) (op : Rat → Rat → Rat) : Prop := ∀ (w : World) (X : Hid) (hX : ∀ k o,X k o → k < w.heap.size) (ad₁ : Option Addr) (len₁ cap₁ n₁ : Nat) (h₁ : qC (rd w X) ad₁ len₁ cap₁ n₁) (ae₁ : Option Addr) (le₁ ce₁ d₁ : Nat) (k₁ : qC (rd w X) ae₁ le₁ ce₁ d₁) (s₁ : Bool) (hn₁ : n₁ < jK) (hd₁ : d₁ < jK) (ad₂ : Option Addr) (len₂ cap₂ n₂ : Nat) (h₂ : qC (rd w X) ad₂ len₂ cap₂ n₂) (ae₂ : Option Addr) (le₂ ce₂ d₂ : Nat) (k₂ : qC (rd w X) ae₂ le₂ ce₂ d₂) (s₂ : Bool) (hn₂ : n₂ < jK) (hd₂ : d₂ < jK) (hp₁ : 0 < d₁) (hp₂ : 0 < d₂),Calls Tryz.prog f #[.agg #[.slice ad₁ len₁ cap₁,.slice ae₁ le₁ ce₁,.bool s₁],.agg #[.slice ad₂ len₂ cap₂,.slice ae₂ le₂ ce₂,.bool s₂]] w (Ret E0 w fun w' v => ∃ s m d,zTu X w' v s m d ∧ m < 4294967296 ^ 512 ∧ d < 4294967296 ^ 512 ∧ 0 < d ∧ mkRat (sgn s m) d = op (mkRat (sgn s₁ n₁) d₁) (mkRat (sgn s₂ n₂) d₂))
theorem zIv {a b : Nat} (h : a < jK) (h2 : b < jK) : a * b < 4294967296 ^ 512 := qKo h h2
theorem qQm : OpC 74 (· + ·) := fun w X hX ad₁ len₁ cap₁ n₁ h₁ ae₁ le₁ ce₁ d₁ k₁ s₁ hn₁ hd₁ ad₂ len₂ cap₂ n₂ h₂ ae₂ le₂ ce₂ d₂ k₂ s₂ hn₂ hd₂ hp₁ hp₂ =>
 (qJa w X hX ad₁ len₁ cap₁ n₁ h₁ ae₁ le₁ ce₁ d₁ k₁ s₁ hn₁ hd₁ ad₂ len₂ cap₂ n₂ h₂ ae₂ le₂ ce₂ d₂ k₂ s₂ hn₂ hd₂).mono (by
  rintro e w' ⟨hu,v,rfl,s,m,hv,hm,he⟩
  refine ⟨hu,_,rfl,s,m,_,hv,hm,zIv hd₁ hd₂,Nat.mul_pos hp₁ hp₂,?_⟩
  show _ = mkRat (sgn s₁ n₁) d₁ + mkRat (sgn s₂ n₂) d₂
  rw [Rat.mkRat_add_mkRat _ _ (by omega) (by omega),he])
theorem zQk : OpC 70 (· * ·) := fun w X hX ad₁ len₁ cap₁ n₁ h₁ ae₁ le₁ ce₁ d₁ k₁ s₁ hn₁ hd₁ ad₂ len₂ cap₂ n₂ h₂ ae₂ le₂ ce₂ d₂ k₂ s₂ hn₂ hd₂ hp₁ hp₂ =>
 (zHz w X hX ad₁ len₁ cap₁ n₁ h₁ ae₁ le₁ ce₁ d₁ k₁ s₁ hn₁ hd₁ ad₂ len₂ cap₂ n₂ h₂ ae₂ le₂ ce₂ d₂ k₂ s₂ hn₂ hd₂).mono (by
  rintro e w' ⟨hu,v,rfl,s,m,hv,hm,he⟩
  refine ⟨hu,_,rfl,s,m,_,hv,hm,zIv hd₁ hd₂,Nat.mul_pos hp₁ hp₂,?_⟩
  show _ = mkRat (sgn s₁ n₁) d₁ * mkRat (sgn s₂ n₂) d₂
  rw [Rat.mkRat_mul_mkRat,he])
include hX in
theorem zEb (ad : Option Addr) (len cap x : Nat) (h : qC (rd w X) ad len cap x) (ad2 : Option Addr) (len2 P2 y : Nat) (h2 : qC (rd w X) ad2 len2 P2 y) (sg : Bool) (hx : x < 4294967296 ^ 512) (hy : y < 4294967296 ^ 512) (hd : 0 < y) (z : Rat) (hz : mkRat (sgn sg x) y = z) : Calls Tryz.prog 123 #[.agg #[.slice ad len cap,.slice ad2 len2 P2,.bool sg]] w (Ret E0 w fun w' v => bV (old w) w' v z) := by
 subst hz; exact zZz w X hX ad len cap x h ad2 len2 P2 y h2 sg hx hy hd
theorem zHw (f : Nat) (op : Rat → Rat → Rat) (hcf : ∀ args w,(callFunc f args).run Tryz.prog w = .ok (.enter f args) w) (hop : OpC f op) (w : World) (X : Hid) (hX : ∀ k o,X k o → k < w.heap.size) (a : Raw) (ad₁ : Option Addr) (len₁ cap₁ : Nat) (h₁ : zM (rd w X) ad₁ len₁ cap₁ a.ln) (ae₁ : Option Addr) (le₁ ce₁ : Nat) (k₁ : zM (rd w X) ae₁ le₁ ce₁ a.ld) (b : Raw) (ad₂ : Option Addr) (len₂ cap₂ : Nat) (h₂ : zM (rd w X) ad₂ len₂ cap₂ b.ln) (ae₂ : Option Addr) (le₂ ce₂ : Nat) (k₂ : zM (rd w X) ae₂ le₂ ce₂ b.ld) (z : Rat) (hz : op a.rat b.rat = z) : Calls Tryz.prog 68 #[.agg #[.bool a.neg,.slice ad₁ len₁ cap₁,.slice ae₁ le₁ ce₁],.agg #[.bool b.neg,.slice ad₂ len₂ cap₂,.slice ae₂ le₂ ce₂],.func (.func f) #[] #[]] w (Ret E0 w fun w' v => ∃ u,v = .tuple #[u,.int .i64 (opE a b z)] ∧ vP (old w) w' u (opR a b z)) := by
 refine zen Tryz.func68 ?_
 have G0 : St E0 w X w X [] := St.start hX
 refine zz 2 ?_
 refine zn pn (.cells #[.bool a.neg,.slice ad₁ len₁ cap₁,.slice ae₁ le₁ ce₁] 28 (0,0)) G0 fun b3 w3 Y3 G3 y3 O3 => ?_
 refine zn pn (.cells #[.bool b.neg,.slice ad₂ len₂ cap₂,.slice ae₂ le₂ ce₂] 28 (0,0)) G3 fun b5 w5 Y5 G5 y5 O5 => ?_
 refine zn pn (.cells #[.bool false,.slice none 0 0,.slice none 0 0] 28 (0,0)) G5 fun b7 w7 Y7 G7 y7 O7 => ?_
 refine zz 5 ?_
 refine zdr G7 ?_
 refine gw 0 2 ?_
 refine gw 2 1 ?_
 have J1_ := (Le2 y3 y5).trans y7
 refine gC 1 (fun w8 Y8 _ G8 y8 => (xI _ _ G8.lt a _ _ _ (h₁.mono (J1_.trans y8)) _ _ _ (k₁.mono (J1_.trans y8)))) ?_
 rintro v9 w8 Y9 w9 G8 y9 rfl
 have J2_ := J1_.trans y9
 refine gC 3 (fun w10 Y10 _ G10 y10 => (xI _ _ G10.lt b _ _ _ (h₂.mono (J2_.trans y10)) _ _ _ (k₂.mono (J2_.trans y10)))) ?_
 rintro v11 w10 Y11 w11 G10 y11 rfl
 refine gp1 (al 4 14 (fun b => .slice (some ⟨b,0,none⟩) 2 2) (.cells #[.int .i64 a.chk,.int .i64 b.chk] 37 (0,0))) (fun b12 => ?_)
 refine gC 5 (vs := #[.slice (some ⟨b12,0,none⟩) 2 2]) (fun w13 Y13 _ G13 y13 => (qBh _ X0 (qB _) _ _ _ _ [a.chk,b.chk] rfl (by simp) (G13.at0 0 rfl rfl))) ?_
 rintro v14 w13 Y14 w14 G13 y14 rfl
 refine gz [6] ?_
 refine xL (fun w15 Y15 G15 y15 => ?_)
 refine zz 7 ?_
 refine zb 17 (b := ((orL [a.chk,b.chk]) != 0)) (fun J16 => ?_) (fun J16 => ?_)
 have F17 : (orL [a.chk,b.chk]) ≠ 0 := by simpa using J16
 refine zz 5 ?_
 refine zx 1 #[.bool false,.slice none 0 0,.slice none 0 0] G15 fun w18 G18 y18 => ?_
 refine zz 5 ?_
 refine zrS [.cell 6 28,.tmp 7] (v := .tuple #[.agg #[.bool false,.slice none 0 0,.slice none 0 0],.int .i64 (orL [a.chk,b.chk])]) (Res.cM G18 1 (Res.tZ Res.nil)) ?_
 obtain ⟨he1,he2⟩ := zQa (z := z) F17
 exact ⟨G18.upd,_,rfl,_,by rw [he1],by rw [he2]; exact wM⟩
 have F19 : (orL [a.chk,b.chk]) = 0 := by simpa using J16
 obtain ⟨hca,hcb⟩ := rF ((zGd _ _).symm.trans (by simpa using F19))
 obtain ⟨hla,hma,cna,cda,_,_,_⟩ := Raw.chk_ok hca
 have bna : val a.ln < jK := (zW h₁.hlt cna 128).1 hla
 have bda : a.d < jK := by unfold Raw.d; split; exact Nat.one_lt_pow (by omega) (by omega); exact (zW k₁.hlt cda 128).1 hma
 have pda := Raw.d_pos a
 have hNna := h₁.natR cna
 have hNda := k₁.natR cda
 obtain ⟨hlb,hmb,cnb,cdb,_,_,_⟩ := Raw.chk_ok hcb
 have bnb : val b.ln < jK := (zW h₂.hlt cnb 128).1 hlb
 have bdb : b.d < jK := by unfold Raw.d; split; exact Nat.one_lt_pow (by omega) (by omega); exact (zW k₂.hlt cdb 128).1 hmb
 have pdb := Raw.d_pos b
 have hNnb := h₂.natR cnb
 have hNdb := k₂.natR cdb
 refine zz 4 ?_
 refine qDb [0,1,2,3] G15 ?_
 refine gz [0] ?_
 refine gw 1 3 ?_
 refine gw 3 2 ?_
 refine gp (al 7 9 pn (.cells #[.bool false,.slice none 0 0,.slice none 0 0] 28 (0,0))) ?_
 have J3_ := ((J2_.trans y11).trans y14).trans y15
 refine gC 2 (fun w20 Y20 _ G20 y20 => (zVb _ _ G20.lt a.neg _ _ _ (val a.ln) (hNna.mono (J3_.trans y20)) _ _ _ (val a.ld) (hNda.mono (J3_.trans y20)))) ?_ (hPd := yI.nil.k)
 rintro v21 w20 Y21 w21 G20 y21 ⟨ad21,len21,P21,ae21,le21,ce21,rfl,hN21,hD21⟩
 have J4_ := J3_.trans y21
 refine gC 4 (fun w22 Y22 _ G22 y22 => (zVb _ _ G22.lt b.neg _ _ _ (val b.ln) (hNnb.mono (J4_.trans y22)) _ _ _ (val b.ld) (hNdb.mono (J4_.trans y22)))) ?_ (hPd := yI.nil.k)
 rintro v23 w22 Y23 w23 G22 y23 ⟨ad23,len23,P23,ae23,le23,ce23,rfl,hN23,hD23⟩
 refine gC 5 (hcall := (fun w => hcf _ w)) (fun w24 Y24 _ G24 y24 => (hop _ _ G24.lt _ _ _ (val a.ln) (hN21.mono (Le2 y23 y24)) _ _ _ a.d (hD21.mono (Le2 y23 y24)) a.neg (by assumption) (by assumption) _ _ _ (val b.ln) (hN23.mono y24) _ _ _ b.d (hD23.mono y24) b.neg (by assumption) (by assumption) (by assumption) (by assumption))) ?_ (hPd := yI.nil.k)
 rintro v25 w24 Y25 w25 G24 y25 ⟨sg25,m25,d25,⟨ad25,len25,P25,ae25,le25,ce25,rfl,hN25,hD25⟩,hm25,hd25,hp25,he25⟩
 refine gC 6 (fun w26 Y26 _ G26 y26 => (zEb _ _ G26.lt _ _ _ m25 (hN25.mono y26) _ _ _ d25 (hD25.mono y26) sg25 hm25 hd25 hp25 z (he25.trans hz))) ?_ (hPd := yI.nil.k)
 rintro v27 w26 Y27 w27 G26 y27 ⟨ad27,len27,P27,ae27,le27,ce27,rfl,hN27,hD27⟩
 refine gs1 (fun b28 => ?_) yI.nil.k
 refine gX 8 0 #[.bool (decide (z.num < 0)),.slice ad27 len27 P27,.slice ae27 le27 ce27] fun w29 Y29 y29 => ?_
 refine xL (fun w30 Y30 G30 y30 => ?_)
 refine zz 5 ?_
 refine zo 0 G30 ?_
 refine zz 3 ?_
 refine zt 31 (p := (len27 : Int) > 128) (fun F31 => ?_) (fun F31 => ?_)
 refine zz 11 ?_
 refine zx 2 #[.bool false,.slice none 0 0,.slice none 0 0] G30 fun w32 G32 y32 => ?_
 refine zz 5 ?_
 refine zrS [.cell 6 28,.tmp 7] (v := .tuple #[.agg #[.bool false,.slice none 0 0,.slice none 0 0],.int .i64 4]) (Res.cM G32 2 (Res.tZ Res.nil)) ?_
 obtain ⟨he1,he2⟩ := zCg (z := z) F19 (fun hh => absurd ((hN27.len_le 128).2 hh.1) (by omega))
 exact ⟨G32.upd,_,rfl,_,by rw [he1],by rw [he2]; exact wM⟩
 refine zz 1 ?_
 refine zo 0 G30 ?_
 refine zz 5 ?_
 refine zt 36 (p := (le27 : Int) > 128) (fun F33 => ?_) (fun F33 => ?_)
 refine zz 4 ?_
 refine zx 2 #[.bool false,.slice none 0 0,.slice none 0 0] G30 fun w34 G34 y34 => ?_
 refine zz 5 ?_
 refine zrS [.cell 6 28,.tmp 7] (v := .tuple #[.agg #[.bool false,.slice none 0 0,.slice none 0 0],.int .i64 4]) (Res.cM G34 2 (Res.tZ Res.nil)) ?_
 obtain ⟨he1,he2⟩ := zCg (z := z) F19 (fun hh => absurd ((hD27.len_le 128).2 hh.2) (by omega))
 exact ⟨G34.upd,_,rfl,_,by rw [he1],by rw [he2]; exact wM⟩
 refine zz 5 ?_
 refine zo 0 G30 ?_
 refine zx 2 #[.bool (decide (z.num < 0)),.slice ad27 len27 P27,.slice ae27 le27 ce27] G30 fun w35 G35 y35 => ?_
 refine zz 4 ?_
 refine zrS [.cell 6 28,.tmp 7] (v := .tuple #[.agg #[.bool (decide (z.num < 0)),.slice ad27 len27 P27,.slice ae27 le27 ce27],.int .i64 0]) (Res.cM G35 2 (Res.tZ Res.nil)) ?_
 obtain ⟨he1,he2⟩ := zSo (z := z) F19 ⟨(hN27.len_le 128).1 (by omega),(hD27.len_le 128).1 (by omega)⟩
 exact ⟨G35.upd,_,rfl,_,by rw [he1],by rw [he2]; exact bV.raw ⟨_,_,_,_,_,_,rfl,((hN27.mono (Le.own G26.lt G26.upd.size (Le3 y29 y30 y35))).mono Le.orr),((hD27.mono (Le.own G26.lt G26.upd.size (Le3 y29 y30 y35))).mono Le.orr)⟩⟩
end
section
variable (w : World) (X : Hid) (hX : ∀ k o,X k o → k < w.heap.size)
set_option maxHeartbeats 1000000
include hX in
theorem qPx (a : Raw) (ad₁ : Option Addr) (len₁ cap₁ : Nat) (h₁ : zM (rd w X) ad₁ len₁ cap₁ a.ln) (ae₁ : Option Addr) (le₁ ce₁ : Nat) (k₁ : zM (rd w X) ae₁ le₁ ce₁ a.ld) (b : Raw) (ad₂ : Option Addr) (len₂ cap₂ : Nat) (h₂ : zM (rd w X) ad₂ len₂ cap₂ b.ln) (ae₂ : Option Addr) (le₂ ce₂ : Nat) (k₂ : zM (rd w X) ae₂ le₂ ce₂ b.ld) : Calls Tryz.prog 137 #[.agg #[.bool a.neg,.slice ad₁ len₁ cap₁,.slice ae₁ le₁ ce₁],.agg #[.bool b.neg,.slice ad₂ len₂ cap₂,.slice ae₂ le₂ ce₂]] w (Ret E0 w fun w' v => ∃ u,v = .tuple #[u,.int .i64 (opE a b (a.rat + b.rat))] ∧ vP (old w) w' u (opR a b (a.rat + b.rat))) := by
 refine zen Tryz.func137 ?_
 have G0 : St E0 w X w X [] := St.start hX
 refine zz 2 ?_
 refine zn pn (.cells #[.bool a.neg,.slice ad₁ len₁ cap₁,.slice ae₁ le₁ ce₁] 28 (0,0)) G0 fun b3 w3 Y3 G3 y3 O3 => ?_
 refine zn pn (.cells #[.bool b.neg,.slice ad₂ len₂ cap₂,.slice ae₂ le₂ ce₂] 28 (0,0)) G3 fun b5 w5 Y5 G5 y5 O5 => ?_
 refine zn pn (.cells #[.bool false,.slice none 0 0,.slice none 0 0] 28 (0,0)) G5 fun b7 w7 Y7 G7 y7 O7 => ?_
 refine zz 5 ?_
 refine zo 2 G7 ?_
 refine zo 1 G7 ?_
 refine zc G7 (zHw 74 (· + ·) (fun args w => Tryz.call74 args w) qQm _ _ G7.lt a _ _ _ (h₁.mono (Le3 y3 y5 y7)) _ _ _ (k₁.mono (Le3 y3 y5 y7)) b _ _ _ (h₂.mono (Le3 y3 y5 y7)) _ _ _ (k₂.mono (Le3 y3 y5 y7)) (a.rat + b.rat) rfl) ?_
 rintro v9 w9 G9 y9 O9 ⟨u9,rfl,⟨ad9,len9,P9,ae9,le9,ce9,rfl,hN9,hD9⟩⟩
 refine zz 2 ?_
 refine zx 0 #[.bool ((opR a b (a.rat + b.rat)).neg),.slice ad9 len9 P9,.slice ae9 le9 ce9] G9 fun w10 G10 y10 => ?_
 refine zz 4 ?_
 refine zrS [.cell 4 28,.tmp 5] (v := .tuple #[.agg #[.bool ((opR a b (a.rat + b.rat)).neg),.slice ad9 len9 P9,.slice ae9 le9 ce9],.int .i64 (opE a b (a.rat + b.rat))]) (Res.cM G10 0 (Res.tZ Res.nil)) ?_
 exact ⟨G10.upd,_,rfl,_,rfl,⟨_,_,_,_,_,_,rfl,((hN9.mono (Le.own G7.lt G7.upd.size y10)).mono Le.orr),((hD9.mono (Le.own G7.lt G7.upd.size y10)).mono Le.orr)⟩⟩
include hX in
theorem qQa (a : Raw) (ad₁ : Option Addr) (len₁ cap₁ : Nat) (h₁ : zM (rd w X) ad₁ len₁ cap₁ a.ln) (ae₁ : Option Addr) (le₁ ce₁ : Nat) (k₁ : zM (rd w X) ae₁ le₁ ce₁ a.ld) (b : Raw) (ad₂ : Option Addr) (len₂ cap₂ : Nat) (h₂ : zM (rd w X) ad₂ len₂ cap₂ b.ln) (ae₂ : Option Addr) (le₂ ce₂ : Nat) (k₂ : zM (rd w X) ae₂ le₂ ce₂ b.ld) : Calls Tryz.prog 121 #[.agg #[.bool a.neg,.slice ad₁ len₁ cap₁,.slice ae₁ le₁ ce₁],.agg #[.bool b.neg,.slice ad₂ len₂ cap₂,.slice ae₂ le₂ ce₂]] w (Ret E0 w fun w' v => ∃ u,v = .tuple #[u,.int .i64 (opE a b (a.rat * b.rat))] ∧ vP (old w) w' u (opR a b (a.rat * b.rat))) := by
 refine zen Tryz.func121 ?_
 have G0 : St E0 w X w X [] := St.start hX
 refine zz 2 ?_
 refine zn pn (.cells #[.bool a.neg,.slice ad₁ len₁ cap₁,.slice ae₁ le₁ ce₁] 28 (0,0)) G0 fun b3 w3 Y3 G3 y3 O3 => ?_
 refine zn pn (.cells #[.bool b.neg,.slice ad₂ len₂ cap₂,.slice ae₂ le₂ ce₂] 28 (0,0)) G3 fun b5 w5 Y5 G5 y5 O5 => ?_
 refine zn pn (.cells #[.bool false,.slice none 0 0,.slice none 0 0] 28 (0,0)) G5 fun b7 w7 Y7 G7 y7 O7 => ?_
 refine zz 5 ?_
 refine zo 2 G7 ?_
 refine zo 1 G7 ?_
 refine zc G7 (zHw 70 (· * ·) (fun args w => Tryz.call70 args w) zQk _ _ G7.lt a _ _ _ (h₁.mono (Le3 y3 y5 y7)) _ _ _ (k₁.mono (Le3 y3 y5 y7)) b _ _ _ (h₂.mono (Le3 y3 y5 y7)) _ _ _ (k₂.mono (Le3 y3 y5 y7)) (a.rat * b.rat) rfl) ?_
 rintro v9 w9 G9 y9 O9 ⟨u9,rfl,⟨ad9,len9,P9,ae9,le9,ce9,rfl,hN9,hD9⟩⟩
 refine zz 2 ?_
 refine zx 0 #[.bool ((opR a b (a.rat * b.rat)).neg),.slice ad9 len9 P9,.slice ae9 le9 ce9] G9 fun w10 G10 y10 => ?_
 refine zz 4 ?_
 refine zrS [.cell 4 28,.tmp 5] (v := .tuple #[.agg #[.bool ((opR a b (a.rat * b.rat)).neg),.slice ad9 len9 P9,.slice ae9 le9 ce9],.int .i64 (opE a b (a.rat * b.rat))]) (Res.cM G10 0 (Res.tZ Res.nil)) ?_
 exact ⟨G10.upd,_,rfl,_,rfl,⟨_,_,_,_,_,_,rfl,((hN9.mono (Le.own G7.lt G7.upd.size y10)).mono Le.orr),((hD9.mono (Le.own G7.lt G7.upd.size y10)).mono Le.orr)⟩⟩
include hX in
theorem qGx (n : Int) (h1 : -9223372036854775808 ≤ n) (h2 : n ≤ 9223372036854775807) : Calls Tryz.prog 27 #[.int .i64 n] w (Ret E0 w fun w' v => vP X w' v (.of (n : Rat))) := by
 refine zen Tryz.func27 ?_
 have G0 : St E0 w X w X [] := St.start hX
 refine zz 2 ?_
 refine zn pn (.cells #[.bool false,.slice none 0 0,.slice none 0 0] 28 (0,0)) G0 fun b3 w3 Y3 G3 y3 O3 => ?_
 refine zz 7 ?_
 refine zc G3 (aW _ _ G3.lt n (by omega) (by omega)) ?_
 rintro v5 w5 G5 y5 O5 ⟨ad5,len5,P5,rfl,hN5⟩
 refine zz 1 ?_
 refine zx 0 #[.bool (decide ((n) < 0)),.slice ad5 len5 P5,.slice none 0 0] G5 fun w6 G6 y6 => ?_
 refine zz 3 ?_
 refine zrS [.cell 2 28] (v := .agg #[.bool (decide ((n) < 0)),.slice ad5 len5 P5,.slice none 0 0]) (Res.cM G6 0 Res.nil) ?_
 exact ⟨G6.upd,_,rfl,(qFa ((hN5.mono y6).mono G6.le)).raw⟩
include hX in
theorem qPy (a : Raw) (ad₁ : Option Addr) (len₁ cap₁ : Nat) (h₁ : zM (rd w X) ad₁ len₁ cap₁ a.ln) (ae₁ : Option Addr) (le₁ ce₁ : Nat) (k₁ : zM (rd w X) ae₁ le₁ ce₁ a.ld) (b : Raw) (ad₂ : Option Addr) (len₂ cap₂ : Nat) (h₂ : zM (rd w X) ad₂ len₂ cap₂ b.ln) (ae₂ : Option Addr) (le₂ ce₂ : Nat) (k₂ : zM (rd w X) ae₂ le₂ ce₂ b.ld) : Calls Tryz.prog 30 #[.agg #[.bool a.neg,.slice ad₁ len₁ cap₁,.slice ae₁ le₁ ce₁],.agg #[.bool b.neg,.slice ad₂ len₂ cap₂,.slice ae₂ le₂ ce₂]] w (Ret E0 w fun w' v => v = .tuple #[.int .i64 (rT a b),.int .i64 (zBg a b)]) := by
 refine zen Tryz.func30 ?_
 have G0 : St E0 w X w X [] := St.start hX
 refine zz 2 ?_
 refine zn pn (.cells #[.bool a.neg,.slice ad₁ len₁ cap₁,.slice ae₁ le₁ ce₁] 28 (0,0)) G0 fun b3 w3 Y3 G3 y3 O3 => ?_
 refine zn pn (.cells #[.bool b.neg,.slice ad₂ len₂ cap₂,.slice ae₂ le₂ ce₂] 28 (0,0)) G3 fun b5 w5 Y5 G5 y5 O5 => ?_
 refine zz 6 ?_
 refine zdr G5 ?_
 refine gw 0 1 ?_
 refine gw 2 0 ?_
 refine gC 1 (fun w6 Y6 _ G6 y6 => (xI _ _ G6.lt a _ _ _ (h₁.mono (Le3 y3 y5 y6)) _ _ _ (k₁.mono (Le3 y3 y5 y6)))) ?_
 rintro v7 w6 Y7 w7 G6 y7 rfl
 have J1_ := (Le2 y3 y5).trans y7
 refine gC 3 (fun w8 Y8 _ G8 y8 => (xI _ _ G8.lt b _ _ _ (h₂.mono (J1_.trans y8)) _ _ _ (k₂.mono (J1_.trans y8)))) ?_
 rintro v9 w8 Y9 w9 G8 y9 rfl
 refine gp1 (al 4 14 (fun b => .slice (some ⟨b,0,none⟩) 2 2) (.cells #[.int .i64 a.chk,.int .i64 b.chk] 37 (0,0))) (fun b10 => ?_)
 refine gC 5 (vs := #[.slice (some ⟨b10,0,none⟩) 2 2]) (fun w11 Y11 _ G11 y11 => (qBh _ X0 (qB _) _ _ _ _ [a.chk,b.chk] rfl (by simp) (G11.at0 0 rfl rfl))) ?_
 rintro v12 w11 Y12 w12 G11 y12 rfl
 refine gz [6] ?_
 refine xL (fun w13 Y13 G13 y13 => ?_)
 refine zz 7 ?_
 refine zb 17 (b := ((orL [a.chk,b.chk]) != 0)) (fun J14 => ?_) (fun J14 => ?_)
 have F15 : (orL [a.chk,b.chk]) ≠ 0 := by simpa using J14
 refine zz 10 ?_
 refine zr' (v := .tuple #[.int .i64 0,.int .i64 (orL [a.chk,b.chk])]) ?_
 exact ⟨G13.upd,_,rfl,by rw [rT,zBg,← zGd,if_neg F15]⟩
 have F16 : (orL [a.chk,b.chk]) = 0 := by simpa using J14
 obtain ⟨hca,hcb⟩ := rF ((zGd _ _).symm.trans (by simpa using F16))
 obtain ⟨hla,hma,cna,cda,_,_,_⟩ := Raw.chk_ok hca
 have bna : val a.ln < jK := (zW h₁.hlt cna 128).1 hla
 have bda : a.d < jK := by unfold Raw.d; split; exact Nat.one_lt_pow (by omega) (by omega); exact (zW k₁.hlt cda 128).1 hma
 have pda := Raw.d_pos a
 have hNna := h₁.natR cna
 have hNda := k₁.natR cda
 obtain ⟨hlb,hmb,cnb,cdb,_,_,_⟩ := Raw.chk_ok hcb
 have bnb : val b.ln < jK := (zW h₂.hlt cnb 128).1 hlb
 have bdb : b.d < jK := by unfold Raw.d; split; exact Nat.one_lt_pow (by omega) (by omega); exact (zW k₂.hlt cdb 128).1 hmb
 have pdb := Raw.d_pos b
 have hNnb := h₂.natR cnb
 have hNdb := k₂.natR cdb
 refine zz 4 ?_
 refine zdrs [0,1,2] G13 ?_
 refine gw 0 2 ?_
 refine gw 2 1 ?_
 refine gp (al 5 8 pn (.cells #[.slice none 0 0,.slice none 0 0,.bool false] 116 (0,0))) ?_
 refine gp (al 4 7 pn (.cells #[.slice none 0 0,.slice none 0 0,.bool false] 116 (0,0))) ?_
 have J2_ := ((J1_.trans y9).trans y12).trans y13
 refine gC 1 (fun w17 Y17 _ G17 y17 => (zVb _ _ G17.lt a.neg _ _ _ (val a.ln) (hNna.mono (J2_.trans y17)) _ _ _ (val a.ld) (hNda.mono (J2_.trans y17)))) ?_ (hPd := yI.nil.k.k)
 rintro v18 w17 Y18 w18 G17 y18 ⟨ad18,len18,P18,ae18,le18,ce18,rfl,hN18,hD18⟩
 have J3_ := J2_.trans y18
 refine gC 3 (fun w19 Y19 _ G19 y19 => (zVb _ _ G19.lt b.neg _ _ _ (val b.ln) (hNnb.mono (J3_.trans y19)) _ _ _ (val b.ld) (hNdb.mono (J3_.trans y19)))) ?_ (hPd := yI.nil.k.k)
 rintro v20 w19 Y20 w20 G19 y20 ⟨ad20,len20,P20,ae20,le20,ce20,rfl,hN20,hD20⟩
 refine ge (fun e21 => ?_) yI.nil.k.k
 refine gXs 6 0 [2,3,4] #[.slice ad18 len18 P18,.slice ae18 le18 ce18,.bool a.neg] fun w22 Y22 y22 => ?_
 refine gXs 7 1 [2,3,4] #[.slice ad20 len20 P20,.slice ae20 le20 ce20,.bool b.neg] fun w23 Y23 y23 => ?_
 refine xL (fun w24 Y24 G24 y24 => ?_)
 refine zz 4 ?_
 refine zo 1 G24 ?_
 refine zz 2 ?_
 refine zx 1 #[.slice ad20 len20 P20,.slice ae20 le20 ce20,.bool (!b.neg)] G24 fun w25 G25 y25 => ?_
 refine zz 5 ?_
 refine zo 0 G25 ?_
 refine zo 1 G25 ?_
 have J4_ := (Le4 y20 y22 y23 y24).trans y25
 have J5_ := (Le3 y22 y23 y24).trans y25
 refine zc G25 (qJa _ _ G25.lt _ _ _ (val a.ln) (hN18.mono J4_) _ _ _ a.d (hD18.mono J4_) a.neg (by assumption) (by assumption) _ _ _ (val b.ln) (hN20.mono J5_) _ _ _ b.d (hD20.mono J5_) (!b.neg) (by assumption) (by assumption)) ?_
 rintro v27 w27 G27 y27 O27 ⟨sg27,m27,⟨ad27,len27,P27,ae27,le27,ce27,rfl,hN27,hD27⟩,hm27,he27⟩
 have J6_ := J4_.trans y27
 have J7_ := J5_.trans y27
 refine zn pn (.cells #[.slice none 0 0,.slice none 0 0,.bool false] 116 (0,0)) G27 fun b29 w29 Y29 G29 y29 O29 => ?_
 refine zx 0 #[.slice ad27 len27 P27,.slice ae27 le27 ce27,.bool sg27] G29 fun w30 G30 y30 => ?_
 refine zz 7 ?_
 refine zo 0 G30 ?_
 refine zz 5 ?_
 refine zb 30 (b := ((len27 : Int) == 0)) (fun J31 => ?_) (fun J31 => ?_)
 have F32 : (len27 : Int) = 0 := by simpa using J31
 have hdf : _ = a.rat - b.rat := zRh (he27.trans (by rw [zKk])) pda pdb
 have hm0 := hN27.len0.1 (by omega)
 refine zz 10 ?_
 refine zr' (v := .tuple #[.int .i64 0,.int .i64 0]) ?_
 exact ⟨G30.upd,_,rfl,by have h0 := F16; rw [rT,zBg,← zGd,if_pos (by simpa using h0),show orL [a.chk,b.chk] = 0 by simpa using h0,zXx hdf hm0]⟩
 have F33 : (len27 : Int) ≠ 0 := by simpa using J31
 have hdf : _ = a.rat - b.rat := zRh (he27.trans (by rw [zKk])) pda pdb
 have hm0 : m27 ≠ 0 := fun e => absurd (hN27.len0.2 e) (by omega)
 refine zz 4 ?_
 refine zo 0 G30 ?_
 refine zz 3 ?_
 refine zb 36 (b := sg27) (fun J34 => ?_) (fun J34 => ?_)
 have F35 : sg27 = true := by simpa using J34
 rw [F35] at hdf
 refine zz 10 ?_
 refine zr' (v := .tuple #[.int .i64 (-1),.int .i64 0]) ?_
 exact ⟨G30.upd,_,rfl,by have h0 := F16; rw [rT,zBg,← zGd,if_pos (by simpa using h0),show orL [a.chk,b.chk] = 0 by simpa using h0,qDy hdf hm0 (zYc pda pdb)]⟩
 have F36 : sg27 = false := by simpa using J34
 rw [F36] at hdf
 refine zz 11 ?_
 refine zr' (v := .tuple #[.int .i64 1,.int .i64 0]) ?_
 exact ⟨G30.upd,_,rfl,by have h0 := F16; rw [rT,zBg,← zGd,if_pos (by simpa using h0),show orL [a.chk,b.chk] = 0 by simpa using h0,qDz hdf hm0 (zYc pda pdb)]⟩
end
set_option maxHeartbeats 1000000
theorem qSa (w : World) (X : Hid) (hX : ∀ k o,X k o → k < w.heap.size) (p q : Int) (hp : -9223372036854775808 ≤ p) (hp2 : p ≤ 9223372036854775807) (hq : -9223372036854775808 ≤ q) (hq2 : q ≤ 9223372036854775807) (h0 : q ≠ 0) : Calls Tryz.prog 75 #[.int .i64 p,.int .i64 q] w (Ret E0 w fun w' v => ∃ u,v = .tuple #[u,.int .i64 0] ∧ vP X w' u (.of (mkRat (sgn (!(decide (p < 0) == decide (q < 0))) p.natAbs) q.natAbs))) := by
 have hB : (18446744073709551616 : Nat) ≤ 4294967296 ^ 512 := Nat.le_trans (by decide : 18446744073709551616 ≤ 4294967296 ^ 2) (zKd 4294967296 2 512 (by decide) (by decide))
 refine zen Tryz.func75 ?_
 have G0 : St E0 w X w X [] := St.start hX
 refine zz 2 ?_
 refine zn pn (.cells #[.bool false,.slice none 0 0,.slice none 0 0] 28 (0,0)) G0 fun b3 w3 Y3 G3 y3 O3 => ?_
 refine zz 10 ?_
 refine zb 7 (b := ((q) == 0)) (fun J4 => ?_) (fun J4 => ?_)
 have F5 : (q) = 0 := by simpa using J4
 exfalso; omega
 have F6 : (q) ≠ 0 := by simpa using J4
 refine zz 6 ?_
 refine zc G3 (aW _ _ G3.lt p (by omega) (by omega)) ?_
 rintro v8 w8 G8 y8 O8 ⟨ad8,zBj,P8,rfl,hN8⟩
 refine zz 1 ?_
 refine zc G8 (aW _ _ G8.lt q (by omega) (by omega)) ?_
 rintro v10 w10 G10 y10 O10 ⟨ad10,len10,P10,rfl,hN10⟩
 refine zz 7 ?_
 refine zc G10 (zEb _ _ G10.lt _ _ _ p.natAbs (hN8.mono y10) _ _ _ q.natAbs hN10 (!((decide ((p) < 0)) == (decide ((q) < 0)))) (by omega) (by omega) (by omega) (mkRat (sgn (!(decide (p < 0) == decide (q < 0))) p.natAbs) q.natAbs) rfl) ?_
 rintro v12 w12 G12 y12 O12 ⟨ad12,len12,P12,ae12,le12,ce12,rfl,hN12,hD12⟩
 refine zx 0 #[.bool (decide ((mkRat (sgn (!(decide (p < 0) == decide (q < 0))) p.natAbs) q.natAbs).num < 0)),.slice ad12 len12 P12,.slice ae12 le12 ce12] G12 fun w13 G13 y13 => ?_
 refine zz 4 ?_
 refine zrS [.cell 4 28,.tmp 5] (v := .tuple #[.agg #[.bool (decide ((mkRat (sgn (!(decide (p < 0) == decide (q < 0))) p.natAbs) q.natAbs).num < 0)),.slice ad12 len12 P12,.slice ae12 le12 ce12],.int .i64 0]) (Res.cM G13 0 (Res.tZ Res.nil)) ?_
 exact ⟨G13.upd,_,rfl,_,rfl,bV.raw ⟨_,_,_,_,_,_,rfl,((hN12.mono (Le.new G10.lt)).mono y13).mono G13.le,((hD12.mono (Le.new G10.lt)).mono y13).mono G13.le⟩⟩
section
variable (w : World) (X : Hid) (hX : ∀ k o,X k o → k < w.heap.size)
set_option maxHeartbeats 1000000
theorem zAi {α : Type} {l : List α} {k : Nat} {x : α} (h : l[k]? = some x) : l.take (k + 1) = l.take k ++ [x] := by rw [List.take_add_one,h]; rfl
theorem bI {α : Type} {l l2 : List α} {k : Nat} {x : α} (h : l.take k = l2.take k) (hx : l[k]? = some x) (hy : l2[k]? = some x) : l.take (k + 1) = l2.take (k + 1) := by rw [zAi hx,zAi hy,h]
theorem mJ {α : Type} {l l2 : List α} {k : Nat} (h : l.take k = l2.take k) (hl : l.length = l2.length) (hk : l.length ≤ k) : l = l2 := by
 rwa [List.take_of_length_le hk,List.take_of_length_le (by omega)] at h
theorem qRv {α : Type} {l l2 : List α} {k : Nat} {x y : α} (hx : l[k]? = some x) (hy : l2[k]? = some y) (h : x ≠ y) : l ≠ l2 := by
 rintro rfl; exact h (Option.some.inj (hx.symm.trans hy))
theorem getD_some {l : List Nat} {k : Nat} (h : k < l.length) : l[k]? = some (l.getD k 0) := by
 rw [List.getD_eq_getElem?_getD,List.getElem?_eq_getElem h]; rfl
theorem zAl {x y : Bool} (h : x = y) : Value.bool x = .bool y := h ▸ rfl
include hX in
theorem zIk (ad : Option Addr) (len cap : Nat) (l : List Nat) (h : zM (rd w X) ad len cap l) (ad2 : Option Addr) (len2 P2 : Nat) (l2 : List Nat) (h2 : zM (rd w X) ad2 len2 P2 l2) : Calls Tryz.prog 126 #[.slice ad len cap,.slice ad2 len2 P2] w (Ret E0 w fun _ v => v = .bool (decide (l = l2))) := by
 obtain rfl := h.hlen
 obtain rfl := h2.hlen
 have hcap := h.hcap
 have hbig := h.hbig
 have hcap2 := h2.hcap
 have hbig2 := h2.hbig
 refine zen Tryz.func126 ?_
 have G0 : St E0 w X w X [] := St.start hX
 refine zz 15 ?_
 refine zb 10 (b := ((l.length : Int) != (l2.length : Int))) (fun J2 => ?_) (fun J2 => ?_)
 have F3 : (l.length : Int) ≠ (l2.length : Int) := by simpa using J2
 refine zz 8 ?_
 refine zr' (v := .bool false) ?_
 exact ⟨G0.upd,_,rfl,zAl ((decide_eq_false (fun e => by rw [e] at F3; exact F3 rfl)).symm)⟩
 have F4 : (l.length : Int) = (l2.length : Int) := by simpa using J2
 have hlen : l.length = l2.length := by omega
 refine zz 10 ?_
 refine zlp Tryz.f126 [] [1,1,0,1,0] (fun (k : Nat) => [(0,.slice ad l.length cap),(1,.slice ad2 l2.length P2),(5,.int .i64 (k : Int))]) (fun k w1 => ∃ (Y1 : Hid),St E0 w X w1 Y1 [] ∧ Le (rd w X) (rd w1 Y1) ∧ (l.take k = l2.take k) ∧ (k ≤ l.length)) (fun k => l.length - k) 0 ?_ ?_
 refine ⟨_,G0,Le.refl _,rfl,Nat.zero_le _⟩
 rintro k w5 K5 Z5 ⟨Y5,G5,y5,hp5_0,hp5_1⟩
 refine zz 9 ?_
 refine zt 14 (p := (k : Int) < (l.length : Int)) (fun F6 => ?_) (fun F6 => ?_)
 obtain ⟨b1,off1,rfl,_⟩ := h.addr (by omega)
 have hx1 := getD_some (l := l) (k := k) (by omega)
 obtain ⟨b2,off2,rfl,_⟩ := h2.addr (by omega)
 have hx2 := getD_some (l := l2) (k := k) (by omega)
 refine zz 6 ?_
 refine zdr G5 ?_
 refine gz [0,1] ?_
 refine gi 2 (b := b1) (off := off1) (len := l.length) (cap := cap) (kd := .i64) (i := (k : Int)) 1 (off1 + k) ?_
 refine gl 3 ((h.cell (i := k) (by omega)).mono y5) ?_
 refine gz [4,5] ?_
 refine gi 6 (b := b2) (off := off2) (len := l2.length) (cap := P2) (kd := .i64) (i := (k : Int)) 1 (off2 + k) ?_
 refine gl 7 ((h2.cell (i := k) (by omega)).mono y5) ?_
 refine gz [8] ?_
 refine xL (fun w7 Y7 G7 y7 => ?_)
 refine zz 1 ?_
 refine zb 25 (b := (((l.getD k 0 : Nat) : Int) != ((l2.getD k 0 : Nat) : Int))) (fun J8 => ?_) (fun J8 => ?_)
 have F9 : ((l.getD k 0 : Nat) : Int) ≠ ((l2.getD k 0 : Nat) : Int) := by simpa using J8
 refine zz 12 ?_
 refine zr' (v := .bool false) ?_
 exact ⟨G7.upd,_,rfl,zAl ((decide_eq_false (qRv hx1 hx2 (fun e => F9 (by rw [e])))).symm)⟩
 have F10 : ((l.getD k 0 : Nat) : Int) = ((l2.getD k 0 : Nat) : Int) := by simpa using J8
 refine zz 7 ?_
 refine zw 16 (x := (k : Int) + 1) ?_
 refine zz 2 ?_
 refine yE (fun a h => Z5 (k + 1) _ a h ⟨_,G7,(Le2 y5 y7),bI hp5_0 hx1 (by rw [show l.getD k 0 = l2.getD k 0 by omega]; exact hx2),by omega⟩ ?_)
 first | omega | (simp <;> omega)
 refine zz 12 ?_
 refine zr' (v := .bool true) ?_
 exact ⟨G5.upd,_,rfl,zAl ((decide_eq_true (mJ hp5_0 hlen (by omega))).symm)⟩
include hX in
theorem kR (ad : Option Addr) (len cap : Nat) (l : List Nat) (h : zM (rd w X) ad len cap l) (ad2 : Option Addr) (len2 P2 : Nat) (l2 : List Nat) (h2 : zM (rd w X) ad2 len2 P2 l2) : Calls Tryz.prog 72 #[.slice ad len cap,.slice ad2 len2 P2] w (Ret E0 w fun _ v => v = .bool (decide (l = l2))) := by
 obtain rfl := h.hlen
 obtain rfl := h2.hlen
 have hcap := h.hcap
 have hbig := h.hbig
 have hcap2 := h2.hcap
 have hbig2 := h2.hbig
 refine zen Tryz.func72 ?_
 have G0 : St E0 w X w X [] := St.start hX
 refine zz 9 ?_
 refine zc G0 (zIk _ _ G0.lt _ _ _ _ h _ _ _ _ h2) ?_
 rintro v3 w3 G3 y3 O3 rfl
 refine zz 4 ?_
 refine zr' (v := .bool (decide (l = l2))) ?_
 exact ⟨G3.upd,_,rfl,rfl⟩
theorem zKf {a b : Raw} : a = b ↔ a.neg = b.neg ∧ a.ln = b.ln ∧ a.ld = b.ld := by cases a; cases b; simp
include hX in
theorem zOv (a : Raw) (ad₁ : Option Addr) (len₁ cap₁ : Nat) (h₁ : zM (rd w X) ad₁ len₁ cap₁ a.ln) (ae₁ : Option Addr) (le₁ ce₁ : Nat) (k₁ : zM (rd w X) ae₁ le₁ ce₁ a.ld) (b : Raw) (ad₂ : Option Addr) (len₂ cap₂ : Nat) (h₂ : zM (rd w X) ad₂ len₂ cap₂ b.ln) (ae₂ : Option Addr) (le₂ ce₂ : Nat) (k₂ : zM (rd w X) ae₂ le₂ ce₂ b.ld) : Calls Tryz.prog 28 #[.agg #[.bool a.neg,.slice ad₁ len₁ cap₁,.slice ae₁ le₁ ce₁],.agg #[.bool b.neg,.slice ad₂ len₂ cap₂,.slice ae₂ le₂ ce₂]] w (Ret E0 w fun _ v => v = .bool (decide (a = b))) := by
 refine zen Tryz.func28 ?_
 have G0 : St E0 w X w X [] := St.start hX
 refine zz 2 ?_
 refine zn pn (.cells #[.bool a.neg,.slice ad₁ len₁ cap₁,.slice ae₁ le₁ ce₁] 28 (0,0)) G0 fun b3 w3 Y3 G3 y3 O3 => ?_
 refine zn pn (.cells #[.bool b.neg,.slice ad₂ len₂ cap₂,.slice ae₂ le₂ ce₂] 28 (0,0)) G3 fun b5 w5 Y5 G5 y5 O5 => ?_
 refine zz 6 ?_
 refine zo 1 G5 ?_
 refine zz 1 ?_
 refine zo 0 G5 ?_
 refine zz 2 ?_
 refine zb 10 (b := (a.neg == b.neg)) (fun J6 => ?_) (fun J6 => ?_)
 have F7 : a.neg = b.neg := by simpa using J6
 refine zz 1 ?_
 refine zo 1 G5 ?_
 refine zz 1 ?_
 refine zo 0 G5 ?_
 refine zc G5 (kR _ _ G5.lt _ _ _ _ (h₁.mono (Le2 y3 y5)) _ _ _ _ (h₂.mono (Le2 y3 y5))) ?_
 rintro v9 w9 G9 y9 O9 rfl
 refine zz 2 ?_
 refine zb 17 (b := (decide (a.ln = b.ln))) (fun J10 => ?_) (fun J10 => ?_)
 have F11 : a.ln = b.ln := of_decide_eq_true J10
 refine zz 1 ?_
 refine zo 1 G9 ?_
 refine zz 1 ?_
 refine zo 0 G9 ?_
 refine zc G9 (kR _ _ G9.lt _ _ _ _ (k₁.mono (Le3 y3 y5 y9)) _ _ _ _ (k₂.mono (Le3 y3 y5 y9))) ?_
 rintro v13 w13 G13 y13 O13 rfl
 refine zz 5 ?_
 refine zr' (v := .bool (decide (a.ld = b.ld))) ?_
 refine ⟨G13.upd,_,rfl,zAl ?_⟩
 refine Bool.eq_iff_iff.2 ?_; rw [show (decide (a = b) = true) ↔ _ from decide_eq_true_iff.trans zKf]; simp_all
 have F14 : ¬ (a.ln = b.ln) := of_decide_eq_false J10
 refine zz 10 ?_
 refine zr' (v := .bool false) ?_
 refine ⟨G9.upd,_,rfl,zAl ?_⟩
 refine Bool.eq_iff_iff.2 ?_; rw [show (decide (a = b) = true) ↔ _ from decide_eq_true_iff.trans zKf]; simp_all
 have F15 : a.neg ≠ b.neg := by simpa using J6
 refine zz 17 ?_
 refine zr' (v := .bool false) ?_
 refine ⟨G5.upd,_,rfl,zAl ?_⟩
 refine Bool.eq_iff_iff.2 ?_; rw [show (decide (a = b) = true) ↔ _ from decide_eq_true_iff.trans zKf]; simp_all
end
section
variable (w : World) (X : Hid) (hX : ∀ k o,X k o → k < w.heap.size)
set_option maxHeartbeats 1000000
include hX in
theorem qKp (ad₁ : Option Addr) (len₁ cap₁ n₁ : Nat) (h₁ : qC (rd w X) ad₁ len₁ cap₁ n₁) (ae₁ : Option Addr) (le₁ ce₁ d₁ : Nat) (k₁ : qC (rd w X) ae₁ le₁ ce₁ d₁) (s₁ : Bool) (hn₁ : n₁ < jK) (hd₁ : d₁ < jK) (ad₂ : Option Addr) (len₂ cap₂ n₂ : Nat) (h₂ : qC (rd w X) ad₂ len₂ cap₂ n₂) (ae₂ : Option Addr) (le₂ ce₂ d₂ : Nat) (k₂ : qC (rd w X) ae₂ le₂ ce₂ d₂) (s₂ : Bool) (hn₂ : n₂ < jK) (hd₂ : d₂ < jK) : Calls Tryz.prog 69 #[.agg #[.slice ad₁ len₁ cap₁,.slice ae₁ le₁ ce₁,.bool s₁],.agg #[.slice ad₂ len₂ cap₂,.slice ae₂ le₂ ce₂,.bool s₂]] w (Ret E0 w fun w' v => ∃ s m,zTu X w' v s m (d₁ * n₂) ∧ m < 4294967296 ^ 512 ∧ sgn s m = sgn s₁ n₁ * sgn s₂ d₂) := by
 refine zen Tryz.func69 ?_
 have G0 : St E0 w X w X [] := St.start hX
 have hb : ∀ {x : Nat},x < jK → x < 4294967296 ^ 512 := fun h => Nat.lt_of_lt_of_le h qFd
 have hbn1 := hb hn₁
 have hbn2 := hb hn₂
 have hbd1 := hb hd₁
 have hbd2 := hb hd₂
 obtain ⟨hp1,hp12⟩ := kQ hn₁ hd₂ hn₂ hd₁
 have hp2 := (kQ hn₂ hd₁ hn₁ hd₂).1
 have hpd := (kQ hd₁ hd₂ hd₁ hd₂).1
 have hpn := (kQ hn₁ hn₂ hd₁ hd₂).1
 refine zz 2 ?_
 refine zn pn (.cells #[.slice ad₁ len₁ cap₁,.slice ae₁ le₁ ce₁,.bool s₁] 116 (0,0)) G0 fun b3 w3 Y3 G3 y3 O3 => ?_
 refine zn pn (.cells #[.slice ad₂ len₂ cap₂,.slice ae₂ le₂ ce₂,.bool s₂] 116 (0,0)) G3 fun b5 w5 Y5 G5 y5 O5 => ?_
 refine zn pn (.cells #[.slice none 0 0,.slice none 0 0,.bool false] 116 (0,0)) G5 fun b7 w7 Y7 G7 y7 O7 => ?_
 refine zz 6 ?_
 refine zo 1 G7 ?_
 refine zz 2 ?_
 refine zo 1 G7 ?_
 refine zz 2 ?_
 refine zx 1 #[.slice ae₂ le₂ ce₂,.slice ae₂ le₂ ce₂,.bool s₂] G7 fun w8 G8 y8 => ?_
 refine zz 2 ?_
 refine zx 1 #[.slice ae₂ le₂ ce₂,.slice ad₂ len₂ cap₂,.bool s₂] G8 fun w9 G9 y9 => ?_
 refine zz 4 ?_
 refine zo 2 G9 ?_
 refine zo 1 G9 ?_
 have J1_ := (Le4 y3 y5 y7 y8).trans y9
 refine zc G9 (zHz _ _ G9.lt _ _ _ n₁ (h₁.mono J1_) _ _ _ d₁ (k₁.mono J1_) s₁ (by assumption) (by assumption) _ _ _ d₂ (k₂.mono J1_) _ _ _ n₂ (h₂.mono J1_) s₂ (by assumption) (by assumption)) ?_
 rintro v11 w11 G11 y11 O11 ⟨sg11,m11,⟨ad11,len11,P11,ae11,le11,ce11,rfl,hN11,hD11⟩,hm11,he11⟩
 have J2_ := J1_.trans y11
 refine zx 0 #[.slice ad11 len11 P11,.slice ae11 le11 ce11,.bool sg11] G11 fun w12 G12 y12 => ?_
 refine zz 3 ?_
 refine zrS [.cell 4 116] (v := .agg #[.slice ad11 len11 P11,.slice ae11 le11 ce11,.bool sg11]) (Res.cM G12 0 Res.nil) ?_
 exact ⟨G12.upd,_,rfl,_,_,⟨_,_,_,_,_,_,rfl,(hN11.mono y12).mono G12.le,(hD11.mono y12).mono G12.le⟩,hm11,he11⟩
def OpD (f : Nat) (op : Rat → Rat → Rat) : Prop := ∀ (w : World) (X : Hid) (hX : ∀ k o,X k o → k < w.heap.size) (ad₁ : Option Addr) (len₁ cap₁ n₁ : Nat) (h₁ : qC (rd w X) ad₁ len₁ cap₁ n₁) (ae₁ : Option Addr) (le₁ ce₁ d₁ : Nat) (k₁ : qC (rd w X) ae₁ le₁ ce₁ d₁) (s₁ : Bool) (hn₁ : n₁ < jK) (hd₁ : d₁ < jK) (ad₂ : Option Addr) (len₂ cap₂ n₂ : Nat) (h₂ : qC (rd w X) ad₂ len₂ cap₂ n₂) (ae₂ : Option Addr) (le₂ ce₂ d₂ : Nat) (k₂ : qC (rd w X) ae₂ le₂ ce₂ d₂) (s₂ : Bool) (hn₂ : n₂ < jK) (hd₂ : d₂ < jK) (hp₁ : 0 < d₁) (hp₂ : 0 < d₂) (hz : n₂ ≠ 0),Calls Tryz.prog f #[.agg #[.slice ad₁ len₁ cap₁,.slice ae₁ le₁ ce₁,.bool s₁],.agg #[.slice ad₂ len₂ cap₂,.slice ae₂ le₂ ce₂,.bool s₂]] w (Ret E0 w fun w' v => ∃ s m d,zTu X w' v s m d ∧ m < 4294967296 ^ 512 ∧ d < 4294967296 ^ 512 ∧ 0 < d ∧ mkRat (sgn s m) d = op (mkRat (sgn s₁ n₁) d₁) (mkRat (sgn s₂ n₂) d₂))
theorem qFb (s : Bool) (a b : Nat) : (mkRat (sgn s a) b)⁻¹ = mkRat (sgn s b) a := by
 rw [← Rat.divInt_ofNat,Rat.inv_divInt,← Rat.divInt_ofNat]
 cases s
 ·rfl
 ·show Rat.divInt b (-(a : Int)) = Rat.divInt (-(b : Int)) a
  rw [← Rat.neg_divInt_neg,Int.neg_neg]
theorem qKq : OpD 69 (· / ·) := fun w X hX ad₁ len₁ cap₁ n₁ h₁ ae₁ le₁ ce₁ d₁ k₁ s₁ hn₁ hd₁ ad₂ len₂ cap₂ n₂ h₂ ae₂ le₂ ce₂ d₂ k₂ s₂ hn₂ hd₂ hp₁ hp₂ hz =>
 (qKp w X hX ad₁ len₁ cap₁ n₁ h₁ ae₁ le₁ ce₁ d₁ k₁ s₁ hn₁ hd₁ ad₂ len₂ cap₂ n₂ h₂ ae₂ le₂ ce₂ d₂ k₂ s₂ hn₂ hd₂).mono (by
  rintro e w' ⟨hu,v,rfl,s,m,hv,hm,he⟩
  refine ⟨hu,_,rfl,s,m,_,hv,hm,zIv hd₁ hn₂,Nat.mul_pos hp₁ (Nat.pos_of_ne_zero hz),?_⟩
  show _ = mkRat (sgn s₁ n₁) d₁ / mkRat (sgn s₂ n₂) d₂
  rw [Rat.div_def,qFb,Rat.mkRat_mul_mkRat,he])
theorem zQb (f : Nat) (op : Rat → Rat → Rat) (hcf : ∀ args w,(callFunc f args).run Tryz.prog w = .ok (.enter f args) w) (hop : OpD f op) (w : World) (X : Hid) (hX : ∀ k o,X k o → k < w.heap.size) (a : Raw) (ad₁ : Option Addr) (len₁ cap₁ : Nat) (h₁ : zM (rd w X) ad₁ len₁ cap₁ a.ln) (ae₁ : Option Addr) (le₁ ce₁ : Nat) (k₁ : zM (rd w X) ae₁ le₁ ce₁ a.ld) (b : Raw) (ad₂ : Option Addr) (len₂ cap₂ : Nat) (h₂ : zM (rd w X) ad₂ len₂ cap₂ b.ln) (ae₂ : Option Addr) (le₂ ce₂ : Nat) (k₂ : zM (rd w X) ae₂ le₂ ce₂ b.ld) (hb0 : val b.ln ≠ 0) (z : Rat) (hz : op a.rat b.rat = z) : Calls Tryz.prog 68 #[.agg #[.bool a.neg,.slice ad₁ len₁ cap₁,.slice ae₁ le₁ ce₁],.agg #[.bool b.neg,.slice ad₂ len₂ cap₂,.slice ae₂ le₂ ce₂],.func (.func f) #[] #[]] w (Ret E0 w fun w' v => ∃ u,v = .tuple #[u,.int .i64 (opE a b z)] ∧ vP (old w) w' u (opR a b z)) := by
 refine zen Tryz.func68 ?_
 have G0 : St E0 w X w X [] := St.start hX
 refine zz 2 ?_
 refine zn pn (.cells #[.bool a.neg,.slice ad₁ len₁ cap₁,.slice ae₁ le₁ ce₁] 28 (0,0)) G0 fun b3 w3 Y3 G3 y3 O3 => ?_
 refine zn pn (.cells #[.bool b.neg,.slice ad₂ len₂ cap₂,.slice ae₂ le₂ ce₂] 28 (0,0)) G3 fun b5 w5 Y5 G5 y5 O5 => ?_
 refine zn pn (.cells #[.bool false,.slice none 0 0,.slice none 0 0] 28 (0,0)) G5 fun b7 w7 Y7 G7 y7 O7 => ?_
 refine zz 5 ?_
 refine zdr G7 ?_
 refine gw 0 2 ?_
 refine gw 2 1 ?_
 have J1_ := (Le2 y3 y5).trans y7
 refine gC 1 (fun w8 Y8 _ G8 y8 => (xI _ _ G8.lt a _ _ _ (h₁.mono (J1_.trans y8)) _ _ _ (k₁.mono (J1_.trans y8)))) ?_
 rintro v9 w8 Y9 w9 G8 y9 rfl
 have J2_ := J1_.trans y9
 refine gC 3 (fun w10 Y10 _ G10 y10 => (xI _ _ G10.lt b _ _ _ (h₂.mono (J2_.trans y10)) _ _ _ (k₂.mono (J2_.trans y10)))) ?_
 rintro v11 w10 Y11 w11 G10 y11 rfl
 refine gp1 (al 4 14 (fun b => .slice (some ⟨b,0,none⟩) 2 2) (.cells #[.int .i64 a.chk,.int .i64 b.chk] 37 (0,0))) (fun b12 => ?_)
 refine gC 5 (vs := #[.slice (some ⟨b12,0,none⟩) 2 2]) (fun w13 Y13 _ G13 y13 => (qBh _ X0 (qB _) _ _ _ _ [a.chk,b.chk] rfl (by simp) (G13.at0 0 rfl rfl))) ?_
 rintro v14 w13 Y14 w14 G13 y14 rfl
 refine gz [6] ?_
 refine xL (fun w15 Y15 G15 y15 => ?_)
 refine zz 7 ?_
 refine zb 17 (b := ((orL [a.chk,b.chk]) != 0)) (fun J16 => ?_) (fun J16 => ?_)
 have F17 : (orL [a.chk,b.chk]) ≠ 0 := by simpa using J16
 refine zz 5 ?_
 refine zx 1 #[.bool false,.slice none 0 0,.slice none 0 0] G15 fun w18 G18 y18 => ?_
 refine zz 5 ?_
 refine zrS [.cell 6 28,.tmp 7] (v := .tuple #[.agg #[.bool false,.slice none 0 0,.slice none 0 0],.int .i64 (orL [a.chk,b.chk])]) (Res.cM G18 1 (Res.tZ Res.nil)) ?_
 obtain ⟨he1,he2⟩ := zQa (z := z) F17
 exact ⟨G18.upd,_,rfl,_,by rw [he1],by rw [he2]; exact wM⟩
 have F19 : (orL [a.chk,b.chk]) = 0 := by simpa using J16
 obtain ⟨hca,hcb⟩ := rF ((zGd _ _).symm.trans (by simpa using F19))
 obtain ⟨hla,hma,cna,cda,_,_,_⟩ := Raw.chk_ok hca
 have bna : val a.ln < jK := (zW h₁.hlt cna 128).1 hla
 have bda : a.d < jK := by unfold Raw.d; split; exact Nat.one_lt_pow (by omega) (by omega); exact (zW k₁.hlt cda 128).1 hma
 have pda := Raw.d_pos a
 have hNna := h₁.natR cna
 have hNda := k₁.natR cda
 obtain ⟨hlb,hmb,cnb,cdb,_,_,_⟩ := Raw.chk_ok hcb
 have bnb : val b.ln < jK := (zW h₂.hlt cnb 128).1 hlb
 have bdb : b.d < jK := by unfold Raw.d; split; exact Nat.one_lt_pow (by omega) (by omega); exact (zW k₂.hlt cdb 128).1 hmb
 have pdb := Raw.d_pos b
 have hNnb := h₂.natR cnb
 have hNdb := k₂.natR cdb
 refine zz 4 ?_
 refine qDb [0,1,2,3] G15 ?_
 refine gz [0] ?_
 refine gw 1 3 ?_
 refine gw 3 2 ?_
 refine gp (al 7 9 pn (.cells #[.bool false,.slice none 0 0,.slice none 0 0] 28 (0,0))) ?_
 have J3_ := ((J2_.trans y11).trans y14).trans y15
 refine gC 2 (fun w20 Y20 _ G20 y20 => (zVb _ _ G20.lt a.neg _ _ _ (val a.ln) (hNna.mono (J3_.trans y20)) _ _ _ (val a.ld) (hNda.mono (J3_.trans y20)))) ?_ (hPd := yI.nil.k)
 rintro v21 w20 Y21 w21 G20 y21 ⟨ad21,len21,P21,ae21,le21,ce21,rfl,hN21,hD21⟩
 have J4_ := J3_.trans y21
 refine gC 4 (fun w22 Y22 _ G22 y22 => (zVb _ _ G22.lt b.neg _ _ _ (val b.ln) (hNnb.mono (J4_.trans y22)) _ _ _ (val b.ld) (hNdb.mono (J4_.trans y22)))) ?_ (hPd := yI.nil.k)
 rintro v23 w22 Y23 w23 G22 y23 ⟨ad23,len23,P23,ae23,le23,ce23,rfl,hN23,hD23⟩
 refine gC 5 (hcall := (fun w => hcf _ w)) (fun w24 Y24 _ G24 y24 => (hop _ _ G24.lt _ _ _ (val a.ln) (hN21.mono (Le2 y23 y24)) _ _ _ a.d (hD21.mono (Le2 y23 y24)) a.neg (by assumption) (by assumption) _ _ _ (val b.ln) (hN23.mono y24) _ _ _ b.d (hD23.mono y24) b.neg (by assumption) (by assumption) (by assumption) (by assumption) (by assumption))) ?_ (hPd := yI.nil.k)
 rintro v25 w24 Y25 w25 G24 y25 ⟨sg25,m25,d25,⟨ad25,len25,P25,ae25,le25,ce25,rfl,hN25,hD25⟩,hm25,hd25,hp25,he25⟩
 refine gC 6 (fun w26 Y26 _ G26 y26 => (zEb _ _ G26.lt _ _ _ m25 (hN25.mono y26) _ _ _ d25 (hD25.mono y26) sg25 hm25 hd25 hp25 z (he25.trans hz))) ?_ (hPd := yI.nil.k)
 rintro v27 w26 Y27 w27 G26 y27 ⟨ad27,len27,P27,ae27,le27,ce27,rfl,hN27,hD27⟩
 refine gs1 (fun b28 => ?_) yI.nil.k
 refine gX 8 0 #[.bool (decide (z.num < 0)),.slice ad27 len27 P27,.slice ae27 le27 ce27] fun w29 Y29 y29 => ?_
 refine xL (fun w30 Y30 G30 y30 => ?_)
 refine zz 5 ?_
 refine zo 0 G30 ?_
 refine zz 3 ?_
 refine zt 31 (p := (len27 : Int) > 128) (fun F31 => ?_) (fun F31 => ?_)
 refine zz 11 ?_
 refine zx 2 #[.bool false,.slice none 0 0,.slice none 0 0] G30 fun w32 G32 y32 => ?_
 refine zz 5 ?_
 refine zrS [.cell 6 28,.tmp 7] (v := .tuple #[.agg #[.bool false,.slice none 0 0,.slice none 0 0],.int .i64 4]) (Res.cM G32 2 (Res.tZ Res.nil)) ?_
 obtain ⟨he1,he2⟩ := zCg (z := z) F19 (fun hh => absurd ((hN27.len_le 128).2 hh.1) (by omega))
 exact ⟨G32.upd,_,rfl,_,by rw [he1],by rw [he2]; exact wM⟩
 refine zz 1 ?_
 refine zo 0 G30 ?_
 refine zz 5 ?_
 refine zt 36 (p := (le27 : Int) > 128) (fun F33 => ?_) (fun F33 => ?_)
 refine zz 4 ?_
 refine zx 2 #[.bool false,.slice none 0 0,.slice none 0 0] G30 fun w34 G34 y34 => ?_
 refine zz 5 ?_
 refine zrS [.cell 6 28,.tmp 7] (v := .tuple #[.agg #[.bool false,.slice none 0 0,.slice none 0 0],.int .i64 4]) (Res.cM G34 2 (Res.tZ Res.nil)) ?_
 obtain ⟨he1,he2⟩ := zCg (z := z) F19 (fun hh => absurd ((hD27.len_le 128).2 hh.2) (by omega))
 exact ⟨G34.upd,_,rfl,_,by rw [he1],by rw [he2]; exact wM⟩
 refine zz 5 ?_
 refine zo 0 G30 ?_
 refine zx 2 #[.bool (decide (z.num < 0)),.slice ad27 len27 P27,.slice ae27 le27 ce27] G30 fun w35 G35 y35 => ?_
 refine zz 4 ?_
 refine zrS [.cell 6 28,.tmp 7] (v := .tuple #[.agg #[.bool (decide (z.num < 0)),.slice ad27 len27 P27,.slice ae27 le27 ce27],.int .i64 0]) (Res.cM G35 2 (Res.tZ Res.nil)) ?_
 obtain ⟨he1,he2⟩ := zSo (z := z) F19 ⟨(hN27.len_le 128).1 (by omega),(hD27.len_le 128).1 (by omega)⟩
 exact ⟨G35.upd,_,rfl,_,by rw [he1],by rw [he2]; exact bV.raw ⟨_,_,_,_,_,_,rfl,((hN27.mono (Le.own G26.lt G26.upd.size (Le3 y29 y30 y35))).mono Le.orr),((hD27.mono (Le.own G26.lt G26.upd.size (Le3 y29 y30 y35))).mono Le.orr)⟩⟩
include hX in
theorem qPz (a : Raw) (ad₁ : Option Addr) (len₁ cap₁ : Nat) (h₁ : zM (rd w X) ad₁ len₁ cap₁ a.ln) (ae₁ : Option Addr) (le₁ ce₁ : Nat) (k₁ : zM (rd w X) ae₁ le₁ ce₁ a.ld) (b : Raw) (ad₂ : Option Addr) (len₂ cap₂ : Nat) (h₂ : zM (rd w X) ad₂ len₂ cap₂ b.ln) (ae₂ : Option Addr) (le₂ ce₂ : Nat) (k₂ : zM (rd w X) ae₂ le₂ ce₂ b.ld) (hb0 : val b.ln ≠ 0) : Calls Tryz.prog 26 #[.agg #[.bool a.neg,.slice ad₁ len₁ cap₁,.slice ae₁ le₁ ce₁],.agg #[.bool b.neg,.slice ad₂ len₂ cap₂,.slice ae₂ le₂ ce₂]] w (Ret E0 w fun w' v => ∃ u,v = .tuple #[u,.int .i64 (opE a b (a.rat / b.rat))] ∧ vP (old w) w' u (opR a b (a.rat / b.rat))) := by
 refine zen Tryz.func26 ?_
 have G0 : St E0 w X w X [] := St.start hX
 refine zz 2 ?_
 refine zn pn (.cells #[.bool a.neg,.slice ad₁ len₁ cap₁,.slice ae₁ le₁ ce₁] 28 (0,0)) G0 fun b3 w3 Y3 G3 y3 O3 => ?_
 refine zn pn (.cells #[.bool b.neg,.slice ad₂ len₂ cap₂,.slice ae₂ le₂ ce₂] 28 (0,0)) G3 fun b5 w5 Y5 G5 y5 O5 => ?_
 refine zn pn (.cells #[.bool false,.slice none 0 0,.slice none 0 0] 28 (0,0)) G5 fun b7 w7 Y7 G7 y7 O7 => ?_
 refine zz 5 ?_
 refine zdr G7 ?_
 refine gw 0 2 ?_
 refine gw 2 1 ?_
 have J1_ := (Le2 y3 y5).trans y7
 refine gC 1 (fun w8 Y8 _ G8 y8 => (xI _ _ G8.lt a _ _ _ (h₁.mono (J1_.trans y8)) _ _ _ (k₁.mono (J1_.trans y8)))) ?_
 rintro v9 w8 Y9 w9 G8 y9 rfl
 have J2_ := J1_.trans y9
 refine gC 3 (fun w10 Y10 _ G10 y10 => (xI _ _ G10.lt b _ _ _ (h₂.mono (J2_.trans y10)) _ _ _ (k₂.mono (J2_.trans y10)))) ?_
 rintro v11 w10 Y11 w11 G10 y11 rfl
 refine gp1 (al 4 11 (fun b => .slice (some ⟨b,0,none⟩) 2 2) (.cells #[.int .i64 a.chk,.int .i64 b.chk] 37 (0,0))) (fun b12 => ?_)
 refine gC 5 (vs := #[.slice (some ⟨b12,0,none⟩) 2 2]) (fun w13 Y13 _ G13 y13 => (qBh _ X0 (qB _) _ _ _ _ [a.chk,b.chk] rfl (by simp) (G13.at0 0 rfl rfl))) ?_
 rintro v14 w13 Y14 w14 G13 y14 rfl
 refine gz [6] ?_
 refine xL (fun w15 Y15 G15 y15 => ?_)
 refine zz 7 ?_
 refine zb 14 (b := ((orL [a.chk,b.chk]) != 0)) (fun J16 => ?_) (fun J16 => ?_)
 have F17 : (orL [a.chk,b.chk]) ≠ 0 := by simpa using J16
 refine zz 5 ?_
 refine zx 1 #[.bool false,.slice none 0 0,.slice none 0 0] G15 fun w18 G18 y18 => ?_
 refine zz 5 ?_
 refine zrS [.cell 4 28,.tmp 5] (v := .tuple #[.agg #[.bool false,.slice none 0 0,.slice none 0 0],.int .i64 (orL [a.chk,b.chk])]) (Res.cM G18 1 (Res.tZ Res.nil)) ?_
 obtain ⟨he1,he2⟩ := zQa (z := a.rat / b.rat) F17
 exact ⟨G18.upd,_,rfl,_,by rw [he1],by rw [he2]; exact wM⟩
 have F19 : (orL [a.chk,b.chk]) = 0 := by simpa using J16
 refine zz 7 ?_
 refine zo 2 G15 ?_
 refine zz 4 ?_
 refine zb 20 (b := ((len₂ : Int) == 0)) (fun J20 => ?_) (fun J20 => ?_)
 have F21 : (len₂ : Int) = 0 := by simpa using J20
 exact absurd (by have := h₂.hlen; have hl : b.ln = [] := List.length_eq_zero_iff.1 (by omega); rw [hl]; rfl) hb0
 have F22 : (len₂ : Int) ≠ 0 := by simpa using J20
 refine zz 5 ?_
 refine zo 3 G15 ?_
 refine zo 2 G15 ?_
 have J3_ := ((J2_.trans y11).trans y14).trans y15
 refine zc G15 (zQb 69 (· / ·) (fun args w => Tryz.call69 args w) qKq _ _ G15.lt a _ _ _ (h₁.mono J3_) _ _ _ (k₁.mono J3_) b _ _ _ (h₂.mono J3_) _ _ _ (k₂.mono J3_) hb0 (a.rat / b.rat) rfl) ?_
 rintro v24 w24 G24 y24 O24 ⟨u24,rfl,⟨ad24,len24,P24,ae24,le24,ce24,rfl,hN24,hD24⟩⟩
 refine zz 2 ?_
 refine zx 1 #[.bool ((opR a b (a.rat / b.rat)).neg),.slice ad24 len24 P24,.slice ae24 le24 ce24] G24 fun w25 G25 y25 => ?_
 refine zz 4 ?_
 refine zrS [.cell 4 28,.tmp 5] (v := .tuple #[.agg #[.bool ((opR a b (a.rat / b.rat)).neg),.slice ad24 len24 P24,.slice ae24 le24 ce24],.int .i64 (opE a b (a.rat / b.rat))]) (Res.cM G25 1 (Res.tZ Res.nil)) ?_
 exact ⟨G25.upd,_,rfl,_,rfl,⟨_,_,_,_,_,_,rfl,((hN24.mono (Le.own G15.lt G15.upd.size y25)).mono Le.orr),((hD24.mono (Le.own G15.lt G15.upd.size y25)).mono Le.orr)⟩⟩
end
section
variable (w : World) (X : Hid) (hX : ∀ k o,X k o → k < w.heap.size)
set_option maxHeartbeats 1000000
include hX in
theorem zCv (ad : Option Addr) (len cap : Nat) (l : List Nat) (h : zM (rd w X) ad len cap l) :
    Calls Tryz.prog 189 #[.slice ad len cap] w (Ret E0 w fun _ v => v = .slice ad (qP l) cap) := by
 obtain rfl := h.hlen
 have hl := h.hlen
 have hcap := h.hcap
 have hbig := h.hbig
 refine zen Tryz.func189 ?_
 have G0 : St E0 w X w X [] := St.start hX
 refine zz 7 ?_
 refine zlp Tryz.f189 [] [1,0,0] (fun (k : Nat) => [(0,.slice ad k cap)]) (fun k w1 => ∃ (Y1 : Hid),St E0 w X w1 Y1 [] ∧ Le (rd w X) (rd w1 Y1) ∧ (k ≤ l.length) ∧ (yC l k = yC l l.length)) (fun k => k) l.length ?_ ?_
 ·
  refine ⟨_,G0,Le.refl _,Nat.le_refl _,rfl⟩
 rintro k w2 K2 Z2 ⟨Y2,G2,y2,hp2_0,hp2_1⟩
 have hk := hp2_0
 have ht := hp2_1
 refine zz 7 ?_
 refine zt 6 (p := (k : Int) > 0) (fun F3 => ?_) (fun F3 => ?_)
 ·
  obtain ⟨bk4,of5,rfl,_⟩ := h.addr (by omega)
  have hcell := (h.cell (i := k - 1) (by omega))
  refine zz 4 ?_
  refine zw 10 (x := (k : Int) - 1) ?_
  refine zi (b := bk4) (off := of5) (len := k) (cap := cap) (kd := .i64) (i := (k : Int) - 1) 1 (of5 + (k - 1)) ?_ (hoff := (by first | omega | (simp; done) | (simp; omega)))
  refine zl ((hcell.mono y2)).cells ?_
  refine zz 4 ?_
  refine zb 14 (b := (((l.getD (k - 1) 0 : Nat) : Int) == 0)) (fun J6 => ?_) (fun J6 => ?_)
  ·
   have F7 : ((l.getD (k - 1) 0 : Nat) : Int) = 0 := by simpa using J6
   have hk2 := zAy (l := l) (k := k) (by omega) (by omega)
   refine zz 9 ?_
   refine zw 18 (x := (k : Int) - 1) ?_
   refine zop (at1 [K2] Tryz.f189 [1,0,0,0,1,0]) 4 (fun a8 _ V8 hz8 => zF (d := 19) (v := .slice (some ⟨bk4,of5,none⟩) (k - 1) cap) V8 kr (bD (t := 26) (e := 195) (ad := (some ⟨bk4,of5,none⟩)) (len := k) (cap := cap) (kd := .i64) (i := (k : Int) - 1) (h' := (k - 1)) (g := false) (m := 1) rfl kr kr kr kr (by omega) (by omega) (by first | omega | (simp; done) | (simp; omega)) _) ?_)
   intro a9 V9
   refine hz8 V9 ?_
   refine zz 3 ?_
   refine yE (fun a h => Z2 (k - 1) _ a h ⟨_,G2,y2,by omega,by omega⟩ ?_)
   first | omega | (simp <;> omega)
  have F10 : ((l.getD (k - 1) 0 : Nat) : Int) ≠ 0 := by simpa using J6
  have hk2 := zAx (l := l) (k := k) (by omega) (by omega)
  refine zz 13 ?_
  refine zr' (v := .slice (some ⟨bk4,of5,none⟩) k cap) ?_
  exact ⟨G2.upd,_,rfl,by unfold qP; first | rw [← ht,hk2] | rw [← ht]; rfl⟩
 obtain rfl : k = 0 := by omega
 refine zz 23 ?_
 refine zr' (v := .slice ad 0 cap) ?_
 exact ⟨G2.upd,_,rfl,by unfold qP; first | rw [← ht,hk2] | rw [← ht]; rfl⟩
include hX in
theorem zLv (ad : Option Addr) (len cap : Nat) (l : List Nat) (h : zM (rd w X) ad len cap l) : Calls Tryz.prog 100 #[.slice ad len cap] w (Ret E0 w fun _ v => v = .int .i64 (jA l)) := by
 obtain rfl := h.hlen
 have hcap := h.hcap
 have hbig := h.hbig
 refine zen Tryz.func100 ?_
 have G0 : St E0 w X w X [] := St.start hX
 refine zz 13 ?_
 refine zt 5 (p := (l.length : Int) > 512) (fun F2 => ?_) (fun F2 => ?_)
 refine zz 8 ?_
 refine zr' (v := .int .i64 4) ?_
 exact ⟨G0.upd,_,rfl,zO (by unfold jA; (repeat' split) <;> first | rfl | omega)⟩
 refine zz 10 ?_
 refine zt 9 (p := (l.length : Int) > 0) (fun F3 => ?_) (fun F3 => ?_)
 obtain ⟨bk4,of5,rfl,_⟩ := h.addr (by omega)
 refine zz 4 ?_
 refine zw 13 (x := (l.length : Int) - 1) ?_
 refine zi (b := bk4) (off := of5) (len := l.length) (cap := cap) (kd := .i64) (i := (l.length : Int) - 1) 1 (of5 + (l.length - 1)) ?_ (hoff := (by first | omega | (simp; done) | (simp; omega)))
 refine zl ((h.cell (i := (l.length - 1)) (by omega)).mono (Le.refl _)).cells ?_
 refine zz 4 ?_
 refine zb 17 (b := (((l.getD (l.length - 1) 0 : Nat) : Int) == 0)) (fun J6 => ?_) (fun J6 => ?_)
 have F7 : ((l.getD (l.length - 1) 0 : Nat) : Int) = 0 := by simpa using J6
 refine zz 8 ?_
 refine zr' (v := .int .i64 2) ?_
 exact ⟨G0.upd,_,rfl,zO (by unfold jA; (repeat' split) <;> first | rfl | omega)⟩
 have F8 : ((l.getD (l.length - 1) 0 : Nat) : Int) ≠ 0 := by simpa using J6
 refine zz 9 ?_
 refine zr' (v := .int .i64 0) ?_
 exact ⟨G0.upd,_,rfl,zO (by unfold jA; (repeat' split) <;> first | rfl | omega)⟩
 refine zz 19 ?_
 refine zr' (v := .int .i64 0) ?_
 exact ⟨G0.upd,_,rfl,zO (by unfold jA; (repeat' split) <;> first | rfl | omega)⟩
include hX in
theorem tQ (ad : Option Addr) (len cap : Nat) (l : List Nat) (h : zM (rd w X) ad len cap l) (i : Nat) : Calls Tryz.prog 190 #[.slice ad len cap,.int .i64 (i : Int)] w (Ret E0 w fun _ v => v = .int .u64 ((l.getD i 0 : Nat) : Int)) := by
 obtain rfl := h.hlen
 have hcap := h.hcap
 have hbig := h.hbig
 have hlt := h.getD_lt i
 refine zen Tryz.func190 ?_
 have G0 : St E0 w X w X [] := St.start hX
 refine zz 14 ?_
 refine zt 8 (p := (i : Int) < (l.length : Int)) (fun F2 => ?_) (fun F2 => ?_)
 obtain ⟨bk3,of4,rfl,_⟩ := h.addr (by omega)
 refine zz 5 ?_
 refine zi (b := bk3) (off := of4) (len := l.length) (cap := cap) (kd := .i64) (i := (i : Int)) 1 (of4 + i) ?_
 refine zl ((h.cell (i := i) (by omega)).mono (Le.refl _)).cells ?_
 refine zz 1 ?_
 refine zs 13 (v := .int .u64 (IntKind.u64.wrap (((l.getD i 0 : Nat) : Int)))) (v' := .int .u64 ((l.getD i 0 : Nat) : Int)) (zO (vO (by omega) (by omega))) ?_
 refine zz 5 ?_
 refine zr' (v := .int .u64 ((l.getD i 0 : Nat) : Int)) ?_
 exact ⟨G0.upd,_,rfl,zO (by first | rfl | (rw [List.getD_eq_getElem?_getD,List.getElem?_eq_none (by omega)]; rfl))⟩
 refine zz 9 ?_
 refine zr' (v := .int .u64 0) ?_
 exact ⟨G0.upd,_,rfl,zO (by first | rfl | (rw [List.getD_eq_getElem?_getD,List.getElem?_eq_none (by omega)]; rfl))⟩
end
set_option maxHeartbeats 1000000
theorem zFl {len : Nat} (l : List Nat) (h : len = l.length) : qP l ≤ len := by rw [h]; exact wF l _
theorem mx1 {l l2 : List Nat} {k c : Nat} (hc : ¬ 0 < c) (h1 : ¬ k < l.length) (h2 : ¬ k < l2.length) {v : Nat} (h : v + c * 4294967296 ^ k = val (l.take k) + val (l2.take k)) : v = val l + val l2 := by
 rw [List.take_of_length_le (by omega),List.take_of_length_le (by omega),show c = 0 by omega] at h; omega
theorem zTe {ls : List Nat} {x : Nat} (h : ∀ y ∈ ls,y < 4294967296) (hx : x < 4294967296) : ∀ y ∈ ls ++ [x],y < 4294967296 := fun y hy => by
 rcases List.mem_append.1 hy with h1 | h1
 ·exact h y h1
 ·obtain rfl := List.mem_singleton.1 h1; exact hx
theorem dM {l : List Nat} {k : Nat} (h : l.length ≤ k) : l.getD k 0 = 0 := by rw [List.getD_eq_getElem?_getD,List.getElem?_eq_none h]; rfl
theorem zQr (w : World) (X : Hid) (hX : ∀ k o,X k o → k < w.heap.size) (ad : Option Addr) (len cap : Nat) (l : List Nat) (h : zM (rd w X) ad len cap l) (ad2 : Option Addr) (len2 P2 : Nat) (l2 : List Nat) (h2 : zM (rd w X) ad2 len2 P2 l2) (hm : len ≤ 1000000) (hm2 : len2 ≤ 1000000) : Calls Tryz.prog 154 #[.slice ad len cap,.slice ad2 len2 P2] w (Ret E0 w fun w' v => pX X w' v (val l + val l2)) := by
 obtain rfl := h.hlen
 obtain rfl := h2.hlen
 have hcap := h.hcap
 have hbig := h.hbig
 have hcap2 := h2.hcap
 have hbig2 := h2.hbig
 refine zen Tryz.func154 ?_
 have G0 : St E0 w X w X [] := St.start hX
 refine zz 22 ?_
 refine zlp Tryz.f154 [] [1,1,1,0,1,0] (fun ((k,ad8,P8,c) : Nat × (Option Addr) × Nat × Nat) => [(0,.slice ad l.length cap),(1,.slice ad2 l2.length P2),(5,.slice ad8 k P8),(6,.int .u64 (c : Int)),(7,.int .i64 (k : Int))]) (fun (k,ad8,P8,c) w1 => ∃ (Y1 : Hid) (rb : List (Nat × Obj)) (ls : List Nat),St E0 w X w1 Y1 (rb) ∧ Le (rd w X) (rd w1 Y1) ∧ (wI 195 1 rb ad8 k P8 (U32 ls)) ∧ (ls.length = k) ∧ (∀ x ∈ ls,x < 4294967296) ∧ (val ls + c * 4294967296 ^ k = val (l.take k) + val (l2.take k)) ∧ (c ≤ 1) ∧ (k ≤ max l.length l2.length + 1) ∧ (k = max l.length l2.length + 1 → c = 0)) (fun (k,ad8,P8,c) => max l.length l2.length + 1 - k) (0,none,0,0) ?_ ?_
 refine ⟨_,[],[],G0,Le.refl _,wI.nil _ _,rfl,fun _ h => absurd h (by simp),by simp [val],by omega,Nat.zero_le _,fun _ => rfl⟩
 rintro ⟨k,ad8,P8,c⟩ w2 K2 Z2 ⟨Y2,rb,ls,G2,y2,hp2_0,hp2_1,hp2_2,hp2_3,hp2_4,hp2_5,hp2_6⟩
 have hrw := hp2_0
 have hrl := hp2_1
 have hrt := hp2_2
 have hv := hp2_3
 have hc := hp2_4
 have hk := hp2_5
 have hkc := hp2_6
 have hlt1 := h.getD_lt k
 have hlt2 := h2.getD_lt k
 refine zz 1 ?_
 refine qSh (fun (bj3_22 : Bool) => [(0,.slice ad l.length cap),(1,.slice ad2 l2.length P2),(5,.slice ad8 k P8),(6,.int .u64 (c : Int)),(7,.int .i64 (k : Int)),(22,.bool bj3_22)]) (fun bj3_22 w1 => ∃ Y1 : Hid,St E0 w X w1 Y1 (rb) ∧ Le (rd w2 Y2) (rd w1 Y1) ∧ (bj3_22 = true ↔ (k < l.length ∨ k < l2.length ∨ 0 < c))) ?_ ?_
 rintro bj3_22 w3 ⟨Y3,G3,y3,hjp3⟩
 refine zb 22 (b := bj3_22) (fun J4 => ?_) (fun J4 => ?_)
 have F5 : bj3_22 = true := by simpa using J4
 have hgo := hjp3.1 F5
 refine zz 9 ?_
 refine zc G3 (tQ _ X0 (qB _) _ _ _ l ((h.mono (Le2 y2 y3)).mono Le.x0) k) ?_
 rintro v7 w7 G7 y7 O7 rfl
 refine zz 2 ?_
 refine zc G7 (tQ _ X0 (qB _) _ _ _ l2 ((h2.mono (Le3 y2 y3 y7)).mono Le.x0) k) ?_
 rintro v9 w9 G9 y9 O9 rfl
 refine zz 1 ?_
 refine zs 31 (v := .int .u64 (IntKind.u64.wrap (((l.getD k 0 : Nat) : Int) + ((l2.getD k 0 : Nat) : Int)))) (v' := .int .u64 (((l.getD k 0 : Nat) : Int) + ((l2.getD k 0 : Nat) : Int))) (zO (vO (by omega) (by omega))) ?_
 refine zz 2 ?_
 refine zs 33 (v := .int .u64 (IntKind.u64.wrap ((((l.getD k 0 : Nat) : Int) + ((l2.getD k 0 : Nat) : Int)) + (c : Int)))) (v' := .int .u64 (((l.getD k 0 + l2.getD k 0 + c) : Nat) : Int)) (zO ((vO (by omega) (by omega)).trans (by omega))) ?_
 refine zz 8 ?_
 refine zs 36 (v := .int .u64 (Int.tmod ((((l.getD k 0 + l2.getD k 0 + c) : Nat) : Int)) (4294967296))) (v' := .int .u64 (((l.getD k 0 + l2.getD k 0 + c) % 4294967296 : Nat) : Int)) (zO (by rfl)) ?_
 refine zz 1 ?_
 refine zs 37 (v := .int .u32 (IntKind.u32.wrap ((((l.getD k 0 + l2.getD k 0 + c) % 4294967296 : Nat) : Int)))) (v' := .int .u32 (((l.getD k 0 + l2.getD k 0 + c) % 4294967296 : Nat) : Int)) (zO (qCz (by omega) (by omega))) ?_
 refine zn (fun b => .slice (some ⟨b,0,none⟩) 1 1) (.cells #[.int .u32 (((l.getD k 0 + l2.getD k 0 + c) % 4294967296 : Nat) : Int)] 195 (0,0)) G9 fun b11 w11 Y11 G11 y11 O11 => ?_
 refine zop (at1 [K2] Tryz.f154 [1,1,1,0,1,0,0,1,0,0,1,0]) 5 (fun a12 _ V12 hz12 => zEo (b := 4) (m := 1) (c := 1) (ad := ⟨b11,0,none⟩) (news := [.int .u32 (((l.getD k 0 + l2.getD k 0 + c) % 4294967296 : Nat) : Int)]) (i0 := Tryz.t195) (R1 := []) 1 V12 G11 rfl hrw (G11.cells 0 rfl rfl) (by omega) (by omega) ?_)
 intro rb13 ad13 P13 w13 Y13 D13 G13 y13 a14 V14
 have hrw13 : wI 195 1 rb13 ad13 (k + 1) P13 (U32 (ls ++ [(l.getD k 0 + l2.getD k 0 + c) % 4294967296])) := by rw [← zCk]; exact D13
 refine hz12 V14 ?_
 refine zz 6 ?_
 refine zs 41 (v := .int .u64 (IntKind.u64.wrap (Int.tdiv ((((l.getD k 0 + l2.getD k 0 + c) : Nat) : Int)) (4294967296)))) (v' := .int .u64 (((l.getD k 0 + l2.getD k 0 + c) / 4294967296 : Nat) : Int)) (zO (zKs _ (by omega))) ?_
 refine zz 7 ?_
 refine zw 24 (x := (k : Int) + 1) ?_
 refine zz 2 ?_
 have J1_ := (Le5 y2 y3 y7 y9 y11).trans y13
 refine yE (fun a h => Z2 ((k + 1,ad13,P13,(l.getD k 0 + l2.getD k 0 + c) / 4294967296)) _ a h ⟨_,rb13,(ls ++ [(l.getD k 0 + l2.getD k 0 + c) % 4294967296]),G13.tail,J1_,hrw13,by rw [List.length_append,hrl]; rfl,zTe hrt (by omega),qHm _ _ _ _ _ hrl hv,by omega,by omega,fun hk9 => by have e1 : l.getD k 0 = 0 := dM (by omega); have e2 : l2.getD k 0 = 0 := dM (by omega); omega⟩ ?_)
 first | omega | (simp <;> omega)
 have F15 : bj3_22 = false := by simpa using J4
 have hno : ¬ (k < l.length ∨ k < l2.length ∨ 0 < c) := fun e => by rw [hjp3.2 e] at F15; cases F15
 have hend := mx1 (fun e => hno (.inr (.inr e))) (fun e => hno (.inl e)) (fun e => hno (.inr (.inl e))) hv
 refine zz 9 ?_
 obtain ⟨Y17,hSx17,y17,hL17⟩ := St.pubLimbs (A := []) (B := []) (fun rb => (rb)) G3 (fun _ => by simp only [List.append_assoc,List.cons_append,List.nil_append,List.append_nil]) hrw hrl.symm hrt
 have G17 : St E0 w X w3 Y17 [] := hSx17
 refine zc G17 (zCv _ _ G17.lt _ _ _ ls hL17) ?_
 rintro v18 w18 G18 y18 O18 rfl
 refine zz 4 ?_
 refine zr' (v := .slice ad8 (qP ls) P8) ?_
 exact ⟨G18.upd,_,rfl,_,_,_,rfl,_,((hL17.sub (zFl _ hL17.hlen)).mono (Le.trans y18 G18.le)),qU _,by rw [show List.take (qP ls) ls = Go.Gv.trimmed ls from rfl,jE]; exact hend⟩
 intro K19 Z19
 refine zz 6 ?_
 refine zt 13 (p := (k : Int) < (l.length : Int)) (fun F20 => ?_) (fun F20 => ?_)
 refine zz 10 ?_
 exact yE (fun a h => Z19 true _ a h ⟨_,G2,(Le.refl _),by first | exact ⟨fun _ => by omega,fun _ => rfl⟩ | exact ⟨fun e => by have := of_decide_eq_true e; omega,fun e => decide_eq_true (by omega)⟩⟩)
 refine zz 6 ?_
 refine zt 19 (p := (k : Int) < (l2.length : Int)) (fun F21 => ?_) (fun F21 => ?_)
 refine zz 4 ?_
 exact yE (fun a h => Z19 true _ a h ⟨_,G2,(Le.refl _),by first | exact ⟨fun _ => by omega,fun _ => rfl⟩ | exact ⟨fun e => by have := of_decide_eq_true e; omega,fun e => decide_eq_true (by omega)⟩⟩)
 refine zz 4 ?_
 exact yE (fun a h => Z19 (decide ((c : Int) > 0)) _ a h ⟨_,G2,(Le.refl _),by first | exact ⟨fun _ => by omega,fun _ => rfl⟩ | exact ⟨fun e => by have := of_decide_eq_true e; omega,fun e => decide_eq_true (by omega)⟩⟩)
set_option maxHeartbeats 1000000
theorem zBy (w : World) (X : Hid) (hX : ∀ k o,X k o → k < w.heap.size) (ad : Option Addr) (len cap : Nat) (l : List Nat) (h : zM (rd w X) ad len cap l) (ad2 : Option Addr) (len2 P2 : Nat) (l2 : List Nat) (h2 : zM (rd w X) ad2 len2 P2 l2) (hm : len ≤ 1000000) (hll : l2.length ≤ l.length) (hle : val l2 ≤ val l) : Calls Tryz.prog 156 #[.slice ad len cap,.slice ad2 len2 P2] w (Ret E0 w fun w' v => pX X w' v (val l - val l2)) := by
 obtain rfl := h.hlen
 obtain rfl := h2.hlen
 have hcap := h.hcap
 have hbig := h.hbig
 have hcap2 := h2.hcap
 have hbig2 := h2.hbig
 refine zen Tryz.func156 ?_
 have G0 : St E0 w X w X [] := St.start hX
 refine zz 22 ?_
 refine zlp Tryz.f156 [] [1,1,1,0,1,0] (fun ((k,ad8,P8,c) : Nat × (Option Addr) × Nat × Nat) => [(0,.slice ad l.length cap),(1,.slice ad2 l2.length P2),(5,.slice ad8 k P8),(6,.int .u64 (c : Int)),(7,.int .i64 (k : Int))]) (fun (k,ad8,P8,c) w1 => ∃ (Y1 : Hid) (rb : List (Nat × Obj)) (ls : List Nat),St E0 w X w1 Y1 (rb) ∧ Le (rd w X) (rd w1 Y1) ∧ (wI 195 1 rb ad8 k P8 (U32 ls)) ∧ (ls.length = k) ∧ (∀ x ∈ ls,x < 4294967296) ∧ (val ls + val (l2.take k) = val (l.take k) + c * 4294967296 ^ k) ∧ (c ≤ 1) ∧ (k ≤ l.length)) (fun (k,ad8,P8,c) => l.length - k) (0,none,0,0) ?_ ?_
 refine ⟨_,[],[],G0,Le.refl _,wI.nil _ _,rfl,fun _ h => absurd h (by simp),by simp [val],by omega,Nat.zero_le _⟩
 rintro ⟨k,ad8,P8,c⟩ w2 K2 Z2 ⟨Y2,rb,ls,G2,y2,hp2_0,hp2_1,hp2_2,hp2_3,hp2_4,hp2_5⟩
 have hrw := hp2_0
 have hrl := hp2_1
 have hrt := hp2_2
 have hv := hp2_3
 have hc := hp2_4
 have hk := hp2_5
 have hlt1 := h.getD_lt k
 have hlt2 := h2.getD_lt k
 refine zz 9 ?_
 refine zt 12 (p := (k : Int) < (l.length : Int)) (fun F3 => ?_) (fun F3 => ?_)
 refine zz 9 ?_
 refine zc G2 (tQ _ X0 (qB _) _ _ _ l ((h.mono y2).mono Le.x0) k) ?_
 rintro v5 w5 G5 y5 O5 rfl
 refine zz 1 ?_
 refine zs 18 (v := .int .u64 (IntKind.u64.wrap ((4294967296 : Int) + ((l.getD k 0 : Nat) : Int)))) (v' := .int .u64 ((4294967296 : Int) + ((l.getD k 0 : Nat) : Int))) (zO (vO (by omega) (by omega))) ?_
 refine zz 2 ?_
 refine zc G5 (tQ _ X0 (qB _) _ _ _ l2 ((h2.mono (Le2 y2 y5)).mono Le.x0) k) ?_
 rintro v7 w7 G7 y7 O7 rfl
 refine zz 1 ?_
 refine zs 22 (v := .int .u64 (IntKind.u64.wrap (((4294967296 : Int) + ((l.getD k 0 : Nat) : Int)) - ((l2.getD k 0 : Nat) : Int)))) (v' := .int .u64 (((4294967296 : Int) + ((l.getD k 0 : Nat) : Int)) - ((l2.getD k 0 : Nat) : Int))) (zO (vO (by omega) (by omega))) ?_
 refine zz 2 ?_
 refine zs 24 (v := .int .u64 (IntKind.u64.wrap ((((4294967296 : Int) + ((l.getD k 0 : Nat) : Int)) - ((l2.getD k 0 : Nat) : Int)) - (c : Int)))) (v' := .int .u64 (((4294967296 + l.getD k 0 - l2.getD k 0 - c) : Nat) : Int)) (zO ((vO (by omega) (by omega)).trans (by omega))) ?_
 refine zz 8 ?_
 refine zs 27 (v := .int .u64 (Int.tmod ((((4294967296 + l.getD k 0 - l2.getD k 0 - c) : Nat) : Int)) (4294967296))) (v' := .int .u64 (((4294967296 + l.getD k 0 - l2.getD k 0 - c) % 4294967296 : Nat) : Int)) (zO (by rfl)) ?_
 refine zz 1 ?_
 refine zs 28 (v := .int .u32 (IntKind.u32.wrap ((((4294967296 + l.getD k 0 - l2.getD k 0 - c) % 4294967296 : Nat) : Int)))) (v' := .int .u32 (((4294967296 + l.getD k 0 - l2.getD k 0 - c) % 4294967296 : Nat) : Int)) (zO (qCz (by omega) (by omega))) ?_
 refine zn (fun b => .slice (some ⟨b,0,none⟩) 1 1) (.cells #[.int .u32 (((4294967296 + l.getD k 0 - l2.getD k 0 - c) % 4294967296 : Nat) : Int)] 195 (0,0)) G7 fun b9 w9 Y9 G9 y9 O9 => ?_
 refine zop (at1 [K2] Tryz.f156 [1,1,1,0,1,0,0,1,0,0,1,0]) 5 (fun a10 _ V10 hz10 => zEo (b := 4) (m := 1) (c := 1) (ad := ⟨b9,0,none⟩) (news := [.int .u32 (((4294967296 + l.getD k 0 - l2.getD k 0 - c) % 4294967296 : Nat) : Int)]) (i0 := Tryz.t195) (R1 := []) 1 V10 G9 rfl hrw (G9.cells 0 rfl rfl) (by omega) (by omega) ?_)
 intro rb11 ad11 P11 w11 Y11 D11 G11 y11 a12 V12
 have hrw11 : wI 195 1 rb11 ad11 (k + 1) P11 (U32 (ls ++ [(4294967296 + l.getD k 0 - l2.getD k 0 - c) % 4294967296])) := by rw [← zCk]; exact D11
 refine hz10 V12 ?_
 refine zz 6 ?_
 refine zs 32 (v := .int .u64 (IntKind.u64.wrap (Int.tdiv ((((4294967296 + l.getD k 0 - l2.getD k 0 - c) : Nat) : Int)) (4294967296)))) (v' := .int .u64 (((4294967296 + l.getD k 0 - l2.getD k 0 - c) / 4294967296 : Nat) : Int)) (zO (zKs _ (by omega))) ?_
 refine zz 1 ?_
 refine zs 33 (v := .int .u64 (IntKind.u64.wrap ((1 : Int) - (((4294967296 + l.getD k 0 - l2.getD k 0 - c) / 4294967296 : Nat) : Int)))) (v' := .int .u64 ((1 - (4294967296 + l.getD k 0 - l2.getD k 0 - c) / 4294967296 : Nat) : Int)) (zO ((vO (by omega) (by omega)).trans (by omega))) ?_
 refine zz 7 ?_
 refine zw 14 (x := (k : Int) + 1) ?_
 refine zz 2 ?_
 have J1_ := (Le4 y2 y5 y7 y9).trans y11
 refine yE (fun a h => Z2 ((k + 1,ad11,P11,(1 - (4294967296 + l.getD k 0 - l2.getD k 0 - c) / 4294967296))) _ a h ⟨_,rb11,(ls ++ [(4294967296 + l.getD k 0 - l2.getD k 0 - c) % 4294967296]),G11.tail,J1_,hrw11,by rw [List.length_append,hrl]; rfl,zTe hrt (by omega),zYe _ _ _ _ _ hrl hlt1 hlt2 hc hv,by omega,by omega⟩ ?_)
 first | omega | (simp <;> omega)
 have hend := zYd hrl (by omega) hrt hll hle hc hv
 refine zz 9 ?_
 obtain ⟨Y14,hSx14,y14,hL14⟩ := St.pubLimbs (A := []) (B := []) (fun rb => (rb)) G2 (fun _ => by simp only [List.append_assoc,List.cons_append,List.nil_append,List.append_nil]) hrw hrl.symm hrt
 have G14 : St E0 w X w2 Y14 [] := hSx14
 refine zc G14 (zCv _ _ G14.lt _ _ _ ls hL14) ?_
 rintro v15 w15 G15 y15 O15 rfl
 refine zz 4 ?_
 refine zr' (v := .slice ad8 (qP ls) P8) ?_
 exact ⟨G15.upd,_,rfl,_,_,_,rfl,_,((hL14.sub (zFl _ hL14.hlen)).mono (Le.trans y15 G15.le)),qU _,by rw [show List.take (qP ls) ls = Go.Gv.trimmed ls from rfl,jE]; exact hend⟩
theorem zEs (w : World) (X : Hid) (hX : ∀ k o,X k o → k < w.heap.size) (ad : Option Addr) (len cap : Nat) (l : List Nat) (h : zM (rd w X) ad len cap l) (ad2 : Option Addr) (len2 P2 : Nat) (l2 : List Nat) (h2 : zM (rd w X) ad2 len2 P2 l2) (hm : len ≤ 1000000) (hm2 : len2 ≤ 1000000) : Calls Tryz.prog 155 #[.slice ad len cap,.slice ad2 len2 P2] w (Ret E0 w fun _ v => v = .int .i64 (qI (val l) (val l2))) := by
 obtain rfl := h.hlen
 obtain rfl := h2.hlen
 have hcap := h.hcap
 have hbig := h.hbig
 have hcap2 := h2.hcap
 have hbig2 := h2.hbig
 refine zen Tryz.func155 ?_
 have G0 : St E0 w X w X [] := St.start hX
 refine zz 13 ?_
 refine zs 10 (v := .int .i64 (if (l2.length : Int) > (l.length : Int) then (l2.length : Int) else (l.length : Int))) (v' := .int .i64 ((max l.length l2.length : Nat) : Int)) (zO (by split <;> omega)) ?_
 refine zz 1 ?_
 refine zw 11 (x := ((max l.length l2.length : Nat) : Int) - 1) ?_
 refine zz 4 ?_
 refine zlp Tryz.f155 [] [1,0,1,0] (fun (k : Nat) => [(0,.slice ad l.length cap),(1,.slice ad2 l2.length P2),(5,.int .i64 ((k : Int) - 1))]) (fun k w1 => ∃ (Y1 : Hid),St E0 w X w1 Y1 [] ∧ Le (rd w X) (rd w1 Y1) ∧ (k ≤ max l.length l2.length) ∧ (∀ j,k ≤ j → l.getD j 0 = l2.getD j 0)) (fun k => k) (max l.length l2.length) ?_ ?_
 refine ⟨_,G0,Le.refl _,Nat.le_refl _,fun j hj => (dM (by omega)).trans (dM (by omega)).symm⟩
 rintro k w2 K2 Z2 ⟨Y2,G2,y2,hp2_0,hp2_1⟩
 have hk := hp2_0
 have he := hp2_1
 have hlt1 := h.getD_lt (k - 1)
 have hlt2 := h2.getD_lt (k - 1)
 refine zz 7 ?_
 refine zt 13 (p := ((k : Int) - 1) ≥ 0) (fun F3 => ?_) (fun F3 => ?_)
 refine zz 10 ?_
 refine zs 17 (v := .int .i64 ((k : Int) - 1)) (v' := .int .i64 ((k - 1 : Nat) : Int)) (zO (by omega)) ?_
 refine zc G2 (tQ _ X0 (qB _) _ _ _ l ((h.mono y2).mono Le.x0) (k - 1)) ?_
 rintro v5 w5 G5 y5 O5 rfl
 refine zz 2 ?_
 refine zs 20 (v := .int .i64 ((k : Int) - 1)) (v' := .int .i64 ((k - 1 : Nat) : Int)) (zO (by omega)) ?_
 refine zc G5 (tQ _ X0 (qB _) _ _ _ l2 ((h2.mono (Le2 y2 y5)).mono Le.x0) (k - 1)) ?_
 rintro v7 w7 G7 y7 O7 rfl
 refine zz 3 ?_
 refine zt 22 (p := ((l.getD (k - 1) 0 : Nat) : Int) < ((l2.getD (k - 1) 0 : Nat) : Int)) (fun F8 => ?_) (fun F8 => ?_)
 refine zz 13 ?_
 refine zr' (v := .int .i64 (-1)) ?_
 exact ⟨G7.upd,_,rfl,zO (Eq.symm (by have h9 := qBi h.hlt (k := k - 1) (fun j hj => he j (by omega)) (by omega); unfold qI; rw [if_pos (by omega)]))⟩
 refine zz 7 ?_
 refine zs 24 (v := .int .i64 ((k : Int) - 1)) (v' := .int .i64 ((k - 1 : Nat) : Int)) (zO (by omega)) ?_
 refine zc G7 (tQ _ X0 (qB _) _ _ _ l ((h.mono (Le3 y2 y5 y7)).mono Le.x0) (k - 1)) ?_
 rintro v10 w10 G10 y10 O10 rfl
 refine zz 2 ?_
 refine zs 27 (v := .int .i64 ((k : Int) - 1)) (v' := .int .i64 ((k - 1 : Nat) : Int)) (zO (by omega)) ?_
 have J1_ := (Le3 y2 y5 y7).trans y10
 refine zc G10 (tQ _ X0 (qB _) _ _ _ l2 ((h2.mono J1_).mono Le.x0) (k - 1)) ?_
 rintro v12 w12 G12 y12 O12 rfl
 refine zz 3 ?_
 refine zt 29 (p := ((l.getD (k - 1) 0 : Nat) : Int) > ((l2.getD (k - 1) 0 : Nat) : Int)) (fun F13 => ?_) (fun F13 => ?_)
 refine zz 12 ?_
 refine zr' (v := .int .i64 1) ?_
 exact ⟨G12.upd,_,rfl,zO (Eq.symm (by have h9 := qBi h2.hlt (k := k - 1) (fun j hj => (he j (by omega)).symm) (by omega); unfold qI; rw [if_neg (by omega),if_pos (by omega)]))⟩
 refine zz 7 ?_
 refine zs 15 (v := .int .i64 (i64.wrap (((k : Int) - 1) - 1))) (v' := .int .i64 (((k - 1 : Nat) : Int) - 1)) (zO ((pJ (by omega) (by omega)).trans (by omega))) ?_
 refine zz 2 ?_
 have J2_ := J1_.trans y12
 refine yE (fun a h => Z2 (k - 1) _ a h ⟨_,G12,J2_,by omega,fun j hj => by rcases Nat.lt_or_ge j k with h9 | h9; obtain rfl : j = k - 1 := (by omega); omega; exact he j h9⟩ ?_)
 first | omega | (simp <;> omega)
 have hend := bP l l2 (fun j => he j (by omega))
 refine zz 12 ?_
 refine zr' (v := .int .i64 0) ?_
 exact ⟨G2.upd,_,rfl,zO (Eq.symm (by unfold qI; rw [hend,if_neg (Int.lt_irrefl _),if_neg (Int.lt_irrefl _)]))⟩
set_option maxHeartbeats 1000000
theorem zKe (w : World) (X : Hid) (hX : ∀ k o,X k o → k < w.heap.size) (ad : Option Addr) (len cap : Nat) (l : List Nat) (h : zM (rd w X) ad len cap l) (ad2 : Option Addr) (len2 P2 : Nat) (l2 : List Nat) (h2 : zM (rd w X) ad2 len2 P2 l2) (hm : len ≤ 1000000) (hm2 : len2 ≤ 1000000) : Calls Tryz.prog 151 #[.slice ad len cap,.slice ad2 len2 P2] w (Ret E0 w fun w' v => pX X w' v (val l * val l2)) := by
 obtain rfl := h.hlen
 obtain rfl := h2.hlen
 have hcap := h.hcap
 have hbig := h.hbig
 have hcap2 := h2.hcap
 have hbig2 := h2.hbig
 refine zen Tryz.func151 ?_
 have G0 : St E0 w X w X [] := St.start hX
 refine zz 12 ?_
 refine zs 14 (v := .int .i64 (i64.wrap ((l.length : Int) + (l2.length : Int)))) (v' := .int .i64 ((l.length + l2.length : Nat) : Int)) (zO ((pJ (by omega) (by omega)).trans (by omega))) ?_
 refine zop (at1 [] Tryz.f151 [1,0]) 5 (fun a2 _ V2 hz2 => nX (l := ((l.length + l2.length : Nat) : Int)) (e := 195) (z := .int .u32 0) (i0 := Tryz.t195) (l.length + l2.length) 4 V2 G0 ?_)
 intro b3 w3 Y3 G3 y3 O3 a4 V4
 have D3 := zX.zeros (l.length + l2.length) (by simp only [maxLen]; omega)
 refine hz2 V4 ?_
 refine zz 10 ?_
 refine zlp Tryz.f151 [] [1,1,0,1,0] (fun (i : Nat) => [(0,.slice ad l.length cap),(1,.slice ad2 l2.length P2),(5,.slice (some ⟨b3,0,none⟩) (l.length + l2.length) (l.length + l2.length)),(6,.int .i64 (i : Int))]) (fun i w1 => ∃ (Y1 : Hid) (cur : Array Value) (ls : List Nat),St E0 w X w1 Y1 [(b3,.cells cur 195 (0,0))] ∧ Le (rd w3 Y3) (rd w1 Y1) ∧ (zX (l.length + l2.length) (l.length + l2.length) cur ls) ∧ (val ls = val (l.take i) * val l2) ∧ (∀ j,i + l2.length ≤ j → ls.getD j 0 = 0) ∧ (i ≤ l.length)) (fun i => l.length - i) 0 ?_ ?_
 refine ⟨_,(List.replicate (l.length + l2.length) (Value.int .u32 0)).toArray,(List.replicate (l.length + l2.length) 0),G3,Le.refl _,D3,by rw [yR]; simp [val],fun j _ => by simp [List.getD_eq_getElem?_getD,List.getElem?_replicate]; split <;> rfl,Nat.zero_le _⟩
 rintro i w5 K5 Z5 ⟨Y5,cur,ls,G5,y5,hp5_0,hp5_1,hp5_2,hp5_3⟩
 have hrow := hp5_0
 have hv := hp5_1
 have hz := hp5_2
 have hi := hp5_3
 have hlen := hrow.len
 have hlt1 := h.getD_lt i
 refine zz 9 ?_
 refine zt 19 (p := (i : Int) < (l.length : Int)) (fun F6 => ?_) (fun F6 => ?_)
 obtain ⟨b1,off1,rfl,_⟩ := h.addr (by omega)
 refine zz 17 ?_
 refine zlp Tryz.f151 [K5] [1,1,0,1,0,0,1,0,0,1,0,1,0] (fun ((k,c) : Nat × Nat) => [(0,.slice (some ⟨b1,off1,none⟩) l.length cap),(1,.slice ad2 l2.length P2),(5,.slice (some ⟨b3,0,none⟩) (l.length + l2.length) (l.length + l2.length)),(6,.int .i64 (i : Int)),(7,.int .u64 (c : Int)),(8,.int .i64 (k : Int))]) (fun (k,c) w1 => ∃ (Y1 : Hid) (Q2 : Array Value) (ls2 : List Nat),St E0 w X w1 Y1 [(b3,.cells Q2 195 (0,0))] ∧ Le (rd w5 Y5) (rd w1 Y1) ∧ (zX (l.length + l2.length) (l.length + l2.length) Q2 ls2) ∧ (val ls2 + c * 4294967296 ^ (i + k) = (val (l.take i) * val l2) + l.getD i 0 * 4294967296 ^ i * val (l2.take k)) ∧ (∀ j,i + l2.length ≤ j → ls2.getD j 0 = 0) ∧ (c < 4294967296) ∧ (k ≤ l2.length)) (fun (k,c) => l2.length - k) (0,0) ?_ ?_
 refine ⟨_,cur,ls,G5,Le.refl _,hrow,by rw [hv]; simp [val],hz,by omega,Nat.zero_le _⟩
 rintro ⟨k,c⟩ w7 K7 Z7 ⟨Y7,Q2,ls2,G7,y7,hp7_0,hp7_1,hp7_2,hp7_3,hp7_4⟩
 have D2 := hp7_0
 have hv2 := hp7_1
 have hzr2 := hp7_2
 have hc := hp7_3
 have hk := hp7_4
 have hlen2 := D2.len
 have hlt2 := h2.getD_lt k
 have hlt3 := D2.getD_lt (i + k)
 have hps := qGv hlt1 hlt2 hlt3 hc
 refine zz 9 ?_
 refine zt 25 (p := (k : Int) < (l2.length : Int)) (fun F8 => ?_) (fun F8 => ?_)
 obtain ⟨b2,off2,rfl,_⟩ := h2.addr (by omega)
 refine zz 6 ?_
 refine qDb [0] G7 ?_
 refine gz [0,1] ?_
 refine gi 2 (b := b1) (off := off1) (len := l.length) (cap := cap) (kd := .i64) (i := (i : Int)) 1 (off1 + i) ?_
 refine gl 3 ((h.cell (i := i) (by omega)).mono (Le3 y3 y5 y7)) ?_
 refine gz [4] ?_
 refine zDi 32 (v := .int .u64 (IntKind.u64.wrap (((l.getD i 0 : Nat) : Int)))) (v' := .int .u64 ((l.getD i 0 : Nat) : Int)) (zO (vO (by omega) (by omega))) ?_
 refine gz [5,6] ?_
 refine gi 7 (b := b2) (off := off2) (len := l2.length) (cap := P2) (kd := .i64) (i := (k : Int)) 1 (off2 + k) ?_
 refine gl 8 ((h2.cell (i := k) (by omega)).mono (Le3 y3 y5 y7)) ?_
 refine gz [9] ?_
 refine zDi 37 (v := .int .u64 (IntKind.u64.wrap (((l2.getD k 0 : Nat) : Int)))) (v' := .int .u64 ((l2.getD k 0 : Nat) : Int)) (zO (vO (by omega) (by omega))) ?_
 refine gz [10] ?_
 refine zDi 38 (v := .int .u64 (IntKind.u64.wrap (((l.getD i 0 : Nat) : Int) * ((l2.getD k 0 : Nat) : Int)))) (v' := .int .u64 ((l.getD i 0 * l2.getD k 0 : Nat) : Int)) (zO (qHo (by omega))) ?_
 refine gz [11,12,13,14] ?_
 refine zDi 42 (v := .int .i64 (i64.wrap ((i : Int) + (k : Int)))) (v' := .int .i64 ((i + k : Nat) : Int)) (zO ((pJ (by omega) (by omega)).trans (by omega))) ?_
 refine gi 15 (b := b3) (off := 0) (len := (l.length + l2.length)) (cap := (l.length + l2.length)) (kd := .i64) (i := ((i + k : Nat) : Int)) 1 ((((i + k : Nat) : Int)).toNat) ?_
 refine gr 16 0 ((((i + k : Nat) : Int)).toNat) D2 (by have := D2.len; (try simp only [List.length_set] at *); omega) ?_
 refine gz [17] ?_
 refine zDi 45 (v := .int .u64 (IntKind.u64.wrap (((ls2.getD ((((i + k : Nat) : Int)).toNat) 0 : Nat) : Int)))) (v' := .int .u64 ((ls2.getD (i + k) 0 : Nat) : Int)) (zO (vO (x := ((ls2.getD (i + k) 0 : Nat) : Int)) (by omega) (by omega))) ?_
 refine gz [18] ?_
 refine zDi 46 (v := .int .u64 (IntKind.u64.wrap (((l.getD i 0 * l2.getD k 0 : Nat) : Int) + ((ls2.getD (i + k) 0 : Nat) : Int)))) (v' := .int .u64 ((l.getD i 0 * l2.getD k 0 + ls2.getD (i + k) 0 : Nat) : Int)) (zO (zTh (by omega))) ?_
 refine gz [19,20] ?_
 refine zDi 48 (v := .int .u64 (IntKind.u64.wrap (((l.getD i 0 * l2.getD k 0 + ls2.getD (i + k) 0 : Nat) : Int) + (c : Int)))) (v' := .int .u64 (((l.getD i 0 * l2.getD k 0 + ls2.getD (i + k) 0 + c) : Nat) : Int)) (zO (zTh (by omega))) ?_
 refine gz [21] ?_
 refine xL (fun w9 Y9 G9 y9 => ?_)
 refine zz 7 ?_
 refine zs 52 (v := .int .i64 (i64.wrap ((i : Int) + (k : Int)))) (v' := .int .i64 ((i + k : Nat) : Int)) (zO ((pJ (by omega) (by omega)).trans (by omega))) ?_
 refine zz 2 ?_
 refine zs 54 (v := .int .u64 (Int.tmod ((((l.getD i 0 * l2.getD k 0 + ls2.getD (i + k) 0 + c) : Nat) : Int)) (4294967296))) (v' := .int .u64 (((l.getD i 0 * l2.getD k 0 + ls2.getD (i + k) 0 + c) % 4294967296 : Nat) : Int)) (zO (by rfl)) ?_
 refine zz 1 ?_
 refine zs 55 (v := .int .u32 (IntKind.u32.wrap ((((l.getD i 0 * l2.getD k 0 + ls2.getD (i + k) 0 + c) % 4294967296 : Nat) : Int)))) (v' := .int .u32 (((l.getD i 0 * l2.getD k 0 + ls2.getD (i + k) 0 + c) % 4294967296 : Nat) : Int)) (zO (qCz (by omega) (by omega))) ?_
 refine zi (b := b3) (off := 0) (len := (l.length + l2.length)) (cap := (l.length + l2.length)) (kd := .i64) (i := ((i + k : Nat) : Int)) 1 ((((i + k : Nat) : Int)).toNat) ?_
 refine zop (at1 [K5,K7] Tryz.f151 [1,1,0,1,0,0,1,0,0,1,0,1,0,0,1,0,0,1,0]) 8 (fun a10 _ V10 hz10 => yM (y := ((l.getD i 0 * l2.getD k 0 + ls2.getD (i + k) 0 + c) % 4294967296)) (k := (((i + k : Nat) : Int)).toNat) (e := (((l.getD i 0 * l2.getD k 0 + ls2.getD (i + k) 0 + c) % 4294967296 : Nat) : Int)) 0 V10 G9 (by first | rfl | omega | (simp; omega)) rfl D2 (by have := D2.len; (try simp only [List.length_set] at *); omega) (by first | omega | (simp; omega)) ?_)
 intro Q11 w11 D11 G11 y11
 refine hz10 V10 ?_
 refine zz 5 ?_
 refine zs 58 (v := .int .u64 (IntKind.u64.wrap (Int.tdiv ((((l.getD i 0 * l2.getD k 0 + ls2.getD (i + k) 0 + c) : Nat) : Int)) (4294967296)))) (v' := .int .u64 (((l.getD i 0 * l2.getD k 0 + ls2.getD (i + k) 0 + c) / 4294967296 : Nat) : Int)) (zO (zKs _ (by omega))) ?_
 refine zz 7 ?_
 refine zw 27 (x := (k : Int) + 1) ?_
 refine zz 2 ?_
 refine yE (fun a h => Z7 ((k + 1,(l.getD i 0 * l2.getD k 0 + ls2.getD (i + k) 0 + c) / 4294967296)) _ a h ⟨_,Q11,(ls2.set ((((i + k : Nat) : Int)).toNat) ((l.getD i 0 * l2.getD k 0 + ls2.getD (i + k) 0 + c) % 4294967296)),G11,(Le3 y7 y9 y11),D11,(by have h9 := qCc _ _ _ _ (l.getD i 0) (l2.getD k 0) (by omega) hv2; rw [← Nat.add_assoc]; exact h9.trans (qGu l2 i k _ _ _ rfl)),fun j hj => by rw [jS (by omega)]; exact hzr2 j (by omega),by omega,by omega⟩ ?_)
 first | omega | (simp <;> omega)
 obtain rfl : k = l2.length := by omega
 rw [List.take_length] at hv2
 refine zz 12 ?_
 refine zs 63 (v := .int .i64 (i64.wrap ((i : Int) + (l2.length : Int)))) (v' := .int .i64 ((i + l2.length : Nat) : Int)) (zO ((pJ (by omega) (by omega)).trans (by omega))) ?_
 refine zz 2 ?_
 refine zs 65 (v := .int .u32 (IntKind.u32.wrap ((c : Int)))) (v' := .int .u32 ((c : Nat) : Int)) (zO (qCz (by omega) (by omega))) ?_
 refine zi (b := b3) (off := 0) (len := (l.length + l2.length)) (cap := (l.length + l2.length)) (kd := .i64) (i := ((i + l2.length : Nat) : Int)) 1 ((((i + l2.length : Nat) : Int)).toNat) ?_
 refine zop (at1 [K5,K7] Tryz.f151 [1,1,0,1,0,0,1,0,0,1,1]) 8 (fun a12 _ V12 hz12 => yM (y := c) (k := (((i + l2.length : Nat) : Int)).toNat) (e := ((c : Nat) : Int)) 0 V12 G7 (by first | rfl | omega | (simp; omega)) rfl D2 (by have := D2.len; (try simp only [List.length_set] at *); omega) (by first | omega | (simp; omega)) ?_)
 intro Q13 w13 D13 G13 y13
 refine hz12 V12 ?_
 refine zz 6 ?_
 refine zw 21 (x := (i : Int) + 1) ?_
 refine zz 2 ?_
 refine yE (fun a h => Z5 (i + 1) _ a h ⟨_,Q13,(ls2.set ((((i + l2.length : Nat) : Int)).toNat) c),G13,(Le3 y5 y7 y13),D13,qCb _ _ _ _ _ (by omega) (hzr2 _ (by omega)) hv2,fun j hj => by rw [jS (by omega)]; exact hzr2 j (by omega),by omega⟩ ?_)
 first | omega | (simp <;> omega)
 have hend : val ls = val l * val l2 := by rw [hv,List.take_of_length_le (by omega)]
 refine zz 9 ?_
 refine zc G5 (zCv _ X0 (qB _) _ _ _ ls (zX.limbs (Y := X0) hrow (G5.get 0 rfl) (fun _ h => h.elim))) ?_ (vs := #[.slice (some ⟨b3,0,none⟩) (l.length + l2.length) (l.length + l2.length)])
 rintro v15 w15 G15 y15 O15 rfl
 refine zz 4 ?_
 refine zr' (v := .slice (some ⟨b3,0,none⟩) (qP ls) (l.length + l2.length)) ?_
 exact ⟨G15.upd,_,rfl,_,_,_,rfl,_,zX.limbs (hrow.trimmed) (G15.get 0 rfl) (fun o h9 => Nat.not_lt.2 (G15.own_ge 0 rfl) (hX _ _ h9)),qU _,by rw [jE]; exact hend⟩
set_option maxHeartbeats 1000000
theorem qEg (w : World) (X : Hid) (hX : ∀ k o,X k o → k < w.heap.size) (ad : Option Addr) (len cap : Nat) (l : List Nat) (h : zM (rd w X) ad len cap l) (ad2 : Option Addr) (len2 P2 : Nat) (l2 : List Nat) (h2 : zM (rd w X) ad2 len2 P2 l2) (hm : len ≤ 100000) (hm2 : len2 ≤ 100000) (J1 : zV l) (J2 : zV l2) (hd : 0 < val l2) (hlo : l.length < l2.length) : Calls Tryz.prog 150 #[.slice ad len cap,.slice ad2 len2 P2] w (Ret E0 w fun w' v => ∃ u u2,v = .tuple #[u,u2] ∧ pX X w' u (val l / val l2) ∧ pX X w' u2 (val l % val l2)) := by
 obtain rfl := h.hlen
 obtain rfl := h2.hlen
 have hcap := h.hcap
 have hbig := h.hbig
 have hcap2 := h2.hcap
 have hbig2 := h2.hbig
 have hlo2 := qRt h.hlt J2 hlo
 refine zen Tryz.func150 ?_
 have G0 : St E0 w X w X [] := St.start hX
 refine zz 13 ?_
 refine zw 14 (x := (l.length : Int) - (l2.length : Int)) ?_
 refine zz 1 ?_
 refine zs 15 (v := .int .i64 (i64.wrap (((l.length : Int) - (l2.length : Int)) + 1))) (v' := .int .i64 ((l.length : Int) - (l2.length : Int) + 1)) (zO (pJ (by omega) (by omega))) ?_
 refine zz 10 ?_
 refine zt 17 (p := ((l.length : Int) - (l2.length : Int) + 1) ≤ 0) (fun F2 => ?_) (fun F2 => ?_)
 refine zz 4 ?_
 refine zop (at1 [] Tryz.f150 [1,1,0,1,0,0]) 1 (fun a3 _ V3 hz3 => zJx (e := 195) (i0 := Tryz.t195) V3 G0 h (by first | omega | (simp; omega)) ?_)
 intro ad4 P4 w4 G4 y4 hL4 a5 V5
 refine hz3 V5 ?_
 refine zz 6 ?_
 refine zr' (v := .tuple #[.slice none 0 0,.slice ad4 l.length P4]) ?_
 exact ⟨G4.upd,_,rfl,_,_,rfl,⟨_,_,_,rfl,[],zM.nil none (by omega),.inl rfl,(Nat.div_eq_of_lt hlo2).symm⟩,⟨_,_,_,rfl,l,(hL4).mono G4.le,J1,(Nat.mod_eq_of_lt hlo2).symm⟩⟩
 omega
theorem qEf (w : World) (X : Hid) (hX : ∀ k o,X k o → k < w.heap.size) (ad : Option Addr) (len cap : Nat) (l : List Nat) (h : zM (rd w X) ad len cap l) (ad2 : Option Addr) (len2 P2 : Nat) (l2 : List Nat) (h2 : zM (rd w X) ad2 len2 P2 l2) (hm : len ≤ 100000) (hm2 : len2 ≤ 100000) (J1 : zV l) (J2 : zV l2) (hd : 0 < val l2) (N : Nat) (hN : l.length + 1 = N + l2.length) (h0 : 0 < N) : Calls Tryz.prog 150 #[.slice ad len cap,.slice ad2 len2 P2] w (Ret E0 w fun w' v => ∃ u u2,v = .tuple #[u,u2] ∧ pX X w' u (val l / val l2) ∧ pX X w' u2 (val l % val l2)) := by
 obtain rfl := h.hlen
 obtain rfl := h2.hlen
 have hcap := h.hcap
 have hbig := h.hbig
 have hcap2 := h2.hcap
 have hbig2 := h2.hbig
 have hl2 := qGr hd
 refine zen Tryz.func150 ?_
 have G0 : St E0 w X w X [] := St.start hX
 refine zz 13 ?_
 refine zw 14 (x := (l.length : Int) - (l2.length : Int)) ?_
 refine zz 1 ?_
 refine zs 15 (v := .int .i64 (i64.wrap (((l.length : Int) - (l2.length : Int)) + 1))) (v' := .int .i64 (N : Int)) (zO ((pJ (by omega) (by omega)).trans (by omega))) ?_
 refine zz 10 ?_
 refine zt 17 (p := (N : Int) ≤ 0) (fun F2 => ?_) (fun F2 => ?_)
 omega
 refine zz 6 ?_
 refine zop (at1 [] Tryz.f150 [1,1,1,0]) 1 (fun a3 _ V3 hz3 => nX (l := (N : Int)) (e := 195) (z := .int .u32 0) (i0 := Tryz.t195) N 4 V3 G0 ?_)
 intro b4 w4 Y4 G4 y4 O4 a5 V5
 have D4 := zX.zeros N (by simp only [maxLen]; omega)
 refine hz3 V5 ?_
 refine zz 7 ?_
 refine zop (at1 [] Tryz.f150 [1,1,1,1,0]) 2 (fun a6 _ V6 hz6 => zF (d := 24) (v := .slice (adF ad cap N) (l.length - N) (cap - N)) V6 kr (zGh (t := 26) (e := 195) (ad := ad) (len := l.length) (cap := cap) (k := N) (kd := .i64) (g := false) rfl kr kr kr kr (by omega) _) ?_)
 intro a7 V7
 refine hz6 V7 ?_
 refine zop (at1 [] Tryz.f150 [1,1,1,1,0]) 3 (fun a8 _ V8 hz8 => zJx (e := 195) (i0 := Tryz.t195) V8 G4 ((h.drop (k := N) (by omega)).mono y4) (by first | omega | (simp; omega)) ?_)
 intro ad9 P9 w9 G9 y9 hL9 a10 V10
 refine hz8 V10 ?_
 refine zc G9 (zCv _ _ G9.lt _ _ _ (l.drop N) hL9) ?_
 rintro v12 w12 G12 y12 O12 rfl
 have hT13 := ((hL9.mono y12)).sub (zFl _ ((hL9.mono y12)).hlen)
 refine zz 8 ?_
 refine zw 28 (x := (32 : Int) * (N : Int)) ?_
 refine zz 1 ?_
 refine zs 29 (v := .int .i64 (i64.wrap (((32 : Int) * (N : Int)) - 1))) (v' := .int .i64 (((32 * N : Nat) : Int) - 1)) (zO ((pJ (by omega) (by omega)).trans (by omega))) ?_
 refine zz 4 ?_
 refine zlp Tryz.f150 [] [1,1,1,1,1,0,1,0] (fun ((k,adr,lenr,capr) : Nat × (Option Addr) × Nat × Nat) => [(0,.slice ad l.length cap),(1,.slice ad2 l2.length P2),(7,.slice (some ⟨b4,0,none⟩) N N),(8,.slice adr lenr capr),(9,.int .i64 ((k : Int) - 1))]) (fun (k,adr,lenr,capr) w1 => ∃ (Y1 : Hid) (curq : Array Value) (lq : List Nat) (lr : List Nat) (q : Nat),St E0 w X w1 Y1 [(b4,.cells curq 195 (0,0))] ∧ Le (rd w12 Y4) (rd w1 Y1) ∧ (zX N N curq lq) ∧ (zM (rd w1 Y1) adr lenr capr lr) ∧ (zV lr) ∧ (val lq = 2 ^ k * q) ∧ (val l / 2 ^ k = q * val l2 + val lr) ∧ (val lr < val l2) ∧ (k ≤ 32 * N)) (fun (k,adr,lenr,capr) => k) ((32 * N),ad9,qP (l.drop N),P9) ?_ ?_
 refine ⟨_,(List.replicate N (Value.int .u32 0)).toArray,(List.replicate N 0),(Go.Gv.trimmed (l.drop N)),0,G12,Le.refl _,D4,hT13,qU _,by rw [yR]; simp,by rw [Nat.zero_mul,Nat.zero_add,jE]; exact qCv l h.hlt N (by omega),by rw [jE]; exact qEj h.hlt J2 hd hN,Nat.le_refl _⟩
 rintro ⟨k,adr,lenr,capr⟩ w14 K14 Z14 ⟨Y14,curq,lq,lr,q,G14,y14,hp14_0,hp14_1,hp14_2,hp14_3,hp14_4,hp14_5,hp14_6⟩
 have hrowq := hp14_0
 have hr := hp14_1
 have hcanr := hp14_2
 have hvq := hp14_3
 have hdiv := hp14_4
 have hlt := hp14_5
 have hkN := hp14_6
 have hrlen := hr.hlen
 have hrl := qA h2.hlt hcanr (Nat.le_of_lt hlt)
 obtain rfl := hrlen
 refine zz 7 ?_
 refine zt 31 (p := ((k : Int) - 1) ≥ 0) (fun F15 => ?_) (fun F15 => ?_)
 obtain ⟨i,rfl⟩ : ∃ i,k = i + 1 := ⟨k - 1,by omega⟩
 obtain ⟨b1,off1,rfl,_⟩ := h.addr (by omega)
 refine zz 9 ?_
 refine zc G14 (zQr _ _ G14.lt _ _ _ lr hr _ _ _ lr hr (by first | omega | (simp; done) | (simp; omega)) (by first | omega | (simp; done) | (simp; omega))) ?_
 rintro v17 w17 G17 y17 O17 ⟨ad17,len17,P17,rfl,ls17,hL17,hcan17,hval17⟩
 have hlen17 := hL17.hlen
 have hdl17 := zGm hcan17 h2.hlt hlt (by omega)
 refine zz 8 ?_
 refine zs 38 (v := .int .i64 (((i + 1 : Nat) : Int) - 1)) (v' := .int .i64 (i : Int)) (zO (by omega)) ?_
 refine zz 1 ?_
 refine zs 39 (v := .int .i64 (i64.wrap (Int.tdiv ((i : Int)) (32)))) (v' := .int .i64 ((i / 32 : Nat) : Int)) (zO (mK _ (by omega))) ?_
 refine zi (b := b1) (off := off1) (len := l.length) (cap := cap) (kd := .i64) (i := ((i / 32 : Nat) : Int)) 1 (off1 + i / 32) ?_
 have J1_ := (Le4 y4 y9 y12 y14).trans y17
 refine zl ((h.cell (i := i / 32) (by omega)).mono J1_).cells ?_
 refine zz 1 ?_
 refine zs 42 (v := .int .i64 (((i + 1 : Nat) : Int) - 1)) (v' := .int .i64 (i : Int)) (zO (by omega)) ?_
 refine zz 1 ?_
 refine zs 43 (v := .int .i64 (Int.tmod ((i : Int)) (32))) (v' := .int .i64 ((i % 32 : Nat) : Int)) (zO (zAj _)) ?_
 refine zz 1 ?_
 refine zs 44 (v := .int .u64 (IntKind.u64.wrap (((i % 32 : Nat) : Int)))) (v' := .int .u64 ((i % 32 : Nat) : Int)) (zO (vO (by omega) (by omega))) ?_
 refine zop (at1 [K14] Tryz.f150 [1,1,1,1,1,0,1,0,0,1,0,0,1,0,0]) 8 (fun a18 _ V18 hz18 => zF (d := 45) (v := .int .u32 ((l.getD (i / 32) 0 / 2 ^ (i % 32) : Nat) : Int)) V18 kr (qCi rfl rfl rfl (by omega)) ?_)
 intro a19 V19
 refine hz18 V19 ?_
 refine zz 1 ?_
 refine zs 46 (v := .int .u32 (Int.tmod (((l.getD (i / 32) 0 / 2 ^ (i % 32) : Nat) : Int)) (2))) (v' := .int .u32 (((val l / 2 ^ i % 2) : Nat) : Int)) (zO (by rw [← zCx l h.hlt i (by omega)]; rfl)) ?_
 refine zz 3 ?_
 refine zb 47 (b := ((((val l / 2 ^ i % 2) : Nat) : Int) == 1)) (fun J20 => ?_) (fun J20 => ?_)
 have F21 : (((val l / 2 ^ i % 2) : Nat) : Int) = 1 := by simpa using J20
 have hbit : val l / 2 ^ i % 2 = 1 := Int.ofNat_inj.1 F21
 refine zz 3 ?_
 refine zn (fun b => .slice (some ⟨b,0,none⟩) 1 1) (.cells #[.int .u32 1] 195 (0,0)) G17 fun b23 w23 Y23 G23 y23 O23 => ?_
 obtain ⟨hSx25,y25,hat25⟩ := St.publish G23 (G23.own_ge 0 rfl)
 have G25 : St E0 w X w23 (zTb b23 Y23) [(b4,.cells curq 195 (0,0))] := hSx25
 have hL25 := qPb (x := 1) hat25 (by omega)
 refine zc G25 (zQr _ _ G25.lt _ _ _ ls17 (hL17.mono (Le2 y23 y25)) _ _ _ ([1]) hL25 (by first | omega | (simp; done) | (simp; omega)) (by first | omega | (simp; done) | (simp; omega))) ?_
 rintro v26 w26 G26 y26 O26 ⟨ad26,len26,P26,rfl,ls26,hL26,hcan26,hval26⟩
 have hlen26 := hL26.hlen
 have hv126 : val [1] = 1 := rfl
 have hdl26 := zGm hcan26 h2.hlt hlt (by omega)
 refine zz 7 ?_
 have J2_ := ((J1_.trans y23).trans y25).trans y26
 refine zc G26 (zEs _ _ G26.lt _ _ _ ls26 hL26 _ _ _ l2 (h2.mono J2_) (by first | omega | (simp; done) | (simp; omega)) (by first | omega | (simp; done) | (simp; omega))) ?_
 rintro v28 w28 G28 y28 O28 rfl
 refine zz 3 ?_
 refine zt 54 (p := (qI (val ls26) (val l2)) ≥ 0) (fun F29 => ?_) (fun F29 => ?_)
 have hcmp := lF F29
 obtain ⟨hset1,hset2,hset3⟩ := zKj lq hrowq.lt i q (by rw [hrowq.len]; omega) hvq
 refine zz 5 ?_
 have J3_ := J2_.trans y28
 refine zc G28 (zBy _ _ G28.lt _ _ _ ls26 (hL26.mono y28) _ _ _ l2 (h2.mono J3_) (by first | omega | (simp; done) | (simp; omega)) (qA ((hL26.mono y28)).hlt J2 hcmp) (by omega)) ?_
 rintro v31 w31 G31 y31 O31 ⟨ad31,len31,P31,rfl,ls31,hL31,hcan31,hval31⟩
 have hlen31 := hL31.hlen
 refine zz 6 ?_
 refine zs 59 (v := .int .i64 (((i + 1 : Nat) : Int) - 1)) (v' := .int .i64 (i : Int)) (zO (by omega)) ?_
 refine zz 1 ?_
 refine zs 60 (v := .int .i64 (i64.wrap (Int.tdiv ((i : Int)) (32)))) (v' := .int .i64 ((i / 32 : Nat) : Int)) (zO (mK _ (by omega))) ?_
 refine zz 2 ?_
 refine zs 62 (v := .int .i64 (((i + 1 : Nat) : Int) - 1)) (v' := .int .i64 (i : Int)) (zO (by omega)) ?_
 refine zz 1 ?_
 refine zs 63 (v := .int .i64 (i64.wrap (Int.tdiv ((i : Int)) (32)))) (v' := .int .i64 ((i / 32 : Nat) : Int)) (zO (mK _ (by omega))) ?_
 refine zi (b := b4) (off := 0) (len := N) (cap := N) (kd := .i64) (i := ((i / 32 : Nat) : Int)) 1 (i / 32) ?_
 refine zl (ad := ⟨b4,i / 32,none⟩) (G31.rowCells 0 rfl hrowq (by have := hrowq.len; (try simp only [List.length_set] at *); omega)) ?_
 refine zz 1 ?_
 refine zs 66 (v := .int .i64 (((i + 1 : Nat) : Int) - 1)) (v' := .int .i64 (i : Int)) (zO (by omega)) ?_
 refine zz 1 ?_
 refine zs 67 (v := .int .i64 (Int.tmod ((i : Int)) (32))) (v' := .int .i64 ((i % 32 : Nat) : Int)) (zO (zAj _)) ?_
 refine zz 1 ?_
 refine zs 68 (v := .int .u64 (IntKind.u64.wrap (((i % 32 : Nat) : Int)))) (v' := .int .u64 ((i % 32 : Nat) : Int)) (zO (vO (by omega) (by omega))) ?_
 refine zop (at1 [K14] Tryz.f150 [1,1,1,1,1,0,1,0,0,1,0,0,1,1,1,0,1]) 11 (fun a32 _ V32 hz32 => zF (d := 69) (v := .int .u32 ((2 ^ (i % 32) : Nat) : Int)) V32 kr (zIb rfl rfl rfl (by omega)) ?_)
 intro a33 V33
 refine hz32 V33 ?_
 refine zz 1 ?_
 refine zs 70 (v := .int .u32 (wJ ((lq.getD (i / 32) 0 : Nat) : Int) ((2 ^ (i % 32) : Nat) : Int))) (v' := .int .u32 ((lq.getD (i / 32) 0 + 2 ^ (i % 32) : Nat) : Int)) (zO hset1) ?_
 refine zi (b := b4) (off := 0) (len := N) (cap := N) (kd := .i64) (i := ((i / 32 : Nat) : Int)) 1 (i / 32) ?_
 refine zop (at1 [K14] Tryz.f150 [1,1,1,1,1,0,1,0,0,1,0,0,1,1,1,0,1]) 14 (fun a34 _ V34 hz34 => yM (y := (lq.getD (i / 32) 0 + 2 ^ (i % 32))) (k := i / 32) (e := ((lq.getD (i / 32) 0 + 2 ^ (i % 32) : Nat) : Int)) 0 V34 G31 (rfl) rfl hrowq (by have := hrowq.len; (try simp only [List.length_set] at *); omega) (hset2) ?_)
 intro Q35 w35 D35 G35 y35
 refine hz34 V34 ?_
 refine zz 6 ?_
 refine zs 33 (v := .int .i64 (i64.wrap ((((i + 1 : Nat) : Int) - 1) - 1))) (v' := .int .i64 ((i : Int) - 1)) (zO ((pJ (by omega) (by omega)).trans (by omega))) ?_
 refine zz 2 ?_
 have J4_ := (Le7 y14 y17 y23 y25 y26 y28 y31).trans y35
 refine yE (fun a h => Z14 ((i,ad31,len31,P31)) _ a h ⟨_,Q35,(lq.set (i / 32) (lq.getD (i / 32) 0 + 2 ^ (i % 32))),ls31,(2 * q + 1),G35,J4_,D35,(hL31.mono y35),hcan31,by rw [hset3,hvq,Nat.pow_succ,Nat.mul_add,Nat.mul_one]; congr 1; ac_rfl,qEh hdiv (by rw [hbit]; omega) (by rw [hbit]; omega),by omega,by omega⟩ ?_)
 first | omega | (simp <;> omega)
 have hcmp := sQ F29
 refine zz 7 ?_
 refine zs 33 (v := .int .i64 (i64.wrap ((((i + 1 : Nat) : Int) - 1) - 1))) (v' := .int .i64 ((i : Int) - 1)) (zO ((pJ (by omega) (by omega)).trans (by omega))) ?_
 refine zz 2 ?_
 have J5_ := (Le5 y14 y17 y23 y25 y26).trans y28
 refine yE (fun a h => Z14 ((i,ad26,len26,P26)) _ a h ⟨_,curq,lq,ls26,(2 * q),G28,J5_,hrowq,(hL26.mono y28),hcan26,by rw [hvq,Nat.pow_succ]; ac_rfl,zYh hdiv (by rw [hbit]; omega),by omega,by omega⟩ ?_)
 first | omega | (simp <;> omega)
 have F36 : (((val l / 2 ^ i % 2) : Nat) : Int) ≠ 1 := by simpa using J20
 have hbit : val l / 2 ^ i % 2 = 0 := (Nat.mod_two_eq_zero_or_one _).resolve_right (fun e => F36 (congrArg (fun x : Nat => (x : Int)) e))
 refine zz 7 ?_
 refine zc G17 (zEs _ _ G17.lt _ _ _ ls17 hL17 _ _ _ l2 (h2.mono J1_) (by first | omega | (simp; done) | (simp; omega)) (by first | omega | (simp; done) | (simp; omega))) ?_
 rintro v38 w38 G38 y38 O38 rfl
 refine zz 3 ?_
 refine zt 54 (p := (qI (val ls17) (val l2)) ≥ 0) (fun F39 => ?_) (fun F39 => ?_)
 have hcmp := lF F39
 obtain ⟨hset1,hset2,hset3⟩ := zKj lq hrowq.lt i q (by rw [hrowq.len]; omega) hvq
 refine zz 5 ?_
 have J6_ := J1_.trans y38
 refine zc G38 (zBy _ _ G38.lt _ _ _ ls17 (hL17.mono y38) _ _ _ l2 (h2.mono J6_) (by first | omega | (simp; done) | (simp; omega)) (qA ((hL17.mono y38)).hlt J2 hcmp) (by omega)) ?_
 rintro v41 w41 G41 y41 O41 ⟨ad41,len41,P41,rfl,ls41,hL41,hcan41,hval41⟩
 have hlen41 := hL41.hlen
 refine zz 6 ?_
 refine zs 59 (v := .int .i64 (((i + 1 : Nat) : Int) - 1)) (v' := .int .i64 (i : Int)) (zO (by omega)) ?_
 refine zz 1 ?_
 refine zs 60 (v := .int .i64 (i64.wrap (Int.tdiv ((i : Int)) (32)))) (v' := .int .i64 ((i / 32 : Nat) : Int)) (zO (mK _ (by omega))) ?_
 refine zz 2 ?_
 refine zs 62 (v := .int .i64 (((i + 1 : Nat) : Int) - 1)) (v' := .int .i64 (i : Int)) (zO (by omega)) ?_
 refine zz 1 ?_
 refine zs 63 (v := .int .i64 (i64.wrap (Int.tdiv ((i : Int)) (32)))) (v' := .int .i64 ((i / 32 : Nat) : Int)) (zO (mK _ (by omega))) ?_
 refine zi (b := b4) (off := 0) (len := N) (cap := N) (kd := .i64) (i := ((i / 32 : Nat) : Int)) 1 (i / 32) ?_
 refine zl (ad := ⟨b4,i / 32,none⟩) (G41.rowCells 0 rfl hrowq (by have := hrowq.len; (try simp only [List.length_set] at *); omega)) ?_
 refine zz 1 ?_
 refine zs 66 (v := .int .i64 (((i + 1 : Nat) : Int) - 1)) (v' := .int .i64 (i : Int)) (zO (by omega)) ?_
 refine zz 1 ?_
 refine zs 67 (v := .int .i64 (Int.tmod ((i : Int)) (32))) (v' := .int .i64 ((i % 32 : Nat) : Int)) (zO (zAj _)) ?_
 refine zz 1 ?_
 refine zs 68 (v := .int .u64 (IntKind.u64.wrap (((i % 32 : Nat) : Int)))) (v' := .int .u64 ((i % 32 : Nat) : Int)) (zO (vO (by omega) (by omega))) ?_
 refine zop (at1 [K14] Tryz.f150 [1,1,1,1,1,0,1,0,0,1,0,0,1,1,1,0,1]) 11 (fun a42 _ V42 hz42 => zF (d := 69) (v := .int .u32 ((2 ^ (i % 32) : Nat) : Int)) V42 kr (zIb rfl rfl rfl (by omega)) ?_)
 intro a43 V43
 refine hz42 V43 ?_
 refine zz 1 ?_
 refine zs 70 (v := .int .u32 (wJ ((lq.getD (i / 32) 0 : Nat) : Int) ((2 ^ (i % 32) : Nat) : Int))) (v' := .int .u32 ((lq.getD (i / 32) 0 + 2 ^ (i % 32) : Nat) : Int)) (zO hset1) ?_
 refine zi (b := b4) (off := 0) (len := N) (cap := N) (kd := .i64) (i := ((i / 32 : Nat) : Int)) 1 (i / 32) ?_
 refine zop (at1 [K14] Tryz.f150 [1,1,1,1,1,0,1,0,0,1,0,0,1,1,1,0,1]) 14 (fun a44 _ V44 hz44 => yM (y := (lq.getD (i / 32) 0 + 2 ^ (i % 32))) (k := i / 32) (e := ((lq.getD (i / 32) 0 + 2 ^ (i % 32) : Nat) : Int)) 0 V44 G41 (rfl) rfl hrowq (by have := hrowq.len; (try simp only [List.length_set] at *); omega) (hset2) ?_)
 intro Q45 w45 D45 G45 y45
 refine hz44 V44 ?_
 refine zz 6 ?_
 refine zs 33 (v := .int .i64 (i64.wrap ((((i + 1 : Nat) : Int) - 1) - 1))) (v' := .int .i64 ((i : Int) - 1)) (zO ((pJ (by omega) (by omega)).trans (by omega))) ?_
 refine zz 2 ?_
 have J7_ := (Le4 y14 y17 y38 y41).trans y45
 refine yE (fun a h => Z14 ((i,ad41,len41,P41)) _ a h ⟨_,Q45,(lq.set (i / 32) (lq.getD (i / 32) 0 + 2 ^ (i % 32))),ls41,(2 * q + 1),G45,J7_,D45,(hL41.mono y45),hcan41,by rw [hset3,hvq,Nat.pow_succ,Nat.mul_add,Nat.mul_one]; congr 1; ac_rfl,qEh hdiv (by rw [hbit]; omega) (by rw [hbit]; omega),by omega,by omega⟩ ?_)
 first | omega | (simp <;> omega)
 have hcmp := sQ F39
 refine zz 7 ?_
 refine zs 33 (v := .int .i64 (i64.wrap ((((i + 1 : Nat) : Int) - 1) - 1))) (v' := .int .i64 ((i : Int) - 1)) (zO ((pJ (by omega) (by omega)).trans (by omega))) ?_
 refine zz 2 ?_
 refine yE (fun a h => Z14 ((i,ad17,len17,P17)) _ a h ⟨_,curq,lq,ls17,(2 * q),G38,(Le3 y14 y17 y38),hrowq,(hL17.mono y38),hcan17,by rw [hvq,Nat.pow_succ]; ac_rfl,zYh hdiv (by rw [hbit]; omega),by omega,by omega⟩ ?_)
 first | omega | (simp <;> omega)
 obtain rfl : k = 0 := by omega
 obtain ⟨he1,he2⟩ := zPh hdiv hlt hvq
 refine zz 9 ?_
 refine zc G14 (zCv _ X0 (qB _) _ _ _ lq (zX.limbs (Y := X0) hrowq (G14.get 0 rfl) (fun _ h => h.elim))) ?_ (vs := #[.slice (some ⟨b4,0,none⟩) N N])
 rintro v47 w47 G47 y47 O47 rfl
 refine zz 6 ?_
 refine zr' (v := .tuple #[.slice (some ⟨b4,0,none⟩) (qP lq) N,.slice adr lr.length capr]) ?_
 exact ⟨G47.upd,_,rfl,_,_,rfl,⟨_,_,_,rfl,_,zX.limbs (hrowq.trimmed) (G47.get 0 rfl) (fun o h9 => Nat.not_lt.2 (G47.own_ge 0 rfl) (hX _ _ h9)),qU _,by rw [jE]; exact he1⟩,⟨_,_,_,rfl,lr,((hr.mono y47)).mono G47.le,hcanr,he2⟩⟩
set_option maxHeartbeats 1000000
theorem zPg (w : World) (X : Hid) (hX : ∀ k o,X k o → k < w.heap.size) (ad : Option Addr) (len cap : Nat) (l : List Nat) (h : zM (rd w X) ad len cap l) (ad2 : Option Addr) (len2 P2 : Nat) (l2 : List Nat) (h2 : zM (rd w X) ad2 len2 P2 l2) (hm : len ≤ 100000) (hm2 : len2 ≤ 100000) (J1 : zV l) (J2 : zV l2) (hd : 0 < val l2)  : Calls Tryz.prog 150 #[.slice ad len cap,.slice ad2 len2 P2] w (Ret E0 w fun w' v => ∃ u u2,v = .tuple #[u,u2] ∧ pX X w' u (val l / val l2) ∧ pX X w' u2 (val l % val l2)) := by
 rcases Nat.lt_or_ge l.length l2.length with h9 | h9
 ·exact qEg w X hX ad len cap l h ad2 len2 P2 l2 h2 hm hm2 J1 J2 hd h9
 ·exact qEf w X hX ad len cap l h ad2 len2 P2 l2 h2 hm hm2 J1 J2 hd (l.length + 1 - l2.length) (by omega) (by omega)
theorem zUb {x lr l2 : List Nat} (hc : zV lr) (h2 : ∀ y ∈ l2,y < 4294967296) (h0 : 0 < val l2) (h : val lr = val x % val l2) : lr.length ≤ l2.length := qA h2 hc (by rw [h]; exact Nat.le_of_lt (Nat.mod_lt _ h0))
theorem wC {l : List Nat} (hc : zV l) (h : 0 < l.length) : 0 < val l := by
 have := jX hc
 omega
theorem zPp (w : World) (X : Hid) (hX : ∀ k o,X k o → k < w.heap.size) (ad : Option Addr) (len cap : Nat) (l : List Nat) (h : zM (rd w X) ad len cap l) (ad2 : Option Addr) (len2 P2 : Nat) (l2 : List Nat) (h2 : zM (rd w X) ad2 len2 P2 l2) (hm : len ≤ 100000) (hm2 : len2 ≤ 100000) (J1 : zV l) (J2 : zV l2) : Calls Tryz.prog 102 #[.slice ad len cap,.slice ad2 len2 P2] w (Ret E0 w fun w' v => pX X w' v (Nat.gcd (val l) (val l2))) := by
 obtain rfl := h.hlen
 obtain rfl := h2.hlen
 have hcap := h.hcap
 have hbig := h.hbig
 have hcap2 := h2.hcap
 have hbig2 := h2.hbig
 refine zen Tryz.func102 ?_
 have G0 : St E0 w X w X [] := St.start hX
 refine zz 7 ?_
 refine zlp Tryz.f102 [] [1,0,0] (fun ((lb,ad8,la,P8,ad9,P9) : List Nat × (Option Addr) × (List Nat) × Nat × (Option Addr) × Nat) => [(0,.slice ad8 la.length P8),(1,.slice ad9 lb.length P9)]) (fun (lb,ad8,la,P8,ad9,P9) w1 => ∃ (Y1 : Hid),St E0 w X w1 Y1 [] ∧ Le (rd w X) (rd w1 Y1) ∧ (zM (rd w1 Y1) ad8 la.length P8 la) ∧ (zM (rd w1 Y1) ad9 lb.length P9 lb) ∧ (zV la) ∧ (zV lb) ∧ (la.length ≤ 100000) ∧ (lb.length ≤ 100000) ∧ (Nat.gcd (val la) (val lb) = Nat.gcd (val l) (val l2))) (fun (lb,ad8,la,P8,ad9,P9) => val lb) (l2,ad,l,cap,ad2,P2) ?_ ?_
 refine ⟨_,G0,Le.refl _,h,h2,J1,J2,hm,hm2,rfl⟩
 rintro ⟨lb,ad8,la,P8,ad9,P9⟩ w2 K2 Z2 ⟨Y2,G2,y2,hp2_0,hp2_1,hp2_2,hp2_3,hp2_4,hp2_5,hp2_6⟩
 have ha := hp2_0
 have hb := hp2_1
 have hca := hp2_2
 have hcb := hp2_3
 have hla := hp2_4
 have hlb := hp2_5
 have hg := hp2_6
 refine zz 8 ?_
 refine zt 9 (p := (lb.length : Int) > 0) (fun F3 => ?_) (fun F3 => ?_)
 have hpos := wC hcb (by omega)
 refine zz 8 ?_
 refine zc G2 (zPg _ _ G2.lt _ _ _ la ha _ _ _ lb hb (by first | omega | (simp; done) | (simp; omega)) (by first | omega | (simp; done) | (simp; omega)) hca hcb hpos) ?_
 rintro v5 w5 G5 y5 O5 ⟨_,_,rfl,⟨ad5,len5,P5,rfl,ls5,hL5,hcan5,hval5⟩,⟨ae5,le5,ce5,rfl,lr5,hM5,hcam5,hvam5⟩⟩
 obtain rfl := hL5.hlen
 obtain rfl := hM5.hlen
 refine zz 14 ?_
 have hmod := zUb hcam5 hb.hlt hpos hvam5
 have hml := Nat.mod_lt (val la) hpos
 refine yE (fun a h => Z2 ((lr5,ad9,lb,P9,ae5,ce5)) _ a h ⟨_,G5,(Le2 y2 y5),(hb.mono y5),hM5,hcb,hcam5,hlb,by omega,by rw [hvam5,← hg]; exact (Nat.gcd_comm _ _).trans ((Nat.gcd_rec (val lb) (val la)).symm.trans (Nat.gcd_comm _ _))⟩ ?_)
 first | omega | (simp <;> omega)
 have hz : val lb = 0 := by rw [List.eq_nil_of_length_eq_zero (l := lb) (by omega)]; rfl
 rw [hz,Nat.gcd_zero_right] at hg
 refine zz 9 ?_
 refine zop (at1 [K2] Tryz.f102 [1,1,0]) 1 (fun a6 _ V6 hz6 => zJx (e := 195) (i0 := Tryz.t195) V6 G2 ha (by first | omega | (simp; omega)) ?_)
 intro ad7 P7 w7 G7 y7 hL7 a8 V8
 refine hz6 V8 ?_
 refine zz 4 ?_
 refine zr' (v := .slice ad7 la.length P7) ?_
 exact ⟨G7.upd,_,rfl,_,_,_,rfl,_,(hL7).mono G7.le,hca,hg⟩
set_option maxHeartbeats 1000000
theorem zAd (w : World) (X : Hid) (hX : ∀ k o,X k o → k < w.heap.size) : Calls Tryz.prog 101 #[] w (Ret E0 w fun w' v => ∃ ad cap,v = .slice ad 1 cap ∧ zM (rd w' X) ad 1 cap [1]) := by
 refine zen Tryz.func101 ?_
 have G0 : St E0 w X w X [] := St.start hX
 refine zz 7 ?_
 refine zn (fun b => .slice (some ⟨b,0,none⟩) 1 1) (.cells #[.int .u32 1] 195 (0,0)) G0 fun b3 w3 Y3 G3 y3 O3 => ?_
 refine zz 4 ?_
 refine zr' (v := .slice (some ⟨b3,0,none⟩) 1 1) ?_
 have D4 : zX 1 1 #[.int .u32 1] [1] := zX.of [1] (by simp) (by simp [maxLen]) (by simp [U32]) (by simp)
 exact ⟨G3.upd,_,rfl,_,_,rfl,zX.limbs D4 (G3.get 0 rfl) (fun o h9 => Nat.not_lt.2 (G3.own_ge 0 rfl) (hX _ _ h9))⟩
theorem zUc : zV [1] := .inr (by decide)
def aA (l : List Nat) : List Nat := if l.length = 0 then [1] else l
theorem zYb {l : List Nat} (h : ¬ (l.length : Int) = 0) : aA l = l := if_neg (by omega)
theorem zYa {l : List Nat} (h : (l.length : Int) = 0) : aA l = [1] := if_pos (by omega)
theorem zRg {l : List Nat} {k : Nat} (h : l.length ≤ k) (h0 : 0 < k) : (aA l).length ≤ k := by unfold aA; split; exact h0; exact h
theorem zMb (a : Raw) (h : zV a.ld) : val (aA a.ld) = a.d := by
 have h1 := jX h
 unfold aA Raw.d
 by_cases h2 : a.ld.length = 0
 ·rw [if_pos h2,if_pos (h1.1 h2)]; rfl
 ·rw [if_neg h2,if_neg (fun e => h2 (h1.2 e))]
theorem zIw (w : World) (X : Hid) (hX : ∀ k o,X k o → k < w.heap.size) (a : Raw) (ad : Option Addr) (len cap : Nat) (h : zM (rd w X) ad len cap a.ln) (ad2 : Option Addr) (len2 P2 : Nat) (h2 : zM (rd w X) ad2 len2 P2 a.ld) : Calls Tryz.prog 152 #[.agg #[.bool a.neg,.slice ad len cap,.slice ad2 len2 P2]] w (Ret E0 w fun w' v => ∃ ad len cap,v = .slice ad len cap ∧ zM (rd w' X) ad len cap (aA a.ld)) := by
 obtain rfl := h.hlen
 obtain rfl := h2.hlen
 have hcap := h.hcap
 have hbig := h.hbig
 have hcap2 := h2.hcap
 have hbig2 := h2.hbig
 refine zen Tryz.func152 ?_
 have G0 : St E0 w X w X [] := St.start hX
 refine zz 2 ?_
 refine zn pn (.cells #[.bool a.neg,.slice ad a.ln.length cap,.slice ad2 a.ld.length P2] 28 (0,0)) G0 fun b3 w3 Y3 G3 y3 O3 => ?_
 refine zz 7 ?_
 refine zo 0 G3 ?_
 refine zz 4 ?_
 refine zb 6 (b := ((a.ld.length : Int) == 0)) (fun J4 => ?_) (fun J4 => ?_)
 have F5 : (a.ld.length : Int) = 0 := by simpa using J4
 refine zz 3 ?_
 refine zc G3 (zAd _ _ G3.lt) ?_
 rintro v7 w7 G7 y7 O7 ⟨ad7,P7,rfl,hL7⟩
 refine zz 5 ?_
 refine zr' (v := .slice ad7 1 P7) ?_
 exact ⟨G7.upd,_,rfl,_,_,_,rfl,by rw [zYa F5]; exact (hL7).mono G7.le⟩
 have F8 : (a.ld.length : Int) ≠ 0 := by simpa using J4
 refine zz 6 ?_
 refine zo 0 G3 ?_
 refine zz 4 ?_
 refine zr' (v := .slice ad2 a.ld.length P2) ?_
 exact ⟨G3.upd,_,rfl,_,_,_,rfl,by rw [zYb F8]; exact ((h2.mono y3)).mono G3.le⟩
set_option maxHeartbeats 1000000
theorem xY {l : List Nat} (hl : ∀ x ∈ l,x < 4294967296) (hc : zV l) : l = [1] ↔ val l = 1 :=
 ⟨fun h => by rw [h]; rfl,fun h => zGn hl (by intro x hx; simp at hx; omega) hc zUc (h.trans rfl)⟩
theorem qRu (w : World) (X : Hid) (hX : ∀ k o,X k o → k < w.heap.size) (ad : Option Addr) (len cap : Nat) (l : List Nat) (h : zM (rd w X) ad len cap l) (ad2 : Option Addr) (len2 P2 : Nat) (l2 : List Nat) (h2 : zM (rd w X) ad2 len2 P2 l2) (sg : Bool) (hm : len ≤ 100000) (hm2 : len2 ≤ 100000) (J1 : zV l) (J2 : zV l2) (hd : 0 < val l2) : Calls Tryz.prog 153 #[.bool sg,.slice ad len cap,.slice ad2 len2 P2] w (Ret E0 w fun w' v => bV X w' v (mkRat (sgn sg (val l)) (val l2))) := by
 obtain rfl := h.hlen
 obtain rfl := h2.hlen
 have hcap := h.hcap
 have hbig := h.hbig
 have hcap2 := h2.hcap
 have hbig2 := h2.hbig
 refine zen Tryz.func153 ?_
 have G0 : St E0 w X w X [] := St.start hX
 refine zz 2 ?_
 refine zn pn (.cells #[.bool false,.slice none 0 0,.slice none 0 0] 28 (0,0)) G0 fun b3 w3 Y3 G3 y3 O3 => ?_
 refine zz 10 ?_
 refine zb 10 (b := ((l.length : Int) == 0)) (fun J4 => ?_) (fun J4 => ?_)
 have F5 : (l.length : Int) = 0 := by simpa using J4
 refine zz 4 ?_
 refine zx 0 #[.bool false,.slice none 0 0,.slice none 0 0] G3 fun w6 G6 y6 => ?_
 refine zz 4 ?_
 refine zrS [.cell 6 28] (v := .agg #[.bool false,.slice none 0 0,.slice none 0 0]) (Res.cM G6 0 Res.nil) ?_
 exact ⟨G6.upd,_,rfl,by rw [(jX J1).1 (by omega)]; exact zOt _⟩
 have F7 : (l.length : Int) ≠ 0 := by simpa using J4
 refine zz 7 ?_
 refine zc G3 (zPp _ _ G3.lt _ _ _ l (h.mono y3) _ _ _ l2 (h2.mono y3) (by first | omega | (simp; done) | (simp; omega)) (by first | omega | (simp; done) | (simp; omega)) J1 J2) ?_
 rintro v9 w9 G9 y9 O9 ⟨ad9,len9,P9,rfl,ls9,hL9,hcan9,hval9⟩
 obtain rfl := hL9.hlen
 have hgp : 0 < val ls9 := by rw [hval9]; exact Nat.gcd_pos_of_pos_right _ hd
 have hgl := qA h2.hlt hcan9 (by rw [hval9]; exact Nat.gcd_le_right _ hd)
 refine zz 7 ?_
 refine zc G9 (zPg _ _ G9.lt _ _ _ l (h.mono (Le2 y3 y9)) _ _ _ ls9 hL9 (by first | omega | (simp; done) | (simp; omega)) (by first | omega | (simp; done) | (simp; omega)) J1 hcan9 hgp) ?_
 rintro v11 w11 G11 y11 O11 ⟨_,_,rfl,⟨ad11,len11,P11,rfl,ls11,hL11,hcan11,hval11⟩,⟨ae11,le11,ce11,rfl,qOr,hM11,hcam11,hvam11⟩⟩
 obtain rfl := hL11.hlen
 obtain rfl := hM11.hlen
 have hql11 := sO hcan11 (k := 100000) (Nat.lt_of_le_of_lt (hval11 ▸ Nat.div_le_self _ _) ((zW h.hlt J1 100000).1 (by omega)))
 refine zz 10 ?_
 refine zc G11 (zPg _ _ G11.lt _ _ _ l2 (h2.mono (Le3 y3 y9 y11)) _ _ _ ls9 (hL9.mono y11) (by first | omega | (simp; done) | (simp; omega)) (by first | omega | (simp; done) | (simp; omega)) J2 hcan9 hgp) ?_
 rintro v13 w13 G13 y13 O13 ⟨_,_,rfl,⟨ad13,len13,P13,rfl,ls13,hL13,hcan13,hval13⟩,⟨ae13,le13,ce13,rfl,lr13,hM13,hcam13,hvam13⟩⟩
 obtain rfl := hL13.hlen
 obtain rfl := hM13.hlen
 have hql13 := sO hcan13 (k := 100000) (Nat.lt_of_le_of_lt (hval13 ▸ Nat.div_le_self _ _) ((zW h2.hlt J2 100000).1 (by omega)))
 refine zz 10 ?_
 refine zc G13 (zAd _ _ G13.lt) ?_
 rintro v15 w15 G15 y15 O15 ⟨ad15,P15,rfl,hL15⟩
 refine zc G15 (kR _ _ G15.lt _ _ _ _ (hL13.mono y15) _ _ _ _ hL15) ?_
 rintro v17 w17 G17 y17 O17 rfl
 refine zz 2 ?_
 refine zb 29 (b := (decide (ls13 = [1]))) (fun J18 => ?_) (fun J18 => ?_)
 have F19 : ls13 = [1] := of_decide_eq_true J18
 refine zz 11 ?_
 refine zx 0 #[.bool sg,.slice ad11 ls11.length P11,.slice none 0 0] G17 fun w20 G20 y20 => ?_
 refine zz 3 ?_
 refine zrS [.cell 6 28] (v := .agg #[.bool sg,.slice ad11 ls11.length P11,.slice none 0 0]) (Res.cM G20 0 Res.nil) ?_
 have hn0 : val l ≠ 0 := fun e => F7 (by have := (jX J1).2 e; omega)
 have J1_ := (Le3 y13 y15 y17).trans y20
 exact ⟨G20.upd,_,rfl,lS hn0 hd ⟨ls11,((hL11.mono J1_)).mono G20.le,hcan11,by rw [← hval9]; exact hval11⟩ (by rw [← hval9,← hval13,(xY hL13.hlt hcan13).1 (by simpa using F19)]; exact qC.nil none (by omega))⟩
 have F21 : ¬ (ls13 = [1]) := of_decide_eq_false J18
 refine zz 9 ?_
 refine zx 0 #[.bool sg,.slice ad11 ls11.length P11,.slice ad13 ls13.length P13] G17 fun w22 G22 y22 => ?_
 refine zz 3 ?_
 refine zrS [.cell 6 28] (v := .agg #[.bool sg,.slice ad11 ls11.length P11,.slice ad13 ls13.length P13]) (Res.cM G22 0 Res.nil) ?_
 have hn0 : val l ≠ 0 := fun e => F7 (by have := (jX J1).2 e; omega)
 have J2_ := (Le3 y13 y15 y17).trans y22
 exact ⟨G22.upd,_,rfl,lS hn0 hd ⟨ls11,((hL11.mono J2_)).mono G22.le,hcan11,by rw [← hval9]; exact hval11⟩ (by rw [← hval9,← hval13,sS,if_neg (fun e => by have := (xY hL13.hlt hcan13).2 e; simp [this] at F21)]; exact ⟨ls13,((hL13.mono (Le3 y15 y17 y22))).mono G22.le,hcan13,rfl⟩)⟩
set_option maxHeartbeats 1000000
theorem zVr (w : World) (X : Hid) (hX : ∀ k o,X k o → k < w.heap.size) (a : Raw) (ad : Option Addr) (len cap : Nat) (h : zM (rd w X) ad len cap a.ln) (ad2 : Option Addr) (len2 P2 : Nat) (h2 : zM (rd w X) ad2 len2 P2 a.ld) : Calls Tryz.prog 52 #[.agg #[.bool a.neg,.slice ad len cap,.slice ad2 len2 P2]] w (Ret E0 w fun _ v => v = .int .i64 a.chk) := by
 obtain rfl := h.hlen
 obtain rfl := h2.hlen
 have hcap := h.hcap
 have hbig := h.hbig
 have hcap2 := h2.hcap
 have hbig2 := h2.hbig
 refine zen Tryz.func52 ?_
 have G0 : St E0 w X w X [] := St.start hX
 refine zz 2 ?_
 refine zn pn (.cells #[.bool a.neg,.slice ad a.ln.length cap,.slice ad2 a.ld.length P2] 28 (0,0)) G0 fun b3 w3 Y3 G3 y3 O3 => ?_
 refine zz 7 ?_
 refine zo 0 G3 ?_
 refine zz 3 ?_
 refine zt 7 (p := (a.ln.length : Int) > 128) (fun F4 => ?_) (fun F4 => ?_)
 refine zz 15 ?_
 refine zr' (v := .int .i64 4) ?_
 exact ⟨G3.upd,_,rfl,zO (zRd (by omega)).symm⟩
 refine zz 1 ?_
 refine zo 0 G3 ?_
 refine zz 5 ?_
 refine zt 12 (p := (a.ld.length : Int) > 128) (fun F5 => ?_) (fun F5 => ?_)
 refine zz 8 ?_
 refine zr' (v := .int .i64 4) ?_
 exact ⟨G3.upd,_,rfl,zO (zRd (by omega)).symm⟩
 have hlong : ¬ (128 < a.ln.length ∨ 128 < a.ld.length) := by omega
 refine zz 7 ?_
 refine zo 0 G3 ?_
 refine zc G3 (zLv _ X0 (qB _) _ _ _ a.ln ((h.mono y3).mono Le.x0)) ?_
 rintro v7 w7 G7 y7 O7 rfl
 refine zz 2 ?_
 refine zb 17 (b := ((jA a.ln) != 0)) (fun J8 => ?_) (fun J8 => ?_)
 have F9 : (jA a.ln) ≠ 0 := by simpa using J8
 refine zz 15 ?_
 refine zr' (v := .int .i64 2) ?_
 exact ⟨G7.upd,_,rfl,zO (nC hlong (.inl (by simpa using F9))).symm⟩
 have F10 : (jA a.ln) = 0 := by simpa using J8
 have cn : jA a.ln = 0 := by simpa using F10
 have hcn := (wY cn).2
 have hzn := jX hcn
 refine zz 1 ?_
 refine zo 0 G7 ?_
 refine zc G7 (zLv _ X0 (qB _) _ _ _ a.ld ((h2.mono (Le2 y3 y7)).mono Le.x0)) ?_
 rintro v12 w12 G12 y12 O12 rfl
 refine zz 4 ?_
 refine zb 22 (b := ((jA a.ld) != 0)) (fun J13 => ?_) (fun J13 => ?_)
 have F14 : (jA a.ld) ≠ 0 := by simpa using J13
 refine zz 8 ?_
 refine zr' (v := .int .i64 2) ?_
 exact ⟨G12.upd,_,rfl,zO (nC hlong (.inr (.inl (by simpa using F14)))).symm⟩
 have F15 : (jA a.ld) = 0 := by simpa using J13
 have cd : jA a.ld = 0 := by simpa using F15
 have hcd := (wY cd).2
 have hzd := jX hcd
 refine zz 5 ?_
 refine zdr G12 ?_
 refine gz [0] ?_
 refine gw 1 0 ?_
 refine gz [2,3,4] ?_
 refine gb 27 (b := ((a.ln.length : Int) == 0)) (fun J16 => ?_) (fun J16 => ?_)
 have F17 : (a.ln.length : Int) = 0 := by simpa using J16
 refine gz [5] ?_
 refine gw 6 0 ?_
 refine gz [7] ?_
 refine gb 30 (b := a.neg) (fun J18 => ?_) (fun J18 => ?_)
 have F19 : a.neg = true := by simpa using J18
 have un : a.neg = true := by simpa using F19
 refine gz [8,9,10,11,12,13,14,15,16,17,18,19] ?_
 refine xL (fun w20 Y20 G20 y20 => ?_)
 refine zz 9 ?_
 refine zr' (v := .int .i64 2) ?_
 exact ⟨G20.upd,_,rfl,zO (nC hlong (.inr (.inr (.inr ⟨by omega,.inl un⟩)))).symm⟩
 have F21 : a.neg = false := by simpa using J18
 have un : a.neg = false := by simpa using F21
 refine gz [8] ?_
 refine gw 9 0 ?_
 refine gz [10,11,12,13,14] ?_
 refine gt 37 (p := (a.ld.length : Int) > 0) (fun F22 => ?_) (fun F22 => ?_)
 refine gz [15,16,17,18,19] ?_
 refine xL (fun w23 Y23 G23 y23 => ?_)
 refine zz 9 ?_
 refine zr' (v := .int .i64 2) ?_
 exact ⟨G23.upd,_,rfl,zO (nC hlong (.inr (.inr (.inr ⟨by omega,.inr (by omega)⟩)))).symm⟩
 refine gz [15] ?_
 refine gw 16 0 ?_
 refine gC 17 (fun w24 Y24 _ G24 y24 => (zAd _ _ G24.lt)) ?_
 rintro v25 w24 Y25 w25 G24 y25 ⟨ad25,P25,rfl,hL25⟩
 have J1_ := (Le3 y3 y7 y12).trans y25
 refine gC 18 (fun w26 Y26 _ G26 y26 => (kR _ _ G26.lt _ _ _ _ (h2.mono (J1_.trans y26)) _ _ _ _ (hL25.mono y26))) ?_
 rintro v27 w26 Y27 w27 G26 y27 rfl
 refine gz [19] ?_
 refine xL (fun w28 Y28 G28 y28 => ?_)
 refine zz 1 ?_
 refine zb 42 (b := (decide (a.ld = [1]))) (fun J29 => ?_) (fun J29 => ?_)
 have F30 : a.ld = [1] := of_decide_eq_true J29
 have u1 : val a.ld = 1 := (xY h2.hlt hcd).1 (by simpa using F30)
 refine zz 8 ?_
 refine zr' (v := .int .i64 2) ?_
 exact ⟨G28.upd,_,rfl,zO (nC hlong (.inr (.inr (.inl u1)))).symm⟩
 have F31 : ¬ (a.ld = [1]) := of_decide_eq_false J29
 have u1 : val a.ld ≠ 1 := fun e => absurd ((xY h2.hlt hcd).2 e) (by simpa using F31)
 have hok : ¬ (jA a.ln ≠ 0 ∨ jA a.ld ≠ 0 ∨ val a.ld = 1 ∨ (val a.ln = 0 ∧ (a.neg = true ∨ 0 < val a.ld))) := by rintro (e | e | e | ⟨e,e2 | e2⟩); exact e cn; exact e cd; exact u1 e; (first | omega | (rw [un] at e2; cases e2)); omega
 refine zz 7 ?_
 refine zo 0 G28 ?_
 refine zz 3 ?_
 refine zt 47 (p := (a.ld.length : Int) > 0) (fun F32 => ?_) (fun F32 => ?_)
 have hdp : 0 < val a.ld := by omega
 refine zz 1 ?_
 refine zo 0 G28 ?_
 refine zz 1 ?_
 refine zo 0 G28 ?_
 have J2_ := (J1_.trans y27).trans y28
 refine zc G28 (zPp _ _ G28.lt _ _ _ a.ln (h.mono J2_) _ _ _ a.ld (h2.mono J2_) (by first | omega | (simp; done) | (simp; omega)) (by first | omega | (simp; done) | (simp; omega)) hcn hcd) ?_
 rintro v34 w34 G34 y34 O34 ⟨ad34,len34,P34,rfl,ls34,hL34,hcan34,hval34⟩
 obtain rfl := hL34.hlen
 refine zc G34 (zAd _ _ G34.lt) ?_
 rintro v36 w36 G36 y36 O36 ⟨ad36,P36,rfl,hL36⟩
 refine zc G36 (kR _ _ G36.lt _ _ _ _ (hL34.mono y36) _ _ _ _ hL36) ?_
 rintro v38 w38 G38 y38 O38 rfl
 refine zz 4 ?_
 refine zb 56 (b := !(decide (ls34 = [1]))) (fun J39 => ?_) (fun J39 => ?_)
 have F40 : ¬ (ls34 = [1]) := by simpa using J39
 have ug : Nat.gcd (val a.ln) (val a.ld) ≠ 1 := by rw [← hval34]; exact fun e => absurd ((xY hL34.hlt hcan34).2 e) (by simpa using F40)
 refine zz 8 ?_
 refine zr' (v := .int .i64 2) ?_
 exact ⟨G38.upd,_,rfl,zO (zRe hlong hok ⟨by omega,ug⟩).symm⟩
 have F41 : ls34 = [1] := by simpa using J39
 have ug : Nat.gcd (val a.ln) (val a.ld) = 1 := by rw [← hval34]; exact (xY hL34.hlt hcan34).1 (by simpa using F41)
 refine zz 9 ?_
 refine zr' (v := .int .i64 0) ?_
 exact ⟨G38.upd,_,rfl,zO (zAs hlong hok (fun hh => hh.2 ug)).symm⟩
 refine zz 20 ?_
 refine zr' (v := .int .i64 0) ?_
 exact ⟨G28.upd,_,rfl,zO (zAs hlong hok (fun hh => by omega)).symm⟩
 have F42 : (a.ln.length : Int) ≠ 0 := by simpa using J16
 refine gz [5,6,7,8,9,10,11,12,13,14,15] ?_
 refine gw 16 0 ?_
 refine gC 17 (fun w43 Y43 _ G43 y43 => (zAd _ _ G43.lt)) ?_
 rintro v44 w43 Y44 w44 G43 y44 ⟨ad44,P44,rfl,hL44⟩
 have J3_ := (Le3 y3 y7 y12).trans y44
 refine gC 18 (fun w45 Y45 _ G45 y45 => (kR _ _ G45.lt _ _ _ _ (h2.mono (J3_.trans y45)) _ _ _ _ (hL44.mono y45))) ?_
 rintro v46 w45 Y46 w46 G45 y46 rfl
 refine gz [19] ?_
 refine xL (fun w47 Y47 G47 y47 => ?_)
 refine zz 1 ?_
 refine zb 42 (b := (decide (a.ld = [1]))) (fun J48 => ?_) (fun J48 => ?_)
 have F49 : a.ld = [1] := of_decide_eq_true J48
 have u1 : val a.ld = 1 := (xY h2.hlt hcd).1 (by simpa using F49)
 refine zz 8 ?_
 refine zr' (v := .int .i64 2) ?_
 exact ⟨G47.upd,_,rfl,zO (nC hlong (.inr (.inr (.inl u1)))).symm⟩
 have F50 : ¬ (a.ld = [1]) := of_decide_eq_false J48
 have u1 : val a.ld ≠ 1 := fun e => absurd ((xY h2.hlt hcd).2 e) (by simpa using F50)
 have hok : ¬ (jA a.ln ≠ 0 ∨ jA a.ld ≠ 0 ∨ val a.ld = 1 ∨ (val a.ln = 0 ∧ (a.neg = true ∨ 0 < val a.ld))) := by rintro (e | e | e | ⟨e,e2 | e2⟩); exact e cn; exact e cd; exact u1 e; (first | omega | (rw [un] at e2; cases e2)); omega
 refine zz 7 ?_
 refine zo 0 G47 ?_
 refine zz 3 ?_
 refine zt 47 (p := (a.ld.length : Int) > 0) (fun F51 => ?_) (fun F51 => ?_)
 have hdp : 0 < val a.ld := by omega
 refine zz 1 ?_
 refine zo 0 G47 ?_
 refine zz 1 ?_
 refine zo 0 G47 ?_
 have J4_ := (J3_.trans y46).trans y47
 refine zc G47 (zPp _ _ G47.lt _ _ _ a.ln (h.mono J4_) _ _ _ a.ld (h2.mono J4_) (by first | omega | (simp; done) | (simp; omega)) (by first | omega | (simp; done) | (simp; omega)) hcn hcd) ?_
 rintro v53 w53 G53 y53 O53 ⟨ad53,len53,P53,rfl,ls53,hL53,hcan53,hval53⟩
 obtain rfl := hL53.hlen
 refine zc G53 (zAd _ _ G53.lt) ?_
 rintro v55 w55 G55 y55 O55 ⟨ad55,P55,rfl,hL55⟩
 refine zc G55 (kR _ _ G55.lt _ _ _ _ (hL53.mono y55) _ _ _ _ hL55) ?_
 rintro v57 w57 G57 y57 O57 rfl
 refine zz 4 ?_
 refine zb 56 (b := !(decide (ls53 = [1]))) (fun J58 => ?_) (fun J58 => ?_)
 have F59 : ¬ (ls53 = [1]) := by simpa using J58
 have ug : Nat.gcd (val a.ln) (val a.ld) ≠ 1 := by rw [← hval53]; exact fun e => absurd ((xY hL53.hlt hcan53).2 e) (by simpa using F59)
 refine zz 8 ?_
 refine zr' (v := .int .i64 2) ?_
 exact ⟨G57.upd,_,rfl,zO (zRe hlong hok ⟨by omega,ug⟩).symm⟩
 have F60 : ls53 = [1] := by simpa using J58
 have ug : Nat.gcd (val a.ln) (val a.ld) = 1 := by rw [← hval53]; exact (xY hL53.hlt hcan53).1 (by simpa using F60)
 refine zz 9 ?_
 refine zr' (v := .int .i64 0) ?_
 exact ⟨G57.upd,_,rfl,zO (zAs hlong hok (fun hh => hh.2 ug)).symm⟩
 refine zz 20 ?_
 refine zr' (v := .int .i64 0) ?_
 exact ⟨G47.upd,_,rfl,zO (zAs hlong hok (fun hh => by omega)).symm⟩
section
variable (w : World) (X : Hid) (hX : ∀ k o,X k o → k < w.heap.size)
set_option maxHeartbeats 1000000
include hX in
theorem zKy (ad : Option Addr) (len cap : Nat) (l : List Nat) (h : zM (rd w X) ad len cap l) (hm : len * 4 ≤ 140737488351232) : Calls Tryz.prog 149 #[.slice ad len cap] w (Ret E0 w fun w' v => ∃ ad len cap,v = .slice ad len cap ∧ zM (rd w' X) ad len cap l) := by
 obtain rfl := h.hlen
 have hcap := h.hcap
 have hbig := h.hbig
 refine zen Tryz.func149 ?_
 have G0 : St E0 w X w X [] := St.start hX
 refine zz 17 ?_
 refine zlp Tryz.f149 [] [1,1,0,1,0] (fun ((k,adr,capr) : Nat × (Option Addr) × Nat) => [(0,.slice ad l.length cap),(3,.slice adr k capr),(4,.int .i64 (k : Int))]) (fun (k,adr,capr) w1 => ∃ (Y1 : Hid) (rb1 : List (Nat × Obj)),St E0 w X w1 Y1 (rb1) ∧ Le (rd w X) (rd w1 Y1) ∧ (wI 195 1 rb1 adr k capr (U32 (l.take k))) ∧ (k ≤ l.length)) (fun (k,adr,capr) => l.length - k) (0,none,0) ?_ ?_
 refine ⟨_,[],G0,Le.refl _,wI.nil _ _,Nat.zero_le _⟩
 rintro ⟨k,adr,capr⟩ w2 K2 Z2 ⟨Y2,rb1,G2,y2,hp2_0,hp2_1⟩
 have hr1 := hp2_0
 have hkl := hp2_1
 refine zz 9 ?_
 refine zt 8 (p := (k : Int) < (l.length : Int)) (fun F3 => ?_) (fun F3 => ?_)
 obtain ⟨b1,off1,rfl,_⟩ := h.addr (by omega)
 have hx1 := getD_some (l := l) (k := k) (by omega)
 refine zz 9 ?_
 refine zi (b := b1) (off := off1) (len := l.length) (cap := cap) (kd := .i64) (i := (k : Int)) 1 (off1 + k) ?_
 refine zl ((h.cell (i := k) (by omega)).mono y2).cells ?_
 refine zn (fun b => .slice (some ⟨b,0,none⟩) 1 1) (.cells #[.int .u32 ((l.getD k 0 : Nat) : Int)] 195 (0,0)) G2 fun b5 w5 Y5 G5 y5 O5 => ?_
 refine zop (at1 [K2] Tryz.f149 [1,1,0,1,0,0,1,0,0]) 6 (fun a6 _ V6 hz6 => zEo (b := 4) (m := 1) (c := 1) (ad := ⟨b5,0,none⟩) (news := [.int .u32 ((l.getD k 0 : Nat) : Int)]) (i0 := Tryz.t195) (R1 := []) 1 V6 G5 rfl hr1 (G5.cells 0 rfl rfl) (by omega) (by omega) ?_)
 intro rb7 ad7 P7 w7 Y7 D7 G7 y7 a8 V8
 have hrw7 : wI 195 1 rb7 ad7 (k + 1) P7 (U32 (l.take k ++ [l.getD k 0])) := by rw [← zCk]; exact D7
 refine hz6 V8 ?_
 refine zz 7 ?_
 refine zw 10 (x := (k : Int) + 1) ?_
 refine zz 2 ?_
 refine yE (fun a h => Z2 ((k + 1,ad7,P7)) _ a h ⟨_,rb7,G7.tail,(Le3 y2 y5 y7),by rw [zAi hx1]; exact hrw7,by omega⟩ ?_)
 first | omega | (simp <;> omega)
 refine zz 13 ?_
 refine zr' (v := .slice adr k capr) ?_
 have hlt := h.hlt
 have htk : l.take k = l := List.take_of_length_le (by omega)
 rw [htk] at hr1
 obtain ⟨Yz,hSz,hlez,hRz⟩ := St.pubLimbs (A := []) (B := []) (fun rb => rb) G2 (fun _ => by simp) hr1 (by omega) hlt
 exact ⟨hSz.upd,_,rfl,_,_,_,rfl,hRz.mono hSz.le⟩
include hX in
theorem wB (ad : Option Addr) (len cap : Nat) (l : List Nat) (h : zM (rd w X) ad len cap l) (hm : len * 4 ≤ 140737488351232) : Calls Tryz.prog 99 #[.slice ad len cap] w (Ret E0 w fun w' v => ∃ ad len cap,v = .slice ad len cap ∧ zM (rd w' X) ad len cap l) := by
 obtain rfl := h.hlen
 have hcap := h.hcap
 have hbig := h.hbig
 refine zen Tryz.func99 ?_
 have G0 : St E0 w X w X [] := St.start hX
 refine zz 8 ?_
 refine zc G0 (zKy _ _ G0.lt _ _ _ _ h (by omega)) ?_
 rintro v3 w3 G3 y3 O3 ⟨ad3,len3,P3,rfl,hN3⟩
 refine zz 4 ?_
 refine zr' (v := .slice ad3 len3 P3) ?_
 exact ⟨G3.upd,_,rfl,_,_,_,rfl,hN3.mono G3.le⟩
include hX in
theorem zTs (a : Raw) (ad₁ : Option Addr) (len₁ cap₁ : Nat) (h₁ : zM (rd w X) ad₁ len₁ cap₁ a.ln) (ae₁ : Option Addr) (le₁ ce₁ : Nat) (k₁ : zM (rd w X) ae₁ le₁ ce₁ a.ld) (hm : len₁ * 4 ≤ 140737488351232) (hm2 : le₁ * 4 ≤ 140737488351232) : Calls Tryz.prog 51 #[.agg #[.bool a.neg,.slice ad₁ len₁ cap₁,.slice ae₁ le₁ ce₁]] w (Ret E0 w fun w' v => vP X w' v a) := by
 refine zen Tryz.func51 ?_
 have G0 : St E0 w X w X [] := St.start hX
 refine zz 2 ?_
 refine zn pn (.cells #[.bool a.neg,.slice ad₁ len₁ cap₁,.slice ae₁ le₁ ce₁] 28 (0,0)) G0 fun b3 w3 Y3 G3 y3 O3 => ?_
 refine zn pn (.cells #[.bool false,.slice none 0 0,.slice none 0 0] 28 (0,0)) G3 fun b5 w5 Y5 G5 y5 O5 => ?_
 refine zz 3 ?_
 refine zdr G5 ?_
 refine gz [0] ?_
 refine gw 1 1 ?_
 refine gz [2] ?_
 refine gw 3 1 ?_
 refine gz [5] ?_
 refine gw 6 1 ?_
 refine gC 4 (fun w6 Y6 _ G6 y6 => (wB _ _ G6.lt _ _ _ _ (h₁.mono (Le3 y3 y5 y6)) (by omega))) ?_
 rintro v7 w6 Y7 w7 G6 y7 ⟨ad7,len7,P7,rfl,hN7⟩
 have J1_ := (Le2 y3 y5).trans y7
 refine gC 7 (fun w8 Y8 _ G8 y8 => (wB _ _ G8.lt _ _ _ _ (k₁.mono (J1_.trans y8)) (by omega))) ?_
 rintro v9 w8 Y9 w9 G8 y9 ⟨ad9,len9,P9,rfl,hN9⟩
 refine gz [8] ?_
 refine gX 9 0 #[.bool a.neg,.slice ad7 len7 P7,.slice ad9 len9 P9] fun w10 Y10 y10 => ?_
 refine xL (fun w11 Y11 G11 y11 => ?_)
 refine zz 2 ?_
 refine zrS [.cell 2 28] (v := .agg #[.bool a.neg,.slice ad7 len7 P7,.slice ad9 len9 P9]) (Res.cM G11 0 Res.nil) ?_
 exact ⟨G11.upd,_,rfl,⟨_,_,_,_,_,_,rfl,(hN7.mono (Le3 y9 y10 y11)).mono G11.le,(hN9.mono (Le2 y10 y11)).mono G11.le⟩⟩
end
set_option maxHeartbeats 1000000
theorem zEz {l l2 l3 : List Nat} (k : Nat) (hc : zV l3) (h : val l3 = val l * val l2) (h1 : ∀ x ∈ l,x < 4294967296) (h2 : ∀ x ∈ l2,x < 4294967296) (k1 : l.length ≤ k) (k2 : l2.length ≤ k) : l3.length ≤ k + k :=
 sO hc (by rw [h,Nat.pow_add]; exact Nat.mul_lt_mul'' (Nat.lt_of_lt_of_le (yD h1) (Nat.pow_le_pow_right (by omega) k1)) (Nat.lt_of_lt_of_le (yD h2) (Nat.pow_le_pow_right (by omega) k2)))
def Vr (a : Raw) : Prop := zV a.ln ∧ zV a.ld ∧ a.ln.length ≤ 1000 ∧ a.ld.length ≤ 1000
theorem qAd (w : World) (X : Hid) (hX : ∀ k o,X k o → k < w.heap.size) (ad : Option Addr) (len cap : Nat) (l : List Nat) (h : zM (rd w X) ad len cap l) (ad2 : Option Addr) (len2 P2 : Nat) (l2 : List Nat) (h2 : zM (rd w X) ad2 len2 P2 l2) (sg : Bool) (hm : len ≤ 100000) (hm2 : len2 ≤ 100000) (J1 : zV l) (J2 : zV l2) (hd : 0 < val l2) (z : Rat) (hz : mkRat (sgn sg (val l)) (val l2) = z) : Calls Tryz.prog 153 #[.bool sg,.slice ad len cap,.slice ad2 len2 P2] w (Ret E0 w fun w' v => bV X w' v z) := by
 subst hz; exact qRu w X hX ad len cap l h ad2 len2 P2 l2 h2 sg hm hm2 J1 J2 hd
theorem zBx {l : List Nat} (h : ∀ x ∈ l,x < 4294967296) : ∀ x ∈ aA l,x < 4294967296 := by unfold aA; split; (intro x hx; simp at hx; omega); exact h
set_option maxHeartbeats 1000000
theorem zIl {l l2 l3 : List Nat} (k : Nat) (hc : zV l3) (h : val l3 ≤ val l + val l2) (h1 : ∀ x ∈ l,x < 4294967296) (h2 : ∀ x ∈ l2,x < 4294967296) (k1 : l.length ≤ k) (k2 : l2.length ≤ k) : l3.length ≤ k + 1 :=
 sO hc (by
  have e1 := Nat.lt_of_lt_of_le (yD h1) (Nat.pow_le_pow_right (by omega) k1)
  have e2 := Nat.lt_of_lt_of_le (yD h2) (Nat.pow_le_pow_right (by omega) k2)
  rw [Nat.pow_succ]; omega)
theorem zOk (s : Bool) (n d : Nat) : sgn s n * (d : Int) = sgn s (n * d) := by cases s <;> simp [sgn,Int.neg_mul]
theorem zFd (a b : Raw) {z : Int} (h : sgn a.neg (val a.ln * b.d) + sgn b.neg (val b.ln * a.d) = z) : mkRat z (a.d * b.d) = a.rat + b.rat := by
 have h1 := Raw.d_pos a
 have h2 := Raw.d_pos b
 unfold Raw.rat; rw [Rat.mkRat_add_mkRat _ _ (by omega) (by omega),zOk,zOk,h]
theorem qHj {s t : Bool} {p q : Nat} (h : s = t) : sgn s p + sgn t q = sgn s (p + q) := by subst h; cases s <;> simp [sgn] <;> omega
theorem qHk {s t : Bool} {p q : Nat} (h : s ≠ t) (k : q ≤ p) : sgn s p + sgn t q = sgn s (p - q) := by cases s <;> cases t <;> simp [sgn] at * <;> omega
theorem qHl {s t : Bool} {p q : Nat} (h : s ≠ t) (k : p < q) : sgn s p + sgn t q = sgn t (q - p) := by cases s <;> cases t <;> simp [sgn] at * <;> omega
theorem qHd (w : World) (X : Hid) (hX : ∀ k o,X k o → k < w.heap.size) (a : Raw) (ad₁ : Option Addr) (len₁ cap₁ : Nat) (h₁ : zM (rd w X) ad₁ len₁ cap₁ a.ln) (ae₁ : Option Addr) (le₁ ce₁ : Nat) (k₁ : zM (rd w X) ae₁ le₁ ce₁ a.ld) (b : Raw) (ad₂ : Option Addr) (len₂ cap₂ : Nat) (h₂ : zM (rd w X) ad₂ len₂ cap₂ b.ln) (ae₂ : Option Addr) (le₂ ce₂ : Nat) (k₂ : zM (rd w X) ae₂ le₂ ce₂ b.ld) (va : Vr a) (vb : Vr b) : Calls Tryz.prog 103 #[.agg #[.bool a.neg,.slice ad₁ len₁ cap₁,.slice ae₁ le₁ ce₁],.agg #[.bool b.neg,.slice ad₂ len₂ cap₂,.slice ae₂ le₂ ce₂]] w (Ret E0 w fun w' v => bV X w' v (a.rat + b.rat)) := by
 refine zen Tryz.func103 ?_
 have G0 : St E0 w X w X [] := St.start hX
 obtain ⟨hca,hda,hla,hma⟩ := va
 obtain ⟨hcb,hdb,hlb,hmb⟩ := vb
 have lh₁ := h₁.hlen
 have lk₁ := k₁.hlen
 have lh₂ := h₂.hlen
 have lk₂ := k₂.hlen
 have dla := zRg hma (by omega)
 have dva := zMb a hda
 have dpa := Raw.d_pos a
 have dlb := zRg hmb (by omega)
 have dvb := zMb b hdb
 have dpb := Raw.d_pos b
 refine zz 2 ?_
 refine zn pn (.cells #[.bool a.neg,.slice ad₁ len₁ cap₁,.slice ae₁ le₁ ce₁] 28 (0,0)) G0 fun b3 w3 Y3 G3 y3 O3 => ?_
 refine zn pn (.cells #[.bool b.neg,.slice ad₂ len₂ cap₂,.slice ae₂ le₂ ce₂] 28 (0,0)) G3 fun b5 w5 Y5 G5 y5 O5 => ?_
 refine zn pn (.cells #[.bool false,.slice none 0 0,.slice none 0 0] 28 (0,0)) G5 fun b7 w7 Y7 G7 y7 O7 => ?_
 refine zz 3 ?_
 refine zdr G7 ?_
 refine gz [0] ?_
 refine gw 1 2 ?_
 refine gw 2 1 ?_
 have J1_ := (Le2 y3 y5).trans y7
 refine gC 3 (fun w8 Y8 _ G8 y8 => (zIw _ _ G8.lt b _ _ _ (h₂.mono (J1_.trans y8)) _ _ _ (k₂.mono (J1_.trans y8)))) ?_
 rintro v9 w8 Y9 w9 G8 y9 ⟨ad9,len9,P9,rfl,hL9⟩
 obtain rfl := hL9.hlen
 have J2_ := J1_.trans y9
 refine gC 4 (fun w10 Y10 _ G10 y10 => (zKe _ _ G10.lt _ _ _ a.ln (h₁.mono (J2_.trans y10)) _ _ _ (aA b.ld) (hL9.mono y10) (by first | omega | (simp; done) | (simp; omega)) (by first | omega | (simp; done) | (simp; omega)))) ?_
 rintro v11 w10 Y11 w11 G10 y11 ⟨ad11,len11,P11,rfl,ls11,hL11,hcan11,hval11⟩
 have hlen11 := hL11.hlen
 have pl11 := zEz 1000 hcan11 hval11 h₁.hlt (zBx k₂.hlt) hla dlb
 rw [dvb] at hval11
 refine gz [5] ?_
 refine xL (fun w12 Y12 G12 y12 => ?_)
 refine zz 2 ?_
 refine zdr G12 ?_
 refine gz [0] ?_
 refine gw 1 1 ?_
 refine gw 2 2 ?_
 have J3_ := (J2_.trans y11).trans y12
 refine gC 3 (fun w13 Y13 _ G13 y13 => (zIw _ _ G13.lt a _ _ _ (h₁.mono (J3_.trans y13)) _ _ _ (k₁.mono (J3_.trans y13)))) ?_
 rintro v14 w13 Y14 w14 G13 y14 ⟨ad14,len14,P14,rfl,hL14⟩
 obtain rfl := hL14.hlen
 have J4_ := J3_.trans y14
 refine gC 4 (fun w15 Y15 _ G15 y15 => (zKe _ _ G15.lt _ _ _ b.ln (h₂.mono (J4_.trans y15)) _ _ _ (aA a.ld) (hL14.mono y15) (by first | omega | (simp; done) | (simp; omega)) (by first | omega | (simp; done) | (simp; omega)))) ?_
 rintro v16 w15 Y16 w16 G15 y16 ⟨ad16,len16,P16,rfl,ls16,hL16,hcan16,hval16⟩
 have hlen16 := hL16.hlen
 have pl16 := zEz 1000 hcan16 hval16 h₂.hlt (zBx k₁.hlt) hlb dla
 rw [dva] at hval16
 refine gz [5] ?_
 refine xL (fun w17 Y17 G17 y17 => ?_)
 refine zz 2 ?_
 refine zdr G17 ?_
 refine gw 0 2 ?_
 refine gw 2 1 ?_
 have J5_ := (J4_.trans y16).trans y17
 refine gC 1 (fun w18 Y18 _ G18 y18 => (zIw _ _ G18.lt a _ _ _ (h₁.mono (J5_.trans y18)) _ _ _ (k₁.mono (J5_.trans y18)))) ?_
 rintro v19 w18 Y19 w19 G18 y19 ⟨ad19,len19,P19,rfl,hL19⟩
 obtain rfl := hL19.hlen
 have J6_ := J5_.trans y19
 refine gC 3 (fun w20 Y20 _ G20 y20 => (zIw _ _ G20.lt b _ _ _ (h₂.mono (J6_.trans y20)) _ _ _ (k₂.mono (J6_.trans y20)))) ?_
 rintro v21 w20 Y21 w21 G20 y21 ⟨ad21,len21,P21,rfl,hL21⟩
 obtain rfl := hL21.hlen
 refine gC 4 (fun w22 Y22 _ G22 y22 => (zKe _ _ G22.lt _ _ _ (aA a.ld) (hL19.mono (Le2 y21 y22)) _ _ _ (aA b.ld) (hL21.mono y22) (by first | omega | (simp; done) | (simp; omega)) (by first | omega | (simp; done) | (simp; omega)))) ?_
 rintro v23 w22 Y23 w23 G22 y23 ⟨ad23,len23,P23,rfl,ls23,hL23,hcan23,hval23⟩
 have hlen23 := hL23.hlen
 have pl23 := zEz 1000 hcan23 hval23 (zBx k₁.hlt) (zBx k₂.hlt) dla dlb
 rw [dva,dvb] at hval23
 refine gz [5] ?_
 refine xL (fun w24 Y24 G24 y24 => ?_)
 refine zz 5 ?_
 refine zo 2 G24 ?_
 refine zz 1 ?_
 refine zo 1 G24 ?_
 refine zz 3 ?_
 refine zb 27 (b := (a.neg == b.neg)) (fun J25 => ?_) (fun J25 => ?_)
 have F26 : a.neg = b.neg := by simpa using J25
 have hne : a.neg = b.neg := by simpa using F26
 refine zz 2 ?_
 refine zdr G24 ?_
 refine gz [0] ?_
 refine gw 1 2 ?_
 refine gz [2,3,5] ?_
 have J7_ := (Le7 y12 y14 y16 y17 y19 y21 y23).trans y24
 have J8_ := (Le4 y17 y19 y21 y23).trans y24
 refine gC 4 (fun w27 Y27 _ G27 y27 => (zQr _ _ G27.lt _ _ _ ls11 (hL11.mono (J7_.trans y27)) _ _ _ ls16 (hL16.mono (J8_.trans y27)) (by first | omega | (simp; done) | (simp; omega)) (by first | omega | (simp; done) | (simp; omega)))) ?_
 rintro v28 w27 Y28 w28 G27 y28 ⟨ad28,len28,P28,rfl,ls28,hL28,hcan28,hval28⟩
 have hlen28 := hL28.hlen
 have pl28 := zIl 2000 hcan28 (by omega) hL11.hlt hL16.hlt pl11 pl16
 refine gC 6 (fun w29 Y29 _ G29 y29 => (qAd _ _ G29.lt _ _ _ ls28 (hL28.mono y29) _ _ _ ls23 (hL23.mono (Le3 y24 y28 y29)) _ (by omega) (by omega) hcan28 hcan23 (by rw [hval23]; exact Nat.mul_pos dpa dpb) (a.rat + b.rat) (by rw [hval28,hval11,hval16,hval23]; exact zFd a b (qHj hne)))) ?_
 rintro v30 w29 Y30 w30 G29 y30 ⟨ad30,len30,P30,ae30,le30,ce30,rfl,hN30,hD30⟩
 refine gX 7 0 #[.bool (decide ((a.rat + b.rat).num < 0)),.slice ad30 len30 P30,.slice ae30 le30 ce30] fun w31 Y31 y31 => ?_
 refine xL (fun w32 Y32 G32 y32 => ?_)
 refine zz 3 ?_
 refine zrS [.cell 4 28] (v := .agg #[.bool (decide ((a.rat + b.rat).num < 0)),.slice ad30 len30 P30,.slice ae30 le30 ce30]) (Res.cM G32 0 Res.nil) ?_
 exact ⟨G32.upd,_,rfl,_,_,_,_,_,_,rfl,hN30.mono (Le.trans (Le2 y31 y32) G32.le),hD30.mono (Le.trans (Le2 y31 y32) G32.le)⟩
 have F33 : a.neg ≠ b.neg := by simpa using J25
 have hne : a.neg ≠ b.neg := by simpa using F33
 refine zz 8 ?_
 have J9_ := (Le7 y12 y14 y16 y17 y19 y21 y23).trans y24
 have J10_ := (Le4 y17 y19 y21 y23).trans y24
 refine zc G24 (zEs _ _ G24.lt _ _ _ ls11 (hL11.mono J9_) _ _ _ ls16 (hL16.mono J10_) (by first | omega | (simp; done) | (simp; omega)) (by first | omega | (simp; done) | (simp; omega))) ?_
 rintro v35 w35 G35 y35 O35 rfl
 refine zz 3 ?_
 refine zt 38 (p := (qI (val ls11) (val ls16)) ≥ 0) (fun F36 => ?_) (fun F36 => ?_)
 have hcmp := lF F36
 refine zz 2 ?_
 refine zdr G35 ?_
 refine gz [0] ?_
 refine gw 1 2 ?_
 refine gz [2,3,5] ?_
 have J11_ := J9_.trans y35
 have J12_ := J10_.trans y35
 refine gC 4 (fun w37 Y37 _ G37 y37 => (zBy _ _ G37.lt _ _ _ ls11 (hL11.mono (J11_.trans y37)) _ _ _ ls16 (hL16.mono (J12_.trans y37)) (by first | omega | (simp; done) | (simp; omega)) (qA hL11.hlt hcan16 (by omega)) (by omega))) ?_
 rintro v38 w37 Y38 w38 G37 y38 ⟨ad38,len38,P38,rfl,ls38,hL38,hcan38,hval38⟩
 have hlen38 := hL38.hlen
 have pl38 := zIl 2000 hcan38 (by omega) hL11.hlt hL16.hlt pl11 pl16
 have J13_ := (Le2 y24 y35).trans y38
 refine gC 6 (fun w39 Y39 _ G39 y39 => (qAd _ _ G39.lt _ _ _ ls38 (hL38.mono y39) _ _ _ ls23 (hL23.mono (J13_.trans y39)) _ (by omega) (by omega) hcan38 hcan23 (by rw [hval23]; exact Nat.mul_pos dpa dpb) (a.rat + b.rat) (by rw [hval38,hval11,hval16,hval23]; exact zFd a b (qHk hne (by rw [← hval11,← hval16]; exact hcmp))))) ?_
 rintro v40 w39 Y40 w40 G39 y40 ⟨ad40,len40,P40,ae40,le40,ce40,rfl,hN40,hD40⟩
 refine gX 7 0 #[.bool (decide ((a.rat + b.rat).num < 0)),.slice ad40 len40 P40,.slice ae40 le40 ce40] fun w41 Y41 y41 => ?_
 refine xL (fun w42 Y42 G42 y42 => ?_)
 refine zz 3 ?_
 refine zrS [.cell 4 28] (v := .agg #[.bool (decide ((a.rat + b.rat).num < 0)),.slice ad40 len40 P40,.slice ae40 le40 ce40]) (Res.cM G42 0 Res.nil) ?_
 exact ⟨G42.upd,_,rfl,_,_,_,_,_,_,rfl,hN40.mono (Le.trans (Le2 y41 y42) G42.le),hD40.mono (Le.trans (Le2 y41 y42) G42.le)⟩
 have hcmp := sQ F36
 refine zz 4 ?_
 refine zdr G35 ?_
 refine gz [0] ?_
 refine gw 1 1 ?_
 refine gz [2,3,5] ?_
 have J14_ := J10_.trans y35
 have J15_ := J9_.trans y35
 refine gC 4 (fun w43 Y43 _ G43 y43 => (zBy _ _ G43.lt _ _ _ ls16 (hL16.mono (J14_.trans y43)) _ _ _ ls11 (hL11.mono (J15_.trans y43)) (by first | omega | (simp; done) | (simp; omega)) (qA hL16.hlt hcan11 (by omega)) (by omega))) ?_
 rintro v44 w43 Y44 w44 G43 y44 ⟨ad44,len44,P44,rfl,ls44,hL44,hcan44,hval44⟩
 have hlen44 := hL44.hlen
 have pl44 := zIl 2000 hcan44 (by omega) hL16.hlt hL11.hlt pl16 pl11
 have J16_ := (Le2 y24 y35).trans y44
 refine gC 6 (fun w45 Y45 _ G45 y45 => (qAd _ _ G45.lt _ _ _ ls44 (hL44.mono y45) _ _ _ ls23 (hL23.mono (J16_.trans y45)) _ (by omega) (by omega) hcan44 hcan23 (by rw [hval23]; exact Nat.mul_pos dpa dpb) (a.rat + b.rat) (by rw [hval44,hval11,hval16,hval23]; exact zFd a b (qHl hne (by rw [← hval11,← hval16]; exact hcmp))))) ?_
 rintro v46 w45 Y46 w46 G45 y46 ⟨ad46,len46,P46,ae46,le46,ce46,rfl,hN46,hD46⟩
 refine gX 7 0 #[.bool (decide ((a.rat + b.rat).num < 0)),.slice ad46 len46 P46,.slice ae46 le46 ce46] fun w47 Y47 y47 => ?_
 refine xL (fun w48 Y48 G48 y48 => ?_)
 refine zz 2 ?_
 refine zrS [.cell 4 28] (v := .agg #[.bool (decide ((a.rat + b.rat).num < 0)),.slice ad46 len46 P46,.slice ae46 le46 ce46]) (Res.cM G48 0 Res.nil) ?_
 exact ⟨G48.upd,_,rfl,_,_,_,_,_,_,rfl,hN46.mono (Le.trans (Le2 y47 y48) G48.le),hD46.mono (Le.trans (Le2 y47 y48) G48.le)⟩
set_option maxHeartbeats 1000000
def nQ (a : Raw) : Raw := ⟨!a.neg && decide (0 < a.ln.length),a.ln,a.ld⟩
theorem aggB {x y : Bool} {u v : Value} (h : x = y) : Value.agg #[.bool x,u,v] = .agg #[.bool y,u,v] := h ▸ rfl
theorem qAa (w : World) (X : Hid) (hX : ∀ k o,X k o → k < w.heap.size) (a : Raw) (ad₁ : Option Addr) (len₁ cap₁ : Nat) (h₁ : zM (rd w X) ad₁ len₁ cap₁ a.ln) (ae₁ : Option Addr) (le₁ ce₁ : Nat) (k₁ : zM (rd w X) ae₁ le₁ ce₁ a.ld) (hm : len₁ ≤ 1048576) (hm2 : le₁ ≤ 1048576) : Calls Tryz.prog 104 #[.agg #[.bool a.neg,.slice ad₁ len₁ cap₁,.slice ae₁ le₁ ce₁]] w (Ret E0 w fun w' v => vP X w' v (nQ a)) := by
 have hq := h₁.hlen
 refine zen Tryz.func104 ?_
 have G0 : St E0 w X w X [] := St.start hX
 refine zz 2 ?_
 refine zn pn (.cells #[.bool a.neg,.slice ad₁ len₁ cap₁,.slice ae₁ le₁ ce₁] 28 (0,0)) G0 fun b3 w3 Y3 G3 y3 O3 => ?_
 refine zn pn (.cells #[.bool false,.slice none 0 0,.slice none 0 0] 28 (0,0)) G3 fun b5 w5 Y5 G5 y5 O5 => ?_
 refine zz 3 ?_
 refine zdr G5 ?_
 refine gz [0] ?_
 refine gw 1 1 ?_
 refine gz [2,3] ?_
 refine gb 6 (b := !a.neg) (fun J6 => ?_) (fun J6 => ?_)
 have F7 : a.neg = false := by simpa using J6
 refine gz [4] ?_
 refine gw 5 1 ?_
 refine gz [6,7,8,9] ?_
 refine gw 10 1 ?_
 refine gz [12] ?_
 refine gw 13 1 ?_
 refine gC 11 (fun w8 Y8 _ G8 y8 => (wB _ _ G8.lt _ _ _ _ (h₁.mono (Le3 y3 y5 y8)) (by omega))) ?_
 rintro v9 w8 Y9 w9 G8 y9 ⟨ad9,len9,P9,rfl,hN9⟩
 have J1_ := (Le2 y3 y5).trans y9
 refine gC 14 (fun w10 Y10 _ G10 y10 => (wB _ _ G10.lt _ _ _ _ (k₁.mono (J1_.trans y10)) (by omega))) ?_
 rintro v11 w10 Y11 w11 G10 y11 ⟨ad11,len11,P11,rfl,hN11⟩
 refine gz [15] ?_
 refine gX 16 0 #[.bool (decide ((len₁ : Int) > 0)),.slice ad9 len9 P9,.slice ad11 len11 P11] fun w12 Y12 y12 => ?_
 refine xL (fun w13 Y13 G13 y13 => ?_)
 refine zz 2 ?_
 refine zrS [.cell 2 28] (v := .agg #[.bool (decide ((len₁ : Int) > 0)),.slice ad9 len9 P9,.slice ad11 len11 P11]) (Res.cM G13 0 Res.nil) ?_
 exact ⟨G13.upd,_,rfl,_,_,_,_,_,_,aggB (by simp_all [nQ]),((hN9.mono (Le3 y11 y12 y13))).mono G13.le,((hN11.mono (Le2 y12 y13))).mono G13.le⟩
 have F14 : a.neg = true := by simpa using J6
 refine gz [4,5,6,7,8,9] ?_
 refine gw 10 1 ?_
 refine gz [12] ?_
 refine gw 13 1 ?_
 refine gC 11 (fun w15 Y15 _ G15 y15 => (wB _ _ G15.lt _ _ _ _ (h₁.mono (Le3 y3 y5 y15)) (by omega))) ?_
 rintro v16 w15 Y16 w16 G15 y16 ⟨ad16,len16,P16,rfl,hN16⟩
 have J2_ := (Le2 y3 y5).trans y16
 refine gC 14 (fun w17 Y17 _ G17 y17 => (wB _ _ G17.lt _ _ _ _ (k₁.mono (J2_.trans y17)) (by omega))) ?_
 rintro v18 w17 Y18 w18 G17 y18 ⟨ad18,len18,P18,rfl,hN18⟩
 refine gz [15] ?_
 refine gX 16 0 #[.bool false,.slice ad16 len16 P16,.slice ad18 len18 P18] fun w19 Y19 y19 => ?_
 refine xL (fun w20 Y20 G20 y20 => ?_)
 refine zz 2 ?_
 refine zrS [.cell 2 28] (v := .agg #[.bool false,.slice ad16 len16 P16,.slice ad18 len18 P18]) (Res.cM G20 0 Res.nil) ?_
 exact ⟨G20.upd,_,rfl,_,_,_,_,_,_,aggB (by simp_all [nQ]),((hN16.mono (Le3 y18 y19 y20))).mono G20.le,((hN18.mono (Le2 y19 y20))).mono G20.le⟩
set_option maxHeartbeats 1000000
theorem qJb {a : Raw} (h : a.chk = 0) : Vr a := by
 obtain ⟨h1,h2,h3,h4,_⟩ := Raw.chk_ok h
 exact ⟨h3,h4,by omega,by omega⟩
theorem zVq {z : Rat} (h : z.num.natAbs < jK ∧ sS z.den < jK) : zNx z = 0 := if_pos h
theorem lV {b : Raw} (h : zV b.ln) : (nQ b).rat = - b.rat := by
 have h1 := jX h
 show mkRat (sgn (!b.neg && decide (0 < b.ln.length)) (val b.ln)) b.d = - mkRat (sgn b.neg (val b.ln)) b.d
 rw [Rat.neg_mkRat]
 by_cases h0 : b.ln.length = 0
 ·rw [h1.1 h0]; cases b.neg <;> simp [sgn]
 ·rw [show decide (0 < b.ln.length) = true from decide_eq_true (by omega),Bool.and_true,zKk]
theorem zNg {x : Rat} : x.num < 0 ↔ x < 0 := by
 rw [Rat.lt_iff,show (0 : Rat).num = 0 from rfl,show (0 : Rat).den = 1 from rfl]; omega
theorem zXv {x y : Rat} (h : (x + - y).num < 0) : vE x y = -1 := by
 have h1 : x + - y < 0 := zNg.1 h
 have h2 : x < y := by grind
 have h3 : x ≠ y := by grind
 rw [vE,if_neg h3,if_pos h2]
theorem zXw {x y : Rat} (h : ¬ (x + - y).num < 0) (h' : (x + - y).num.natAbs ≠ 0) : vE x y = 1 := by
 have h1 : ¬ x + - y < 0 := fun e => h (zNg.2 e)
 have h0 : x + - y ≠ 0 := fun e => h' (by rw [e]; rfl)
 have h2 : ¬ x < y := by grind
 have h3 : x ≠ y := by grind
 rw [vE,if_neg h3,if_neg h2]
theorem zUg {x y : Rat} (h' : (x + - y).num.natAbs = 0) : vE x y = 0 := by
 have h0 : x + - y = 0 := Rat.num_eq_zero.1 (by omega)
 have h3 : x = y := by grind
 rw [vE,if_pos h3]
theorem qBj (w : World) (X : Hid) (hX : ∀ k o,X k o → k < w.heap.size) (a : Raw) (ad₁ : Option Addr) (len₁ cap₁ : Nat) (h₁ : zM (rd w X) ad₁ len₁ cap₁ a.ln) (ae₁ : Option Addr) (le₁ ce₁ : Nat) (k₁ : zM (rd w X) ae₁ le₁ ce₁ a.ld) (b : Raw) (ad₂ : Option Addr) (len₂ cap₂ : Nat) (h₂ : zM (rd w X) ad₂ len₂ cap₂ b.ln) (ae₂ : Option Addr) (le₂ ce₂ : Nat) (k₂ : zM (rd w X) ae₂ le₂ ce₂ b.ld) (hva : Vr a) (hvb : Vr b) : Calls Tryz.prog 53 #[.agg #[.bool a.neg,.slice ad₁ len₁ cap₁,.slice ae₁ le₁ ce₁],.agg #[.bool b.neg,.slice ad₂ len₂ cap₂,.slice ae₂ le₂ ce₂]] w (Ret E0 w fun _ v => v = .int .i64 (vE a.rat b.rat)) := by
 refine zen Tryz.func53 ?_
 have G0 : St E0 w X w X [] := St.start hX
 have lh₁ := h₁.hlen
 have lk₁ := k₁.hlen
 have lh₂ := h₂.hlen
 have lk₂ := k₂.hlen
 refine zz 2 ?_
 refine zn pn (.cells #[.bool a.neg,.slice ad₁ len₁ cap₁,.slice ae₁ le₁ ce₁] 28 (0,0)) G0 fun b3 w3 Y3 G3 y3 O3 => ?_
 refine zn pn (.cells #[.bool b.neg,.slice ad₂ len₂ cap₂,.slice ae₂ le₂ ce₂] 28 (0,0)) G3 fun b5 w5 Y5 G5 y5 O5 => ?_
 refine zz 4 ?_
 refine zdr G5 ?_
 refine gw 0 1 ?_
 refine gw 1 0 ?_
 refine gp (al 4 5 pn (.cells #[.bool false,.slice none 0 0,.slice none 0 0] 28 (0,0))) ?_
 refine gC 2 (fun w6 Y6 _ G6 y6 => (qAa _ _ G6.lt b _ _ _ (h₂.mono (Le3 y3 y5 y6)) _ _ _ (k₂.mono (Le3 y3 y5 y6)) (by have := hvb.2.2; omega) (by have := hvb.2.2; omega))) ?_ (hPd := yI.nil.k)
 rintro v7 w6 Y7 w7 G6 y7 ⟨ad7,len7,P7,ae7,le7,ce7,rfl,hN7,hD7⟩
 have J1_ := (Le2 y3 y5).trans y7
 refine gC 3 (fun w8 Y8 _ G8 y8 => (qHd _ _ G8.lt a _ _ _ (h₁.mono (J1_.trans y8)) _ _ _ (k₁.mono (J1_.trans y8)) (nQ b) _ _ _ (hN7.mono y8) _ _ _ (hD7.mono y8) hva (show Vr (nQ b) from hvb))) ?_ (hPd := yI.nil.k)
 rintro v9 w8 Y9 w9 G8 y9 ⟨ad9,len9,P9,ae9,le9,ce9,rfl,hN9,hD9⟩
 refine gs1 (fun b10 => ?_) yI.nil.k
 refine gX 5 0 #[.bool (decide ((a.rat + (nQ b).rat).num < 0)),.slice ad9 len9 P9,.slice ae9 le9 ce9] fun w11 Y11 y11 => ?_
 refine xL (fun w12 Y12 G12 y12 => ?_)
 refine zz 5 ?_
 refine zo 0 G12 ?_
 refine zz 2 ?_
 refine zt 11 (p := (a.rat + (nQ b).rat).num < 0) (fun F13 => ?_) (fun F13 => ?_)
 rw [lV hvb.1] at F13
 refine zz 8 ?_
 refine zr' (v := .int .i64 (-1)) ?_
 exact ⟨G12.upd,_,rfl,zO (zXv F13).symm⟩
 rw [lV hvb.1] at F13
 refine zz 7 ?_
 refine zo 0 G12 ?_
 refine zz 4 ?_
 refine zt 15 (p := (len9 : Int) > 0) (fun F14 => ?_) (fun F14 => ?_)
 have hl0 := hN9.len0
 rw [lV hvb.1] at hl0
 refine zz 8 ?_
 refine zr' (v := .int .i64 1) ?_
 exact ⟨G12.upd,_,rfl,zO (zXw F13 (fun e => by have := hl0.2 e; omega)).symm⟩
 have hl0 := hN9.len0
 rw [lV hvb.1] at hl0
 refine zz 9 ?_
 refine zr' (v := .int .i64 0) ?_
 exact ⟨G12.upd,_,rfl,zO (zUg (hl0.1 (by omega))).symm⟩
set_option maxHeartbeats 1000000
def Nf (r : Raw) : Prop := r = .of r.rat ∧ zNx r.rat = 0
theorem Nf.zero : Nf .zero := by
 unfold Nf; rw [zWd]; exact ⟨by decide,zVq ⟨Nat.pow_pos (by omega),by show 0 < _; exact Nat.pow_pos (by omega)⟩⟩
theorem Nf.op {a b : Raw} {z : Rat} (h : opE a b z = 0) : Nf (opR a b z) := by
 have h1 : opR a b z = .of z := if_pos h
 rw [h1,Nf,Raw.of_rat]; exact ⟨rfl,(rF h).2⟩
theorem Nf.chk {r : Raw} (h : Nf r) : r.chk = 0 := by rw [h.1]; exact Raw.of_chk h.2
section
variable {r x y : Raw} {xs ys : List Raw} {k : Nat}
end
end Go.Proofs.YtfijdjigiapnbaaGreatDoor

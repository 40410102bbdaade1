import Derived.Test.YtjnbipmlmafahaaGreatBaseA
import Derived.Test.YtjnbipmlmafahaaGreatBaseB
import Derived.Test.YtjnbipmlmafahaaGreatBaseC
import Derived.Test.YtjnbipmlmafahaaGreatBaseD
import Derived.Test.YtjnbipmlmafahaaGreatBaseE
set_option linter.unusedVariables false
set_option linter.unusedSimpArgs false
set_option linter.unnecessarySimpa false
namespace Go.Proofs.YtjnbipmlmafahaaGreat
open Go Go.Gv Go.RowKit IntKind
set_option maxRecDepth 100000
section
variable (w : World) (X : Hid) (hX : ∀ k o,X k o → k < w.heap.size)
set_option maxHeartbeats 1000000
noncomputable def jP (x7 : List Int) (J12 : Option (Int)) : List Int → Nat → Option (Int)
 | [],k14 => J12
 | x14 :: r14,k14 => if (x14) < (-1073741824) then (some 1) else (if (x14) > 1073741824 then (some 1) else (if (k14 : Int) > 0 then ((ix x7 (i64.wrap ((k14 : Int) - 1))).bind fun x20 => if (x14) ≤ x20 then (some 1) else (jP x7 J12 r14 (k14 + 1))) else (jP x7 J12 r14 (k14 + 1))))
noncomputable def xI (J4 : Int → Option (Int)) : List (List Int) → Int → Option (Int)
 | [],v7_0 => J4 v7_0
 | x7 :: r7,v7_0 => if ((x7.length : Int) == 0) = true then (some 3) else (if (x7.length : Int) > 32 then (some 4) else (lt (xI J4 r7 (i64.wrap ((v7_0) * (x7.length : Int)))) fun J12 => jP x7 J12 (x7.drop 0) 0))
noncomputable def xV (p0 : List (List Int)) : Option (Int) :=
 if ((p0.length : Int) == 0) = true then (some 3) else (if (p0.length : Int) > 4 then (some 4) else (lt (fun (v4_0 : Int) => if (v4_0) > 256 then (some 10) else (some 0)) fun J4 => xI J4 (p0.drop 0)  1))
include hX in
theorem mR (p0 : List (List Int)) (vp0 : Value) (hp0 : SV dC (rd w X) vp0 p0) (y : Int) (hp : xV p0 = some y) : Calls Tryz.prog 64 #[vp0] w (Ret E0 w fun _ v => v = .int .i64 y) := by
 obtain ⟨D1,D2,rfl,p0a_h0⟩ := hp0
 unfold xV at hp
 refine zen Tryz.func64 ?_
 have C0 : St E0 w X w X [] := St.start hX
 refine zz 13 <| zb 9 (b := ((p0.length : Int) == 0)) (fun T2 => ?_) (fun T2 => ?_)
 have hp := ipb T2 hp
 refine zz 8 <| zr' (v := .int .i64 3) ?_
 cases hp
 exact ⟨C0.upd,_,rfl,rfl⟩
 have hp := iqb T2 hp
 refine zz 11 <| zt 12 (p := (p0.length : Int) > 4) (fun Q3 => ?_) (fun Q3 => ?_)
 have hp := ip Q3 hp
 refine zz 8 <| zr' (v := .int .i64 4) ?_
 cases hp
 exact ⟨C0.upd,_,rfl,rfl⟩
 have hp := iq Q3 hp
 refine zz 8 ?_
 have C := rQ hp
 obtain ⟨J4,hJ4,hp⟩ := C
 refine yT (fun (v4_0 : Int) => [(3,.int .i64 v4_0)]) (fun v4_0 w1 => ∃ Y1 : Hid,St E0 w X w1 Y1 [] ∧ Le (rd w X) (rd w1 Y1) ∧ J4 v4_0 = some y) ?_ ?_
 rintro v4_0 w4 ⟨Y4,C4,B4,hp⟩
 have hp := (hJ4 _).symm.trans hp
 refine zz 7 <| zt 77 (p := (v4_0) > 256) (fun Q5 => ?_) (fun Q5 => ?_)
 have hp := ip Q5 hp
 refine zz 8 <| zr' (v := .int .i64 10) ?_
 cases hp
 exact ⟨C4.upd,_,rfl,rfl⟩
 have hp := iq Q5 hp
 refine zz 9 <| zr' (v := .int .i64 0) ?_
 cases hp
 exact ⟨C4.upd,_,rfl,rfl⟩
 intro K6 H6
 refine zz 6 ?_
 have hb7 : (p0.length : Int) ≤ 9223372036854775807 := rR (p0a_h0).hcap (p0a_h0).hbig
 refine zlp Tryz.f64 [K6] [1,1,1,1,9,1,0] (fun ((v7_0,k7) : Int × Nat) => [(0,.slice D1 p0.length D2),(3,.int .i64 v7_0),(4,.int .i64 (k7 : Int))]) (fun (v7_0,k7) w1 => ∃ Y1 : Hid,St E0 w X w1 Y1 [] ∧ Le (rd w X) (rd w1 Y1) ∧ xI J4 (p0.drop k7)  v7_0 = some y) (fun (v7_0,k7) => p0.length - k7) (1,0) ?_ ?_
 exact ⟨_,C0,Le.refl _,hp⟩
 rintro ⟨v7_0,k7⟩ w7 K7 H7 ⟨Y7,C7,B7,hp⟩
 refine zz 9 <| zt 16 (p := (k7 : Int) < (p0.length : Int)) (fun Q8 => ?_) (fun Q8 => ?_)
 have C := xK (l := p0) (k := k7) (qR Q8)
 obtain ⟨x7,O7⟩ := C
 rw [wG O7,xI] at hp
 have L7 : (0 : Int) ≤ (k7 : Int) := Int.natCast_nonneg _
 refine zz 10 ?_
 have C := p0a_h0.opn O7
 obtain ⟨be9,oe9,rfl,B9,hEe9⟩ := C
 obtain ⟨e91,e92,e9_at,e9_h0⟩ := hEe9
 refine zi (b := be9) (off := oe9) (len := p0.length) (cap := D2) (kd := .i64) (i := (k7 : Int)) 1 (oe9 + k7 * 1) ?_ (h0 := L7) (h1 := (jS L7 B9))
 refine zl ((e9_at.mono B7)).cells <| zz 4 <| zb 24 (b := ((x7.length : Int) == 0)) (fun T10 => ?_) (fun T10 => ?_)
 have hp := ipb T10 hp
 refine zz 13 <| zr' (v := .int .i64 3) ?_
 cases hp
 exact ⟨C7.upd,_,rfl,rfl⟩
 have hp := iqb T10 hp
 refine zz 8 <| zi (b := be9) (off := oe9) (len := p0.length) (cap := D2) (kd := .i64) (i := (k7 : Int)) 1 (oe9 + k7 * 1) ?_ (h0 := L7) (h1 := (jS L7 B9))
 refine zl ((e9_at.mono B7)).cells <| zz 4 <| zt 30 (p := (x7.length : Int) > 32) (fun Q11 => ?_) (fun Q11 => ?_)
 have hp := ip Q11 hp
 refine zz 13 <| zr' (v := .int .i64 4) ?_
 cases hp
 exact ⟨C7.upd,_,rfl,rfl⟩
 have hp := iq Q11 hp
 refine zz 3 ?_
 have C := fG hp
 obtain ⟨J12,hJ12,hp⟩ := C
 refine yT (fun (_ : Unit) => [(0,.slice (some ⟨be9,oe9,none⟩) p0.length D2),(3,.int .i64 v7_0),(4,.int .i64 (k7 : Int))]) (fun _ w1 => ∃ Y1 : Hid,St E0 w X w1 Y1 [] ∧ Le (rd w7 Y7) (rd w1 Y1) ∧ J12 = some y) ?_ ?_
 rintro _ w12 ⟨Y12,C12,B12,hp⟩
 have hp := hJ12.symm.trans hp
 refine zz 4 <| zi (b := be9) (off := oe9) (len := p0.length) (cap := D2) (kd := .i64) (i := (k7 : Int)) 1 (oe9 + k7 * 1) ?_ (h0 := L7) (h1 := (jS L7 B9))
 refine zl ((e9_at.mono (Le2 B7 B12))).cells <| zz 9 <| zs 18 (v := .int .i64 (i64.wrap ((k7 : Int) + 1))) (v' := .int .i64 ((k7 : Int) + 1)) (zR (jE (wk0 k7) (wk1 Q8 hb7))) <| zz 2 <| zP (fun a h => H7 (i64.wrap ((v7_0) * (x7.length : Int)),k7 + 1) _ a h ⟨_,C12,(Le2 B7 B12),hp⟩ ?_)
 exact vK Q8
 intro K13 H13
 refine zz 6 ?_
 have hb14 : (x7.length : Int) ≤ 9223372036854775807 := rR (e9_h0).hcap (e9_h0).hbig
 refine zlp Tryz.f64 [K6,K7,K13] [1,1,1,1,9,1,0,0,1,0,0,1,1,9,1,0] (fun (k14 : Nat) => [(0,.slice (some ⟨be9,oe9,none⟩) p0.length D2),(3,.int .i64 v7_0),(4,.int .i64 (k7 : Int)),(5,.int .i64 (k14 : Int))]) (fun k14 w1 => ∃ Y1 : Hid,St E0 w X w1 Y1 [] ∧ Le (rd w7 Y7) (rd w1 Y1) ∧ jP x7 J12 (x7.drop k14) k14 = some y) (fun k14 => x7.length - k14) 0 ?_ ?_
 exact ⟨_,C7,Le.refl _,hp⟩
 rintro k14 w14 K14 H14 ⟨Y14,C14,B14,hp⟩
 refine zz 6 <| zi (b := be9) (off := oe9) (len := p0.length) (cap := D2) (kd := .i64) (i := (k7 : Int)) 1 (oe9 + k7 * 1) ?_ (h0 := L7) (h1 := (jS L7 B9))
 refine zl ((e9_at.mono (Le2 B7 B14))).cells <| zz 4 <| zt 37 (p := (k14 : Int) < (x7.length : Int)) (fun Q15 => ?_) (fun Q15 => ?_)
 have C := xK (l := x7) (k := k14) (qR Q15)
 obtain ⟨x14,O14⟩ := C
 rw [wG O14,jP] at hp
 have L14 : (0 : Int) ≤ (k14 : Int) := Int.natCast_nonneg _
 refine zz 9 <| zi (b := be9) (off := oe9) (len := p0.length) (cap := D2) (kd := .i64) (i := (k7 : Int)) 1 (oe9 + k7 * 1) ?_ (h0 := L7) (h1 := (jS L7 B9))
 refine zl ((e9_at.mono (Le2 B7 B14))).cells <| zz 1 ?_
 have C := e9_h0.opn O14
 obtain ⟨be16,oe16,rfl,B16,hEe16⟩ := C
 have hAe16 : At (rd w X) ⟨be16,oe16 + k14 * 1,none⟩ [.int .i64 x14] := hEe16
 refine zi (b := be16) (off := oe16) (len := x7.length) (cap := e92) (kd := .i64) (i := (k14 : Int)) 1 (oe16 + k14 * 1) ?_ (h0 := L14) (h1 := (jS L14 B16))
 refine zl ((hAe16.mono (Le2 B7 B14))).cells <| zz 8 <| zt 49 (p := (x14) < (-1073741824)) (fun Q17 => ?_) (fun Q17 => ?_)
 have hp := ip Q17 hp
 refine zz 38 <| zr' (v := .int .i64 1) ?_
 cases hp
 exact ⟨C14.upd,_,rfl,rfl⟩
 have hp := iq Q17 hp
 refine zz 4 <| zt 53 (p := (x14) > 1073741824) (fun Q18 => ?_) (fun Q18 => ?_)
 have hp := ip Q18 hp
 refine zz 34 <| zr' (v := .int .i64 1) ?_
 cases hp
 exact ⟨C14.upd,_,rfl,rfl⟩
 have hp := iq Q18 hp
 refine zz 3 <| zt 56 (p := (k14 : Int) > 0) (fun Q19 => ?_) (fun Q19 => ?_)
 have hp := ip Q19 hp
 refine zz 3 <| zi (b := be9) (off := oe9) (len := p0.length) (cap := D2) (kd := .i64) (i := (k7 : Int)) 1 (oe9 + k7 * 1) ?_ (h0 := L7) (h1 := (jS L7 B9))
 refine zl ((e9_at.mono (Le2 B7 B14))).cells <| zz 2 <| zQ hp fun x20 hx20 hp => ?_
 have C := jU hx20
 obtain ⟨L20,O20⟩ := C
 have C := e9_h0.opn2 O20
 obtain ⟨B21,hEe21⟩ := C
 have hAe21 : At (rd w X) ⟨be16,oe16 + (i64.wrap ((k14 : Int) - 1)).toNat * 1,none⟩ [.int .i64 x20] := hEe21
 refine zi (b := be16) (off := oe16) (len := x7.length) (cap := e92) (kd := .i64) (i := i64.wrap ((k14 : Int) - 1)) 1 (oe16 + (i64.wrap ((k14 : Int) - 1)).toNat * 1) ?_ (h0 := L20) (h1 := (jS L20 B21))
 refine zl ((hAe21.mono (Le2 B7 B14))).cells <| zz 5 <| zt 68 (p := (x14) ≤ x20) (fun Q22 => ?_) (fun Q22 => ?_)
 have hp := ip Q22 hp
 refine zz 17 <| zr' (v := .int .i64 1) ?_
 cases hp
 exact ⟨C14.upd,_,rfl,rfl⟩
 have hp := iq Q22 hp
 refine zz 7 <| zs 39 (v := .int .i64 (i64.wrap ((k14 : Int) + 1))) (v' := .int .i64 ((k14 : Int) + 1)) (zR (jE (wk0 k14) (wk1 Q15 hb14))) <| zz 2 <| zP (fun a h => H14 (k14 + 1) _ a h ⟨_,C14,B14,hp⟩ ?_)
 exact vK Q15
 have hp := iq Q19 hp
 refine zz 21 <| zs 39 (v := .int .i64 (i64.wrap ((k14 : Int) + 1))) (v' := .int .i64 ((k14 : Int) + 1)) (zR (jE (wk0 k14) (wk1 Q15 hb14))) <| zz 2 <| zP (fun a h => H14 (k14 + 1) _ a h ⟨_,C14,B14,hp⟩ ?_)
 exact vK Q15
 rw [List.drop_eq_nil_of_le (qI Q15),jP] at hp
 refine zz 5 ?_
 exact zP (fun a h => H13 () _ a h ⟨_,C14,B14,hp⟩)
 rw [List.drop_eq_nil_of_le (qI Q8),xI] at hp
 refine zz 5 ?_
 exact zP (fun a h => H6 v7_0 _ a h ⟨_,C7,B7,hp⟩)
noncomputable def qN (J2 : Int → Option (Int)) : List (List Int) → Int → Option (Int)
 | [],v4_0 => J2 v4_0
 | x4 :: r4,v4_0 => qN J2 r4 (i64.wrap ((v4_0) * (x4.length : Int)))
noncomputable def xS (p0 : List (List Int)) : Option (Int) :=
 lt (fun (v2_0 : Int) => some v2_0) fun J2 => qN J2 (p0.drop 0)  1
include hX in
theorem aT (p0 : List (List Int)) (vp0 : Value) (hp0 : SV dC (rd w X) vp0 p0) (y : Int) (hp : xS p0 = some y) : Calls Tryz.prog 125 #[vp0] w (Ret E0 w fun _ v => v = .int .i64 y) := by
 obtain ⟨D1,D2,rfl,p0a_h0⟩ := hp0
 unfold xS at hp
 refine zen Tryz.func125 ?_
 have C0 : St E0 w X w X [] := St.start hX
 refine zz 10 ?_
 have C := rQ hp
 obtain ⟨J2,hJ2,hp⟩ := C
 refine yT (fun (v2_0 : Int) => [(3,.int .i64 v2_0)]) (fun v2_0 w1 => ∃ Y1 : Hid,St E0 w X w1 Y1 [] ∧ Le (rd w X) (rd w1 Y1) ∧ J2 v2_0 = some y) ?_ ?_
 rintro v2_0 w2 ⟨Y2,C2,B2,hp⟩
 have hp := (hJ2 _).symm.trans hp
 refine zz 7 <| zr' (v := .int .i64 v2_0) ?_
 cases hp
 exact ⟨C2.upd,_,rfl,rfl⟩
 intro K3 H3
 refine zz 6 ?_
 have hb4 : (p0.length : Int) ≤ 9223372036854775807 := rR (p0a_h0).hcap (p0a_h0).hbig
 refine zlp Tryz.f125 [K3] [1,1,9,1,0] (fun ((v4_0,k4) : Int × Nat) => [(0,.slice D1 p0.length D2),(3,.int .i64 v4_0),(4,.int .i64 (k4 : Int))]) (fun (v4_0,k4) w1 => ∃ Y1 : Hid,St E0 w X w1 Y1 [] ∧ Le (rd w X) (rd w1 Y1) ∧ qN J2 (p0.drop k4)  v4_0 = some y) (fun (v4_0,k4) => p0.length - k4) (1,0) ?_ ?_
 exact ⟨_,C0,Le.refl _,hp⟩
 rintro ⟨v4_0,k4⟩ w4 K4 H4 ⟨Y4,C4,B4,hp⟩
 refine zz 9 <| zt 8 (p := (k4 : Int) < (p0.length : Int)) (fun Q5 => ?_) (fun Q5 => ?_)
 have C := xK (l := p0) (k := k4) (qR Q5)
 obtain ⟨x4,O4⟩ := C
 rw [wG O4,qN] at hp
 have L4 : (0 : Int) ≤ (k4 : Int) := Int.natCast_nonneg _
 refine zz 9 ?_
 have C := p0a_h0.opn O4
 obtain ⟨be6,oe6,rfl,B6,hEe6⟩ := C
 obtain ⟨e61,e62,e6_at,e6_h0⟩ := hEe6
 refine zi (b := be6) (off := oe6) (len := p0.length) (cap := D2) (kd := .i64) (i := (k4 : Int)) 1 (oe6 + k4 * 1) ?_ (h0 := L4) (h1 := (jS L4 B6))
 refine zl ((e6_at.mono B4)).cells <| zz 9 <| zs 10 (v := .int .i64 (i64.wrap ((k4 : Int) + 1))) (v' := .int .i64 ((k4 : Int) + 1)) (zR (jE (wk0 k4) (wk1 Q5 hb4))) <| zz 2 <| zP (fun a h => H4 (i64.wrap ((v4_0) * (x4.length : Int)),k4 + 1) _ a h ⟨_,C4,B4,hp⟩ ?_)
 exact vK Q5
 rw [List.drop_eq_nil_of_le (qI Q5),qN] at hp
 refine zz 5 ?_
 exact zP (fun a h => H3 v4_0 _ a h ⟨_,C4,B4,hp⟩)
theorem wK.lb {r : Rd} {ad : Option Addr} {m c : Nat} {x : List Int} (h : wK r ad m c x) : (m : Int) ≤ 9223372036854775807 := rR h.hcap h.hbig
theorem zNx : ∀ (l : List (List Int)) (v y : Int),v ≤ 9223372036854775807 → qN (fun z => some z) l v = some y → y ≤ 9223372036854775807
 | [],v,y,hv,h => by rw [qN] at h; rw [← Option.some.inj h]; exact hv
 | x :: l,v,y,_,h => by rw [qN] at h; exact zNx l _ y (zLk _) h
theorem zMx {x : List (List Int)} {y : Int} (h : xS x = some y) : y ≤ 9223372036854775807 := zNx _ 1 y (by decide) h
noncomputable def jA (p0 : List (List Int)) (J6 : (List Int) → Option ((List Int))) : Nat → Int → Int → (List Int) → Option ((List Int))
 | 0,_,_,_ => none
 | n9 + 1,v9_0,v9_1,v9_2 => if (v9_1) ≥ 0 then ((ix p0 (v9_1)).bind fun x11 => grd ((x11.length : Int) ≠ 0) <| (ix v9_2 (v9_1)).bind fun x16 => grd ((x11.length : Int) ≠ 0) <| jA p0 J6 n9 (i64.wrap (Int.tdiv v9_0 (x11.length : Int))) (i64.wrap ((v9_1) - 1)) (v9_2.set (v9_1).toNat (Int.tmod v9_0 (x11.length : Int)))) else (J6 v9_2)
noncomputable def vR (p0 : List (List Int)) (p1 : Int) : Option ((List Int)) :=
 grd (0 ≤ (p0.length : Int) ∧ 8 * p0.length ≤ 281474976710656 ∧ p0.length ≤ 140737488355328) <| lt (fun (v6_0 : List Int) => some v6_0) fun J6 => jA p0 J6 (p0.length + 1) p1 (i64.wrap ((p0.length : Int) - 1)) (List.replicate p0.length (0 : Int))
include hX in
theorem aR (p0 : List (List Int)) (vp0 : Value) (hp0 : SV dC (rd w X) vp0 p0) (p1 : Int) (y : (List Int)) (hp : vR p0 p1 = some y) : Calls Tryz.prog 126 #[vp0,.int .i64 p1] w (Ret E0 w fun w' v => SV wK (rd w' (old w)) v y) := by
 obtain ⟨D1,D2,rfl,p0a_h0⟩ := hp0
 unfold vR at hp
 refine zen Tryz.func126 ?_
 have C0 : St E0 w X w X [] := St.start hX
 refine zz 9 ?_
 have C := nC hp
 obtain ⟨hg3,hp⟩ := C
 refine zop (at1 [] Tryz.f126 [1,0]) 2 (fun a2 _ G2 hz2 => zOg (d := 9) (Cl := zBy) (l := (p0.length : Int)) (m := p0.length) (size := 1) (b := 8) (e := 3) (i0 := Tryz.t3) (z0 := (0 : Int)) (A := []) (B := []) (r := fun w1 Y1 => rd w1 (orN Y1 w.heap.size)) (fun rb => (rb)) G2 kr C0 (fun _ => by simp only [List.append_assoc,List.cons_append,List.nil_append,List.append_nil]) rfl kr rfl kr kr kr kr kr kr hg3.2.1 hg3.2.2 (fun _ => (show _ = _ by kernel_rfl)) ?_)
 intro rb4 ad4 w4 Y4 hg4 C4 B4 a5 G5
 refine hz2 G5 <| zz 3 ?_
 have C := rQ hp
 obtain ⟨J6,hJ6,hp⟩ := C
 refine yT (fun ((v6_0,rb6_0) : (List Int) × (List (Nat × Obj))) => [(5,.slice ad4 p0.length p0.length)]) (fun (v6_0,rb6_0) w1 => ∃ Y1 : Hid,St E0 w X w1 Y1 (rb6_0) ∧ Le (rd w4 Y4) (rd w1 Y1) ∧ jX zBy 3 1 (rd w1 (orN Y1 w.heap.size)) rb6_0 ad4 p0.length p0.length v6_0 ∧ J6 v6_0 = some y) ?_ ?_
 rintro ⟨v6_0,rb6_0⟩ w6 ⟨Y6,C6,B6,P6_0_0,hp⟩
 have hp := (hJ6 _).symm.trans hp
 refine zz 7 <| zr' (v := .slice ad4 p0.length p0.length) ?_
 have C := St.pubGRN (A := []) (B := []) (fun rb => (rb)) C6 (fun _ => by simp only [List.append_assoc,List.cons_append,List.nil_append,List.append_nil]) P6_0_0 (Nat.le_refl _) zBy.at
 obtain ⟨Y7,hSx7,B7,hRx7⟩ := C
 have C7 : St E0 w X w6 Y7 [] := hSx7
 have hlx7 := hRx7.hlen
 have hR7 : wK (rd w6 (orN Y7 w.heap.size)) ad4 p0.length p0.length v6_0 := hRx7
 cases hp
 exact ⟨C7.upd,_,rfl,SV.ofLen ((((hR7.mono (Le.or (Le.refl _) _)))).mono Le.orr)⟩
 intro K8 H8
 refine zz 9 <| zlp Tryz.f126 [K8] [1,1,9,1,0] (fun ((n9,v9_0,v9_1,v9_2,rb9_2) : Nat × Int × Int × (List Int) × (List (Nat × Obj))) => [(0,.slice D1 p0.length D2),(1,.int .i64 v9_0),(5,.slice ad4 p0.length p0.length),(6,.int .i64 v9_1)]) (fun ((n9,v9_0,v9_1,v9_2,rb9_2) : Nat × Int × Int × (List Int) × (List (Nat × Obj))) w1 => ∃ Y1 : Hid,St E0 w X w1 Y1 (rb9_2) ∧ Le (rd w4 Y4) (rd w1 Y1) ∧ jX zBy 3 1 (rd w1 (orN Y1 w.heap.size)) rb9_2 ad4 p0.length p0.length v9_2 ∧ jA p0 J6 n9 v9_0 v9_1 v9_2 = some y) (fun ((n9,v9_0,v9_1,v9_2,rb9_2) : Nat × Int × Int × (List Int) × (List (Nat × Obj))) => n9) ((p0.length + 1),p1,i64.wrap ((p0.length : Int) - 1),(List.replicate p0.length (0 : Int)),rb4) ?_ ?_
 exact ⟨_,C4,Le.refl _,hg4,hp⟩
 rintro ⟨n9,v9_0,v9_1,v9_2,rb9_2⟩ w9 K9 H9 ⟨Y9,C9,B9,P9_2_0,hp⟩
 obtain _ | n9 := n9
 rw [jA] at hp; cases hp
 rw [jA] at hp
 refine zz 7 <| zt 14 (p := (v9_1) ≥ 0) (fun Q10 => ?_) (fun Q10 => ?_)
 have hp := ip Q10 hp
 refine zz 12 <| zQ hp fun x11 hx11 hp => ?_
 have C := jU hx11
 obtain ⟨L11,O11⟩ := C
 have C := p0a_h0.opn O11
 obtain ⟨be12,oe12,rfl,B12,hEe12⟩ := C
 obtain ⟨e121,e122,e12_at,e12_h0⟩ := hEe12
 refine zi (b := be12) (off := oe12) (len := p0.length) (cap := D2) (kd := .i64) (i := v9_1) 1 (oe12 + (v9_1).toNat * 1) ?_ (h0 := L11) (h1 := (jS L11 B12))
 refine zl ((e12_at.mono (Le2 B4 B9))).cells <| zz 1 ?_
 have C := nC hp
 obtain ⟨hg14,hp⟩ := C
 refine zop (at1 [K8,K9] Tryz.f126 [1,1,9,1,0,0,1,0,0,0]) 8 (fun a13 _ G13 hz13 => zF (d := 25) (v := .int .i64 (Int.tmod v9_0 (x11.length : Int))) G13 kr (zIk (a := v9_0) (b := (x11.length : Int)) rfl kr kr hg14 _) ?_)
 intro a15 G15
 refine hz13 G15 <| zQ hp fun x16 hx16 hp => ?_
 have C := jU hx16
 obtain ⟨L16,O16⟩ := C
 have C := P9_2_0.opn O16
 obtain ⟨ge17,cure17,cse17,rfl,rfl,B17,hce17,hcue17⟩ := C
 have hese17 : cse17 = [.int .i64 x16] := (hce17.2 _ (Le.refl _))
 subst hese17
 refine zi (b := ge17) (off := 0) (len := p0.length) (cap := p0.length) (kd := .i64) (i := v9_1) 1 (0 + (v9_1).toNat * 1) ?_ (h0 := L16) (h1 := (jS L16 B17))
 have hgs19 := jX.set (cs := [.int .i64 (Int.tmod v9_0 (x11.length : Int))]) (x := Int.tmod v9_0 (x11.length : Int)) P9_2_0 B17 ⟨rfl,fun r2 h2 => rfl⟩
 refine zop (at1 [K8,K9] Tryz.f126 [1,1,9,1,0,0,1,0,0,0]) 10 (fun a18 _ G18 hz18 => zIf (k := 0 + (v9_1).toNat * 1) (k' := (v9_1).toNat * 1) (vs := [.int .i64 (Int.tmod v9_0 (x11.length : Int))]) (A := []) (B := []) (fun rb => (rb)) G18 kr C9 (fun _ => by simp only [List.append_assoc,List.cons_append,List.nil_append,List.append_nil]) kr kr kr (q := false) kr kr (Nat.zero_add _) hgs19.2 ?_)
 intro w20 hSx20 B20
 obtain ⟨cur20,hcu20⟩ : ∃ c,c = vT cure17 ((v9_1).toNat * 1) [.int .i64 (Int.tmod v9_0 (x11.length : Int))] := ⟨_,rfl⟩
 rw [← hcu20] at hSx20 hgs19
 have C20 : St E0 w X w20 Y9 ([(ge17,.cells cur20 3 (0,0))]) := hSx20
 have hg20 := hgs19.1.mono (Le.or B20 _)
 refine hz18 G18 <| zz 6 <| zi (b := be12) (off := oe12) (len := p0.length) (cap := D2) (kd := .i64) (i := v9_1) 1 (oe12 + (v9_1).toNat * 1) ?_ (h0 := L11) (h1 := (jS L11 B12))
 refine zl ((e12_at.mono (Le3 B4 B9 B20))).cells <| zz 1 ?_
 have C := nC hp
 obtain ⟨hg22,hp⟩ := C
 refine zop (at1 [K8,K9] Tryz.f126 [1,1,9,1,0,0,1,0,0,1]) 6 (fun a21 _ G21 hz21 => zF (d := 33) (v := .int .i64 (i64.wrap (Int.tdiv v9_0 (x11.length : Int)))) G21 kr (zAn (a := v9_0) (b := (x11.length : Int)) rfl kr kr hg22 _) ?_)
 intro a23 G23
 refine hz21 G23 <| zz 9 <| zP (fun a h => H9 (n9,i64.wrap (Int.tdiv v9_0 (x11.length : Int)),i64.wrap ((v9_1) - 1),(v9_2.set (v9_1).toNat (Int.tmod v9_0 (x11.length : Int))),[(ge17,.cells cur20 3 (0,0))]) _ a h ⟨_,C20,(Le2 B9 B20),hg20,hp⟩ ?_)
 exact Nat.lt_succ_self _
 have hp := iq Q10 hp
 refine zz 5 ?_
 exact zP (fun a h => H8 (v9_2,rb9_2) _ a h ⟨_,C9,B9,P9_2_0,hp⟩)
noncomputable def vU (p0 : List Int) (p1 : Int) : Option (Int) :=
 (ix p0 (0 : Int)).bind fun x2 => (ix p0 (i64.wrap ((p0.length : Int) - 1))).bind fun x4 => some (if (if (p1) < x4 then p1 else x4) > x2 then if (p1) < x4 then p1 else x4 else x2)
include hX in
theorem aP (p0 : List Int) (vp0 : Value) (hp0 : SV wK (rd w X) vp0 p0) (p1 : Int) (y : Int) (hp : vU p0 p1 = some y) : Calls Tryz.prog 128 #[vp0,.int .i64 p1] w (Ret E0 w fun _ v => v = .int .i64 y) := by
 obtain ⟨D1,D2,rfl,p0a_h0⟩ := hp0
 unfold vU at hp
 refine zen Tryz.func128 ?_
 have C0 : St E0 w X w X [] := St.start hX
 refine zz 6 <| zdr C0 <| zQ hp fun x2 hx2 hp => ?_
 have C := jU hx2
 obtain ⟨L2,O2⟩ := C
 have hwx2 : p0[0]? = some x2 := O2
 have C := p0a_h0.opn hwx2
 obtain ⟨be3,oe3,rfl,B3,hEe3⟩ := C
 have hAe3 : At (rd w X) ⟨be3,oe3 + 0 * 1,none⟩ [.int .i64 x2] := hEe3
 refine gz [0] <| gi 1 (b := be3) (off := oe3) (len := p0.length) (cap := D2) (kd := .i64) (i := 0) 1 (oe3 + 0 * 1) ?_ (h0 := L2) (h1 := (jS L2 B3))
 refine gl 2 (hAe3) <| zQ hp fun x4 hx4 hp => ?_
 have C := jU hx4
 obtain ⟨L4,O4⟩ := C
 have C := p0a_h0.opn2 O4
 obtain ⟨B5,hEe5⟩ := C
 have hAe5 : At (rd w X) ⟨be3,oe3 + (i64.wrap ((p0.length : Int) - 1)).toNat * 1,none⟩ [.int .i64 x4] := hEe5
 refine gz [3,4,5,6] <| gi 7 (b := be3) (off := oe3) (len := p0.length) (cap := D2) (kd := .i64) (i := i64.wrap ((p0.length : Int) - 1)) 1 (oe3 + (i64.wrap ((p0.length : Int) - 1)).toNat * 1) ?_ (h0 := L4) (h1 := (jS L4 B5))
 refine gl 8 (hAe5) <| gz [9,10,11,12] ?_
 refine yO (fun w6 Y6 C6 B6 => ?_)
 refine zz 2 <| zr' (v := .int .i64 (if (if (p1) < x4 then p1 else x4) > x2 then if (p1) < x4 then p1 else x4 else x2)) ?_
 cases hp
 exact ⟨C6.upd,_,rfl,rfl⟩
noncomputable def xJ (p0 : List Int) (p1 : Int) (p2 : Int) : Option (Raw) :=
 (ix p0 (p1)).bind fun x7 => if ((p2) == x7) = true then ((xD (1 : Int)).bind fun y11 => some y11) else (lt (fun (v14_0 : Raw) => lt (fun (v15_0 : Bool) => if v15_0 = true then ((ix p0 (i64.wrap ((p1) - 1))).bind fun x17 => (wS (i64.wrap ((p2) - x17)) (i64.wrap ((x7) - x17))).bind fun y20 => some y20.1) else (some v14_0)) fun J15 => if (p1) > 0 then (if (p2) < x7 then ((ix p0 (i64.wrap ((p1) - 1))).bind fun x29 => J15 (decide ((p2) > x29))) else (J15 false)) else (J15 false)) fun J14 => lt (fun (v32_0 : Bool) => if v32_0 = true then ((ix p0 (i64.wrap ((p1) + 1))).bind fun x34 => (wS (i64.wrap ((x34) - p2)) (i64.wrap ((x34) - x7))).bind fun y37 => J14 y37.1) else (J14 Raw.zero)) fun J32 => if (i64.wrap ((p1) + 1)) < (p0.length : Int) then (if (p2) > x7 then ((ix p0 (i64.wrap ((p1) + 1))).bind fun x44 => J32 (decide ((p2) < x44))) else (J32 false)) else (J32 false))
include hX in
theorem bS (p0 : List Int) (vp0 : Value) (hp0 : SV wK (rd w X) vp0 p0) (p1 : Int) (p2 : Int) (y : Raw) (hp : xJ p0 p1 p2 = some y) : Calls Tryz.prog 127 #[vp0,.int .i64 p1,.int .i64 p2] w (Ret E0 w fun w' v => vJ (rd w' X) v y) := by
 obtain ⟨D1,D2,rfl,p0a_h0⟩ := hp0
 unfold xJ at hp
 refine zen Tryz.func127 ?_
 have C0 : St E0 w X w X [] := St.start hX
 refine zz 2 <| zn pn (.cells #[.bool false,.slice none 0 0,.slice none 0 0] 28 (0,0)) C0 fun b3 w3 Y3 C3 B3 V3 => zz 5 <| zn pn (.cells #[.bool false,.slice none 0 0,.slice none 0 0] 28 (0,0)) C3 fun b5 w5 Y5 C5 B5 V5 => zx 0 #[.bool false,.slice none 0 0,.slice none 0 0] C5 fun w6 C6 B6 => zz 8 <| zQ hp fun x7 hx7 hp => ?_
 have C := jU hx7
 obtain ⟨L7,O7⟩ := C
 have C := p0a_h0.opn O7
 obtain ⟨be8,oe8,rfl,B8,hEe8⟩ := C
 have hAe8 : At (rd w X) ⟨be8,oe8 + (p1).toNat * 1,none⟩ [.int .i64 x7] := hEe8
 refine zi (b := be8) (off := oe8) (len := p0.length) (cap := D2) (kd := .i64) (i := p1) 1 (oe8 + (p1).toNat * 1) ?_ (h0 := L7) (h1 := (jS L7 B8))
 refine zl ((hAe8.mono (Le3 B3 B5 B6))).cells <| zz 3 <| zb 14 (b := ((p2) == x7)) (fun T9 => ?_) (fun T9 => ?_)
 have hp := ipb T9 hp
 refine zz 3 <| zQ hp fun y11 hy11 hp => zc C6 (rT _ X0 (zM _) (1 : Int) y11 hy11) ?_
 rintro v12 w12 C12 B12 V12 ⟨u12_0_1,u12_0_2,u12_0_3,u12_0_4,u12_0_5,u12_0_6,rfl,u12_0__h0,u12_0__h1⟩
 have C := u12_0__h0.hlen
 subst C
 have C := u12_0__h1.hlen
 subst C
 refine zx 1 #[.bool y11.neg,.slice u12_0_1 y11.ln.length u12_0_3,.slice u12_0_4 y11.ld.length u12_0_6] C12 fun w13 C13 B13 => zz 4 <| zrS [.cell 6 28] (v := .agg #[.bool y11.neg,.slice u12_0_1 y11.ln.length u12_0_3,.slice u12_0_4 y11.ld.length u12_0_6]) (Res.cM C13 1 Res.nil) ?_
 cases hp
 exact ⟨C13.upd,_,rfl,⟨_,_,_,_,_,_,rfl,(((u12_0__h0.mono (Le.new C6.lt)).mono B13)).mono C13.le,(((u12_0__h1.mono (Le.new C6.lt)).mono B13)).mono C13.le⟩⟩
 have hp := iqb T9 hp
 refine zz 3 ?_
 have C := rQ hp
 obtain ⟨J14,hJ14,hp⟩ := C
 refine yT (fun ((v14_0,a14_0_1,a14_0_2,a14_0_3,a14_0_4) : Raw × (Option Addr) × Nat × (Option Addr) × Nat) => [(0,.slice (some ⟨be8,oe8,none⟩) p0.length D2),(1,.int .i64 p1),(2,.int .i64 p2),(6,.pointer (some ⟨b3,0,none⟩)),(7,.pointer (some ⟨b5,0,none⟩))]) (fun (v14_0,a14_0_1,a14_0_2,a14_0_3,a14_0_4) w1 => ∃ Y1 : Hid,St E0 w X w1 Y1 [(b5,.cells #[.bool v14_0.neg,.slice a14_0_1 v14_0.ln.length a14_0_2,.slice a14_0_3 v14_0.ld.length a14_0_4] 28 (0,0)),(b3,.cells #[.bool false,.slice none 0 0,.slice none 0 0] 28 (0,0))] ∧ Le (rd w6 Y5) (rd w1 Y1) ∧ zL (rd w1 Y1) a14_0_1 v14_0.ln.length a14_0_2 v14_0.ln ∧ zL (rd w1 Y1) a14_0_3 v14_0.ld.length a14_0_4 v14_0.ld ∧ J14 v14_0 = some y) ?_ ?_
 rintro ⟨v14_0,a14_0_1,a14_0_2,a14_0_3,a14_0_4⟩ w14 ⟨Y14,C14,B14,P14_0_0,P14_0_1,hp⟩
 have hp := (hJ14 _).symm.trans hp
 refine zz 1 ?_
 have C := rQ hp
 obtain ⟨J15,hJ15,hp⟩ := C
 refine yT (fun (v15_0 : Bool) => [(77,.bool v15_0),(0,.slice (some ⟨be8,oe8,none⟩) p0.length D2),(1,.int .i64 p1),(2,.int .i64 p2),(6,.pointer (some ⟨b3,0,none⟩)),(7,.pointer (some ⟨b5,0,none⟩))]) (fun v15_0 w1 => ∃ Y1 : Hid,St E0 w X w1 Y1 [(b5,.cells #[.bool v14_0.neg,.slice a14_0_1 v14_0.ln.length a14_0_2,.slice a14_0_3 v14_0.ld.length a14_0_4] 28 (0,0)),(b3,.cells #[.bool false,.slice none 0 0,.slice none 0 0] 28 (0,0))] ∧ Le (rd w14 Y14) (rd w1 Y1) ∧ J15 v15_0 = some y) ?_ ?_
 rintro v15_0 w15 ⟨Y15,C15,B15,hp⟩
 have hp := (hJ15 _).symm.trans hp
 refine zb 77 (b := v15_0) (fun T16 => ?_) (fun T16 => ?_)
 have hp := ipb T16 hp
 refine zz 1 <| zdr C15 <| zQ hp fun x17 hx17 hp => ?_
 have C := jU hx17
 obtain ⟨L17,O17⟩ := C
 have C := p0a_h0.opn2 O17
 obtain ⟨B18,hEe18⟩ := C
 have hAe18 : At (rd w X) ⟨be8,oe8 + (i64.wrap ((p1) - 1)).toNat * 1,none⟩ [.int .i64 x17] := hEe18
 refine gz [0,1,2,3] <| gi 4 (b := be8) (off := oe8) (len := p0.length) (cap := D2) (kd := .i64) (i := i64.wrap ((p1) - 1)) 1 (oe8 + (i64.wrap ((p1) - 1)).toNat * 1) ?_ (h0 := L17) (h1 := (jS L17 B18))
 have T1_ := (Le4 B3 B5 B6 B14).trans B15
 refine gl 5 ((hAe18.mono T1_)) <| gz [6,7,8] <| gi 9 (b := be8) (off := oe8) (len := p0.length) (cap := D2) (kd := .i64) (i := p1) 1 (oe8 + (p1).toNat * 1) ?_ (h0 := L7) (h1 := (jS L7 B8))
 have T2_ := (Le4 B3 B5 B6 B14).trans B15
 refine gl 10 ((hAe8.mono T2_)) <| gz [11,12,13] <| gi 14 (b := be8) (off := oe8) (len := p0.length) (cap := D2) (kd := .i64) (i := i64.wrap ((p1) - 1)) 1 (oe8 + (i64.wrap ((p1) - 1)).toNat * 1) ?_ (h0 := L17) (h1 := (jS L17 B18))
 have T3_ := (Le4 B3 B5 B6 B14).trans B15
 refine gl 15 ((hAe18.mono T3_)) <| gz [16] <| zQ hp fun y20 hy20 hp => gC 17 (fun w19 Y19 _ C19 B19 => (fM _ X0 (zM _) (i64.wrap ((p2) - x17)) (i64.wrap ((x7) - x17)) y20 hy20)) ?_
 rintro v21 w19 Y21 w21 C19 B21 ⟨uu21_0,rfl,⟨u21_0_1,u21_0_2,u21_0_3,u21_0_4,u21_0_5,u21_0_6,rfl,u21_0__h0,u21_0__h1⟩⟩
 have C := u21_0__h0.hlen
 subst C
 have C := u21_0__h1.hlen
 subst C
 refine gz [18,19,20] <| gX 21 0 #[.bool y20.1.neg,.slice u21_0_1 y20.1.ln.length u21_0_3,.slice u21_0_4 y20.1.ld.length u21_0_6] fun w22 Y22 B22 => ?_
 refine yO (fun w23 Y23 C23 B23 => ?_)
 refine zz 3 <| zo 0 C23 <| zx 1 #[.bool y20.1.neg,.slice u21_0_1 y20.1.ln.length u21_0_3,.slice u21_0_4 y20.1.ld.length u21_0_6] C23 fun w24 C24 B24 => zz 3 <| zrS [.cell 6 28] (v := .agg #[.bool y20.1.neg,.slice u21_0_1 y20.1.ln.length u21_0_3,.slice u21_0_4 y20.1.ld.length u21_0_6]) (Res.cM C24 1 Res.nil) ?_
 cases hp
 exact ⟨C24.upd,_,rfl,⟨_,_,_,_,_,_,rfl,(((u21_0__h0.mono (Le.new C19.lt)).mono (Le3 B22 B23 B24))).mono C24.le,(((u21_0__h1.mono (Le.new C19.lt)).mono (Le3 B22 B23 B24))).mono C24.le⟩⟩
 have hp := iqb T16 hp
 refine zz 5 <| zo 0 C15 <| zx 1 #[.bool v14_0.neg,.slice a14_0_1 v14_0.ln.length a14_0_2,.slice a14_0_3 v14_0.ld.length a14_0_4] C15 fun w25 C25 B25 => zz 3 <| zrS [.cell 6 28] (v := .agg #[.bool v14_0.neg,.slice a14_0_1 v14_0.ln.length a14_0_2,.slice a14_0_3 v14_0.ld.length a14_0_4]) (Res.cM C25 1 Res.nil) ?_
 cases hp
 exact ⟨C25.upd,_,rfl,⟨_,_,_,_,_,_,rfl,((P14_0_0.mono (Le2 B15 B25))).mono C25.le,((P14_0_1.mono (Le2 B15 B25))).mono C25.le⟩⟩
 intro K26 H26
 refine zz 4 <| zt 61 (p := (p1) > 0) (fun Q27 => ?_) (fun Q27 => ?_)
 have hp := ip Q27 hp
 refine zz 3 <| zi (b := be8) (off := oe8) (len := p0.length) (cap := D2) (kd := .i64) (i := p1) 1 (oe8 + (p1).toNat * 1) ?_ (h0 := L7) (h1 := (jS L7 B8))
 have T4_ := (Le3 B3 B5 B6).trans B14
 refine zl ((hAe8.mono T4_)).cells <| zz 3 <| zt 69 (p := (p2) < x7) (fun Q28 => ?_) (fun Q28 => ?_)
 have hp := ip Q28 hp
 refine zz 4 <| zQ hp fun x29 hx29 hp => ?_
 have C := jU hx29
 obtain ⟨L29,O29⟩ := C
 have C := p0a_h0.opn2 O29
 obtain ⟨B30,hEe30⟩ := C
 have hAe30 : At (rd w X) ⟨be8,oe8 + (i64.wrap ((p1) - 1)).toNat * 1,none⟩ [.int .i64 x29] := hEe30
 refine zi (b := be8) (off := oe8) (len := p0.length) (cap := D2) (kd := .i64) (i := i64.wrap ((p1) - 1)) 1 (oe8 + (i64.wrap ((p1) - 1)).toNat * 1) ?_ (h0 := L29) (h1 := (jS L29 B30))
 refine zl ((hAe30.mono T4_)).cells <| zz 3 ?_
 exact zP (fun a h => H26 (decide ((p2) > x29)) _ a h ⟨_,C14,(Le.refl _),hp⟩)
 have hp := iq Q28 hp
 refine zz 9 ?_
 exact zP (fun a h => H26 false _ a h ⟨_,C14,(Le.refl _),hp⟩)
 have hp := iq Q27 hp
 refine zz 17 ?_
 exact zP (fun a h => H26 false _ a h ⟨_,C14,(Le.refl _),hp⟩)
 intro K31 H31
 have C := rQ hp
 obtain ⟨J32,hJ32,hp⟩ := C
 refine yT (fun (v32_0 : Bool) => [(37,.bool v32_0),(0,.slice (some ⟨be8,oe8,none⟩) p0.length D2),(1,.int .i64 p1),(2,.int .i64 p2),(6,.pointer (some ⟨b3,0,none⟩)),(7,.pointer (some ⟨b5,0,none⟩))]) (fun v32_0 w1 => ∃ Y1 : Hid,St E0 w X w1 Y1 [(b5,.cells #[.bool false,.slice none 0 0,.slice none 0 0] 28 (0,0)),(b3,.cells #[.bool false,.slice none 0 0,.slice none 0 0] 28 (0,0))] ∧ Le (rd w6 Y5) (rd w1 Y1) ∧ J32 v32_0 = some y) ?_ ?_
 rintro v32_0 w32 ⟨Y32,C32,B32,hp⟩
 have hp := (hJ32 _).symm.trans hp
 refine zb 37 (b := v32_0) (fun T33 => ?_) (fun T33 => ?_)
 have hp := ipb T33 hp
 refine zz 1 <| zdr C32 <| zQ hp fun x34 hx34 hp => ?_
 have C := jU hx34
 obtain ⟨L34,O34⟩ := C
 have C := p0a_h0.opn2 O34
 obtain ⟨B35,hEe35⟩ := C
 have hAe35 : At (rd w X) ⟨be8,oe8 + (i64.wrap ((p1) + 1)).toNat * 1,none⟩ [.int .i64 x34] := hEe35
 refine gz [0,1,2] <| gi 3 (b := be8) (off := oe8) (len := p0.length) (cap := D2) (kd := .i64) (i := i64.wrap ((p1) + 1)) 1 (oe8 + (i64.wrap ((p1) + 1)).toNat * 1) ?_ (h0 := L34) (h1 := (jS L34 B35))
 have T5_ := (Le3 B3 B5 B6).trans B32
 refine gl 4 ((hAe35.mono T5_)) <| gz [5,6,7,8,9] <| gi 10 (b := be8) (off := oe8) (len := p0.length) (cap := D2) (kd := .i64) (i := i64.wrap ((p1) + 1)) 1 (oe8 + (i64.wrap ((p1) + 1)).toNat * 1) ?_ (h0 := L34) (h1 := (jS L34 B35))
 have T6_ := (Le3 B3 B5 B6).trans B32
 refine gl 11 ((hAe35.mono T6_)) <| gz [12,13] <| gi 14 (b := be8) (off := oe8) (len := p0.length) (cap := D2) (kd := .i64) (i := p1) 1 (oe8 + (p1).toNat * 1) ?_ (h0 := L7) (h1 := (jS L7 B8))
 have T7_ := (Le3 B3 B5 B6).trans B32
 refine gl 15 ((hAe8.mono T7_)) <| gz [16] <| zQ hp fun y37 hy37 hp => gC 17 (fun w36 Y36 _ C36 B36 => (fM _ X0 (zM _) (i64.wrap ((x34) - p2)) (i64.wrap ((x34) - x7)) y37 hy37)) ?_
 rintro v38 w36 Y38 w38 C36 B38 ⟨uu38_0,rfl,⟨u38_0_1,u38_0_2,u38_0_3,u38_0_4,u38_0_5,u38_0_6,rfl,u38_0__h0,u38_0__h1⟩⟩
 have C := u38_0__h0.hlen
 subst C
 have C := u38_0__h1.hlen
 subst C
 refine gz [18,19,20] <| gX 21 0 #[.bool y37.1.neg,.slice u38_0_1 y37.1.ln.length u38_0_3,.slice u38_0_4 y37.1.ld.length u38_0_6] fun w39 Y39 B39 => ?_
 refine yO (fun w40 Y40 C40 B40 => ?_)
 have T8_ := (Le3 B32 B38 B39).trans B40
 exact zP (fun a h => H31 (y37.1,u38_0_1,u38_0_3,u38_0_4,u38_0_6) _ a h ⟨_,C40,T8_,((u38_0__h0.mono (Le.new C36.lt)).mono (Le2 B39 B40)),((u38_0__h1.mono (Le.new C36.lt)).mono (Le2 B39 B40)),hp⟩)
 have hp := iqb T33 hp
 refine zz 2 ?_
 exact zP (fun a h => H31 (Raw.zero,none,0,none,0) _ a h ⟨_,C32,B32,zL.nil0,zL.nil0,hp⟩)
 intro K41 H41
 refine zz 7 <| zt 21 (p := (i64.wrap ((p1) + 1)) < (p0.length : Int)) (fun Q42 => ?_) (fun Q42 => ?_)
 have hp := ip Q42 hp
 refine zz 3 <| zi (b := be8) (off := oe8) (len := p0.length) (cap := D2) (kd := .i64) (i := p1) 1 (oe8 + (p1).toNat * 1) ?_ (h0 := L7) (h1 := (jS L7 B8))
 refine zl ((hAe8.mono (Le3 B3 B5 B6))).cells <| zz 3 <| zt 29 (p := (p2) > x7) (fun Q43 => ?_) (fun Q43 => ?_)
 have hp := ip Q43 hp
 refine zz 4 <| zQ hp fun x44 hx44 hp => ?_
 have C := jU hx44
 obtain ⟨L44,O44⟩ := C
 have C := p0a_h0.opn2 O44
 obtain ⟨B45,hEe45⟩ := C
 have hAe45 : At (rd w X) ⟨be8,oe8 + (i64.wrap ((p1) + 1)).toNat * 1,none⟩ [.int .i64 x44] := hEe45
 refine zi (b := be8) (off := oe8) (len := p0.length) (cap := D2) (kd := .i64) (i := i64.wrap ((p1) + 1)) 1 (oe8 + (i64.wrap ((p1) + 1)).toNat * 1) ?_ (h0 := L44) (h1 := (jS L44 B45))
 refine zl ((hAe45.mono (Le3 B3 B5 B6))).cells <| zz 3 ?_
 exact zP (fun a h => H41 (decide ((p2) < x44)) _ a h ⟨_,C6,(Le.refl _),hp⟩)
 have hp := iq Q43 hp
 refine zz 9 ?_
 exact zP (fun a h => H41 false _ a h ⟨_,C6,(Le.refl _),hp⟩)
 have hp := iq Q42 hp
 refine zz 17 ?_
 exact zP (fun a h => H41 false _ a h ⟨_,C6,(Le.refl _),hp⟩)
noncomputable def qP (p1 : List Int) (y16 : (List Int)) (J24 : Raw → Option ((List zU) × Int)) : List (List Int) → Nat → Raw → Option ((List zU) × Int)
 | [],k34,v34_1 => J24 v34_1
 | x34 :: r34,k34,v34_1 => (ix y16 (k34 : Int)).bind fun x37 => (ix p1 (k34 : Int)).bind fun x39 => (vU x34 (x39)).bind fun y42 => (xJ x34 (x37) (y42)).bind fun y45 => (yL v34_1 y45).bind fun y48 => qP p1 y16 J24 r34 (k34 + 1) y48
noncomputable def jG (p0 : List (List Int)) (p1 : List Int) (J7 : (List zU) → Option ((List zU) × Int)) : Nat → Nat → (List zU) → Option ((List zU) × Int)
 | 0,_,_ => none
 | n10 + 1,k10,v10_0 => (xS p0).bind fun y12 => if (k10 : Int) < y12 then ((vR p0 (k10 : Int)).bind fun y16 => (xD (1 : Int)).bind fun y19 => lt (fun (v24_0 : Raw) => if (v24_0.ln.length : Int) > 0 then (grd ((v10_0.length + 1) * 64 ≤ 140737488355328) <| jG p0 p1 J7 n10 (k10 + 1) (v10_0 ++ [(zU.mk (k10 : Int) v24_0)])) else (jG p0 p1 J7 n10 (k10 + 1) v10_0)) fun J24 => qP p1 y16 J24 (p0.drop 0) 0 y19) else (J7 v10_0)
noncomputable def vB (p0 : List (List Int)) (p1 : List Int) : Option ((List zU) × Int) :=
 (xV p0).bind fun y3 => if ((y3) != 0) = true then (some (([] : List zU),y3)) else (if ((p1.length : Int) != (p0.length : Int)) = true then (some (([] : List zU),16)) else (lt (fun (v7_0 : List zU) => some (v7_0,0)) fun J7 => jG p0 p1 J7 257 0 ([] : List zU)))
include hX in
theorem dQ (p0 : List (List Int)) (vp0 : Value) (hp0 : SV dC (rd w X) vp0 p0) (p1 : List Int) (vp1 : Value) (hp1 : SV wK (rd w X) vp1 p1) (y : (List zU) × Int) (hp : vB p0 p1 = some y) : Calls Tryz.prog 89 #[vp0,vp1] w (Ret E0 w fun w' v => ∃ uu0,v = .tuple #[uu0,.int .i64 y.2] ∧ SV tT (rd w' X) uu0 y.1) := by
 obtain ⟨D1,D2,rfl,p0a_h0⟩ := hp0
 obtain ⟨p1a1,p1a2,rfl,p1a_h0⟩ := hp1
 unfold vB at hp
 refine zen Tryz.func89 ?_
 have C0 : St E0 w X w X [] := St.start hX
 refine zz 9 <| zQ hp fun y3 hy3 hp => zc C0 (mR _ X0 (zM _) p0 _ ⟨_,_,rfl,(p0a_h0.mono Le.x0)⟩ y3 hy3) ?_
 rintro v4 w4 C4 B4 V4 rfl
 refine zz 10 <| zb 15 (b := ((y3) != 0)) (fun T5 => ?_) (fun T5 => ?_)
 have hp := ipb T5 hp
 refine zz 10 <| zr' (v := .tuple #[.slice none 0 0,.int .i64 y3]) ?_
 cases hp
 exact ⟨C4.upd,_,rfl,⟨_,rfl,⟨_,_,rfl,(show tT _ none 0 0 [] from SlR.nil none (by decide))⟩⟩⟩
 have hp := iqb T5 hp
 refine zz 13 <| zb 21 (b := ((p1.length : Int) != (p0.length : Int))) (fun T6 => ?_) (fun T6 => ?_)
 have hp := ipb T6 hp
 refine zz 9 <| zr' (v := .tuple #[.slice none 0 0,.int .i64 16]) ?_
 cases hp
 exact ⟨C4.upd,_,rfl,⟨_,rfl,⟨_,_,rfl,(show tT _ none 0 0 [] from SlR.nil none (by decide))⟩⟩⟩
 have hp := iqb T6 hp
 refine zz 8 ?_
 have C := rQ hp
 obtain ⟨J7,hJ7,hp⟩ := C
 refine yT (fun ((v7_0,rb7_0,ad7_0,m7_0,cap7_0) : (List zU) × (List (Nat × Obj)) × (Option Addr) × Nat × Nat) => [(7,.slice ad7_0 m7_0 cap7_0)]) (fun (v7_0,rb7_0,ad7_0,m7_0,cap7_0) w1 => ∃ Y1 : Hid,St E0 w X w1 Y1 (rb7_0) ∧ Le (rd w4 X) (rd w1 Y1) ∧ jX tF 124 4 (rd w1 Y1) rb7_0 ad7_0 m7_0 cap7_0 v7_0 ∧ J7 v7_0 = some y) ?_ ?_
 rintro ⟨v7_0,rb7_0,ad7_0,m7_0,cap7_0⟩ w7 ⟨Y7,C7,B7,P7_0_0,hp⟩
 have hp := (hJ7 _).symm.trans hp
 refine zz 8 <| zr' (v := .tuple #[.slice ad7_0 m7_0 cap7_0,.int .i64 0]) ?_
 have C := St.pubGR (A := []) (B := []) (fun rb => (rb)) C7 (fun _ => by simp only [List.append_assoc,List.cons_append,List.nil_append,List.append_nil]) P7_0_0 tF.at
 obtain ⟨Y8,hSx8,B8,hRx8⟩ := C
 have C8 : St E0 w X w7 Y8 [] := hSx8
 have C := hRx8.hlen
 subst C
 have hR8 : tT (rd w7 Y8) ad7_0 v7_0.length cap7_0 v7_0 := hRx8
 cases hp
 exact ⟨C8.upd,_,rfl,⟨_,rfl,⟨_,_,rfl,(hR8).mono C8.le⟩⟩⟩
 intro K9 H9
 refine zz 6 <| zlp Tryz.f89 [K9] [1,1,1,1,1,9,1,0] (fun ((n10,v10_0,k10,rb10_0,ad10_0,m10_0,cap10_0) : Nat × (List zU) × Nat × (List (Nat × Obj)) × (Option Addr) × Nat × Nat) => [(0,.slice D1 p0.length D2),(1,.slice p1a1 p1.length p1a2),(7,.slice ad10_0 m10_0 cap10_0),(8,.int .i64 (k10 : Int))]) (fun ((n10,v10_0,k10,rb10_0,ad10_0,m10_0,cap10_0) : Nat × (List zU) × Nat × (List (Nat × Obj)) × (Option Addr) × Nat × Nat) w1 => ∃ Y1 : Hid,St E0 w X w1 Y1 (rb10_0) ∧ Le (rd w4 X) (rd w1 Y1) ∧ jX tF 124 4 (rd w1 Y1) rb10_0 ad10_0 m10_0 cap10_0 v10_0 ∧ jG p0 p1 J7 n10 k10 v10_0 = some y) (fun ((n10,v10_0,k10,rb10_0,ad10_0,m10_0,cap10_0) : Nat × (List zU) × Nat × (List (Nat × Obj)) × (Option Addr) × Nat × Nat) => n10) (257,([] : List zU),0,[],none,0,0) ?_ ?_
 exact ⟨_,C4,Le.refl _,jX.nil,hp⟩
 rintro ⟨n10,v10_0,k10,rb10_0,ad10_0,m10_0,cap10_0⟩ w10 K10 H10 ⟨Y10,C10,B10,P10_0_0,hp⟩
 obtain _ | n10 := n10
 rw [jG] at hp; cases hp
 rw [jG] at hp
 refine zz 5 <| zQ hp fun y12 hy12 hp => zc C10 (aT _ X0 (zM _) p0 _ ⟨_,_,rfl,((p0a_h0.mono (Le2 B4 B10)).mono Le.x0)⟩ y12 hy12) ?_
 rintro v13 w13 C13 B13 V13 rfl
 refine zz 3 <| zt 25 (p := (k10 : Int) < y12) (fun Q14 => ?_) (fun Q14 => ?_)
 have hp := ip Q14 hp
 refine zz 9 <| zQ hp fun y16 hy16 hp => zc C13 (aR _ X0 (zM _) p0 _ ⟨_,_,rfl,((p0a_h0.mono (Le3 B4 B10 B13)).mono Le.x0)⟩ (k10 : Int) y16 hy16) ?_
 rintro v17 w17 C17 B17 V17 ⟨u17_0_1,u17_0_2,rfl,u17_0__h0⟩
 refine zz 5 <| zQ hp fun y19 hy19 hp => zc C17 (rT _ X0 (zM _) (1 : Int) y19 hy19) ?_
 rintro v20 w20 C20 B20 V20 ⟨u20_0_1,u20_0_2,u20_0_3,u20_0_4,u20_0_5,u20_0_6,rfl,u20_0__h0,u20_0__h1⟩
 have C := u20_0__h0.hlen
 subst C
 have C := u20_0__h1.hlen
 subst C
 refine zn pn (.cells #[.bool false,.slice none 0 0,.slice none 0 0] 28 (0,0)) C20 fun b22 w22 Y22 C22 B22 V22 => zx 0 #[.bool y19.neg,.slice u20_0_1 y19.ln.length u20_0_3,.slice u20_0_4 y19.ld.length u20_0_6] C22 fun w23 C23 B23 => zz 2 ?_
 have C := rQ hp
 obtain ⟨J24,hJ24,hp⟩ := C
 refine yT (fun ((v24_0,a24_0_1,a24_0_2,a24_0_3,a24_0_4) : Raw × (Option Addr) × Nat × (Option Addr) × Nat) => [(0,.slice D1 p0.length D2),(1,.slice p1a1 p1.length p1a2),(7,.slice ad10_0 m10_0 cap10_0),(8,.int .i64 (k10 : Int)),(10,.pointer (some ⟨b22,0,none⟩))]) (fun (v24_0,a24_0_1,a24_0_2,a24_0_3,a24_0_4) w1 => ∃ Y1 : Hid,St E0 w X w1 Y1 ((b22,.cells #[.bool v24_0.neg,.slice a24_0_1 v24_0.ln.length a24_0_2,.slice a24_0_3 v24_0.ld.length a24_0_4] 28 (0,0)) :: rb10_0) ∧ Le (rd w23 Y22) (rd w1 Y1) ∧ zL (rd w1 Y1) a24_0_1 v24_0.ln.length a24_0_2 v24_0.ln ∧ zL (rd w1 Y1) a24_0_3 v24_0.ld.length a24_0_4 v24_0.ld ∧ J24 v24_0 = some y) ?_ ?_
 rintro ⟨v24_0,a24_0_1,a24_0_2,a24_0_3,a24_0_4⟩ w24 ⟨Y24,C24,B24,P24_0_0,P24_0_1,hp⟩
 have hp := (hJ24 _).symm.trans hp
 refine zz 3 <| zo 0 C24 <| zz 4 <| zt 61 (p := (v24_0.ln.length : Int) > 0) (fun Q25 => ?_) (fun Q25 => ?_)
 have hp := ip Q25 hp
 refine zz 4 <| zo 0 C24 <| zz 1 <| zn (fun b => .slice (some ⟨b,0,none⟩) 1 1) (.cells #[.int .i64 (k10 : Int),.bool v24_0.neg,.slice a24_0_1 v24_0.ln.length a24_0_2,.slice a24_0_3 v24_0.ld.length a24_0_4] 124 (0,0)) C24 fun b27 w27 Y27 C27 B27 V27 => ?_
 have C := nC hp
 obtain ⟨hg29,hp⟩ := C
 have hln30 : m10_0 = v10_0.length := jX.len P10_0_0
 have T1_ := (Le6 B13 B17 B20 B22 B23 B24).trans B27
 have C := (P10_0_0.mono T1_)
 obtain ⟨es30,hr30,hq30,hk30,hm30⟩ := C
 refine zop (at1 [K9,K10] Tryz.f89 [1,1,1,1,1,9,1,0,0,1,0,0,1,1,1,1,0]) 5 (fun a28 _ G28 hz28 => tK (b := 64) (m := 1) (c := 1) (ad := ⟨b27,0,none⟩) (news := [.int .i64 (k10 : Int),.bool v24_0.neg,.slice a24_0_1 v24_0.ln.length a24_0_2,.slice a24_0_3 v24_0.ld.length a24_0_4]) (i0 := Tryz.t124) (rb := rb10_0) (R1 := []) 2 G28 C27 rfl hr30 (C27.cells 0 rfl rfl) (lY hg29 hln30 rfl) (lX hg29 hln30) ?_)
 intro rb31 ad31 cap31 w31 Y31 F31 C31 B31 a32 G32
 have hg31 : jX tF 124 4 (rd w31 Y31) rb31 ad31 (m10_0 + 1) cap31 (v10_0 ++ [(zU.mk (k10 : Int) v24_0)]) := jX.snoc F31 hq30 hk30 hm30 B31 ⟨rfl,fun r2 h2 => ⟨_,_,_,_,rfl,((P24_0_0.mono (Le2 B27 B31)).mono h2),((P24_0_1.mono (Le2 B27 B31)).mono h2)⟩⟩
 refine hz28 G32 <| zz 7 <| zw 27 (x := (k10 : Int) + 1) (h1 := by first | omega | (have := zMx (by assumption); omega)) <| zz 2 ?_
 have T2_ := (Le8 B10 B13 B17 B20 B22 B23 B24 B27).trans B31
 refine zP (fun a h => H10 (n10,(v10_0 ++ [(zU.mk (k10 : Int) v24_0)]),k10 + 1,rb31,ad31,(m10_0 + 1),cap31) _ a h ⟨_,C31.tail.tail,T2_,hg31,hp⟩ ?_)
 exact Nat.lt_succ_self _
 have hp := iq Q25 hp
 refine zz 7 <| zw 27 (x := (k10 : Int) + 1) (h1 := by first | omega | (have := zMx (by assumption); omega)) <| zz 2 ?_
 have T3_ := (Le5 B13 B17 B20 B22 B23).trans B24
 have T4_ := (Le6 B10 B13 B17 B20 B22 B23).trans B24
 refine zP (fun a h => H10 (n10,v10_0,k10 + 1,rb10_0,ad10_0,m10_0,cap10_0) _ a h ⟨_,C24.tail,T4_,(P10_0_0.mono T3_),hp⟩ ?_)
 exact Nat.lt_succ_self _
 intro K33 H33
 refine zz 6 ?_
 have hb34 : (p0.length : Int) ≤ 9223372036854775807 := rR (p0a_h0).hcap (p0a_h0).hbig
 refine zlp Tryz.f89 [K9,K10,K33] [1,1,1,1,1,9,1,0,0,1,0,0,1,1,9,1,0] (fun ((k34,v34_1,a34_1_1,a34_1_2,a34_1_3,a34_1_4) : Nat × Raw × (Option Addr) × Nat × (Option Addr) × Nat) => [(0,.slice D1 p0.length D2),(1,.slice p1a1 p1.length p1a2),(7,.slice ad10_0 m10_0 cap10_0),(8,.int .i64 (k10 : Int)),(9,.slice u17_0_1 y16.length u17_0_2),(10,.pointer (some ⟨b22,0,none⟩)),(11,.int .i64 (k34 : Int))]) (fun (k34,v34_1,a34_1_1,a34_1_2,a34_1_3,a34_1_4) w1 => ∃ Y1 : Hid,St E0 w X w1 Y1 ((b22,.cells #[.bool v34_1.neg,.slice a34_1_1 v34_1.ln.length a34_1_2,.slice a34_1_3 v34_1.ld.length a34_1_4] 28 (0,0)) :: rb10_0) ∧ Le (rd w23 Y22) (rd w1 Y1) ∧ zL (rd w1 Y1) a34_1_1 v34_1.ln.length a34_1_2 v34_1.ln ∧ zL (rd w1 Y1) a34_1_3 v34_1.ld.length a34_1_4 v34_1.ld ∧ qP p1 y16 J24 (p0.drop k34) k34 v34_1 = some y) (fun (k34,v34_1,a34_1_1,a34_1_2,a34_1_3,a34_1_4) => p0.length - k34) (0,y19,u20_0_1,u20_0_3,u20_0_4,u20_0_6) ?_ ?_
 exact ⟨_,C23,Le.refl _,((u20_0__h0.mono (Le.new C17.lt)).mono (Le2 B22 B23)),((u20_0__h1.mono (Le.new C17.lt)).mono (Le2 B22 B23)),hp⟩
 rintro ⟨k34,v34_1,a34_1_1,a34_1_2,a34_1_3,a34_1_4⟩ w34 K34 H34 ⟨Y34,C34,B34,P34_1_0,P34_1_1,hp⟩
 refine zz 9 <| zt 35 (p := (k34 : Int) < (p0.length : Int)) (fun Q35 => ?_) (fun Q35 => ?_)
 have C := xK (l := p0) (k := k34) (qR Q35)
 obtain ⟨x34,O34⟩ := C
 rw [wG O34,qP] at hp
 have L34 : (0 : Int) ≤ (k34 : Int) := Int.natCast_nonneg _
 refine zz 5 <| zEb [0] C34 <| gw 0 0 ?_
 have C := p0a_h0.opn O34
 obtain ⟨be36,oe36,rfl,B36,hEe36⟩ := C
 obtain ⟨e361,e362,e36_at,e36_h0⟩ := hEe36
 refine gz [1,2] <| gi 3 (b := be36) (off := oe36) (len := p0.length) (cap := D2) (kd := .i64) (i := (k34 : Int)) 1 (oe36 + k34 * 1) ?_ (h0 := L34) (h1 := (jS L34 B36))
 have T5_ := (Le7 B4 B10 B13 B17 B20 B22 B23).trans B34
 refine gl 4 ((e36_at.mono T5_)) <| zQ hp fun x37 hx37 hp => ?_
 have C := jU hx37
 obtain ⟨L37,O37⟩ := C
 have hwx37 : y16[k34]? = some x37 := O37
 have C := (u17_0__h0.mono (Le.new C13.lt)).opn hwx37
 obtain ⟨be38,oe38,rfl,B38,hEe38⟩ := C
 have hAe38 : At (rd w17 Y10) ⟨be38,oe38 + k34 * 1,none⟩ [.int .i64 x37] := hEe38
 refine gz [5,6] <| gi 7 (b := be38) (off := oe38) (len := y16.length) (cap := u17_0_2) (kd := .i64) (i := (k34 : Int)) 1 (oe38 + k34 * 1) ?_ (h0 := L37) (h1 := (jS L37 B38))
 have T6_ := (Le3 B20 B22 B23).trans B34
 refine gl 8 ((hAe38.mono T6_)) <| gz [9,10] <| gi 11 (b := be36) (off := oe36) (len := p0.length) (cap := D2) (kd := .i64) (i := (k34 : Int)) 1 (oe36 + k34 * 1) ?_ (h0 := L34) (h1 := (jS L34 B36))
 have T7_ := (Le7 B4 B10 B13 B17 B20 B22 B23).trans B34
 refine gl 12 ((e36_at.mono T7_)) <| zQ hp fun x39 hx39 hp => ?_
 have C := jU hx39
 obtain ⟨L39,O39⟩ := C
 have hwx39 : p1[k34]? = some x39 := O39
 have C := p1a_h0.opn hwx39
 obtain ⟨be40,oe40,rfl,B40,hEe40⟩ := C
 have hAe40 : At (rd w X) ⟨be40,oe40 + k34 * 1,none⟩ [.int .i64 x39] := hEe40
 refine gz [13,14] <| gi 15 (b := be40) (off := oe40) (len := p1.length) (cap := p1a2) (kd := .i64) (i := (k34 : Int)) 1 (oe40 + k34 * 1) ?_ (h0 := L39) (h1 := (jS L39 B40))
 have T8_ := (Le7 B4 B10 B13 B17 B20 B22 B23).trans B34
 refine gl 16 ((hAe40.mono T8_)) ?_
 have T9_ := (Le7 B4 B10 B13 B17 B20 B22 B23).trans B34
 refine zQ hp fun y42 hy42 hp => gC 17 (fun w41 Y41 _ C41 B41 => (aP _ X0 (zM _) x34 _ ⟨_,_,rfl,((e36_h0.mono (T9_.trans B41)).mono Le.x0)⟩ (x39) y42 hy42)) ?_
 rintro v43 w41 Y43 w43 C41 B43 rfl
 have T10_ := T9_.trans B43
 refine zQ hp fun y45 hy45 hp => gC 18 (fun w44 Y44 _ C44 B44 => (bS _ _ C44.lt x34 _ ⟨_,_,rfl,(e36_h0.mono (T10_.trans B44))⟩ (x37) (y42) y45 hy45)) ?_
 rintro v46 w44 Y46 w46 C44 B46 ⟨u46_0_1,u46_0_2,u46_0_3,u46_0_4,u46_0_5,u46_0_6,rfl,u46_0__h0,u46_0__h1⟩
 have C := u46_0__h0.hlen
 subst C
 have C := u46_0__h1.hlen
 subst C
 refine zQ hp fun y48 hy48 hp => gC 19 (fun w47 Y47 _ C47 B47 => (sN _ _ C47.lt v34_1 _ ⟨_,_,_,_,_,_,rfl,(P34_1_0.mono (Le3 B43 B46 B47)),(P34_1_1.mono (Le3 B43 B46 B47))⟩ y45 _ ⟨_,_,_,_,_,_,rfl,(u46_0__h0.mono B47),(u46_0__h1.mono B47)⟩ y48 hy48)) ?_
 rintro v49 w47 Y49 w49 C47 B49 ⟨u49_0_1,u49_0_2,u49_0_3,u49_0_4,u49_0_5,u49_0_6,rfl,u49_0__h0,u49_0__h1⟩
 have C := u49_0__h0.hlen
 subst C
 have C := u49_0__h1.hlen
 subst C
 refine gX 20 0 #[.bool y48.neg,.slice u49_0_1 y48.ln.length u49_0_3,.slice u49_0_4 y48.ld.length u49_0_6] fun w50 Y50 B50 => ?_
 refine yO (fun w51 Y51 C51 B51 => ?_)
 refine zz 5 <| zs 37 (v := .int .i64 (i64.wrap ((k34 : Int) + 1))) (v' := .int .i64 ((k34 : Int) + 1)) (zR (jE (wk0 k34) (wk1 Q35 hb34))) <| zz 2 ?_
 have T11_ := (Le5 B34 B43 B46 B49 B50).trans B51
 refine zP (fun a h => H34 (k34 + 1,y48,u49_0_1,u49_0_3,u49_0_4,u49_0_6) _ a h ⟨_,C51,T11_,(u49_0__h0.mono (Le2 B50 B51)),(u49_0__h1.mono (Le2 B50 B51)),hp⟩ ?_)
 exact vK Q35
 rw [List.drop_eq_nil_of_le (qI Q35),qP] at hp
 refine zz 5 ?_
 exact zP (fun a h => H33 (v34_1,a34_1_1,a34_1_2,a34_1_3,a34_1_4) _ a h ⟨_,C34,B34,P34_1_0,P34_1_1,hp⟩)
 have hp := iq Q14 hp
 refine zz 5 ?_
 exact zP (fun a h => H9 (v10_0,rb10_0,ad10_0,m10_0,cap10_0) _ a h ⟨_,C13,(Le2 B10 B13),(P10_0_0.mono B13),hp⟩)
noncomputable def qM (p0 : Int) (p1 : Int) : Option (Bool) :=
 if (p0) ≥ (i64.wrap ((0 : Int) - p1)) then (some (decide ((p0) ≤ p1))) else (some false)
include hX in
theorem yR (p0 : Int) (p1 : Int) (y : Bool) (hp : qM p0 p1 = some y) : Calls Tryz.prog 48 #[.int .i64 p0,.int .i64 p1] w (Ret E0 w fun _ v => v = .bool y) := by
 unfold qM at hp
 refine zen Tryz.func48 ?_
 have C0 : St E0 w X w X [] := St.start hX
 refine zz 12 <| zt 9 (p := (p0) ≥ (i64.wrap ((0 : Int) - p1))) (fun Q2 => ?_) (fun Q2 => ?_)
 have hp := ip Q2 hp
 refine zz 8 <| zr' (v := .bool (decide ((p0) ≤ p1))) ?_
 cases hp
 exact ⟨C0.upd,_,rfl,rfl⟩
 have hp := iq Q2 hp
 refine zz 8 <| zr' (v := .bool false) ?_
 cases hp
 exact ⟨C0.upd,_,rfl,rfl⟩
noncomputable def kK (p0 : Raw) : Option (Int) :=
 (rJ p0).bind fun y5 => if ((y5) == 0) = true then (if (p0.ln.length : Int) > 8 then (some 4) else (if (p0.ld.length : Int) > 8 then (some 4) else (some y5))) else (some y5)
include hX in
theorem nX (p0 : Raw) (vp0 : Value) (hp0 : vJ (rd w X) vp0 p0) (y : Int) (hp : kK p0 = some y) : Calls Tryz.prog 67 #[vp0] w (Ret E0 w fun _ v => v = .int .i64 y) := by
 have hVp0 := hp0
 obtain ⟨D1,D2,D3,D4,D5,D6,rfl,p0a_h0,p0a_h1⟩ := hp0
 have C := p0a_h0.hlen
 subst C
 have C := p0a_h1.hlen
 subst C
 unfold kK at hp
 refine zen Tryz.func67 ?_
 have C0 : St E0 w X w X [] := St.start hX
 refine zz 2 <| zn pn (.cells #[.bool p0.neg,.slice D1 p0.ln.length D3,.slice D4 p0.ld.length D6] 28 (0,0)) C0 fun b3 w3 Y3 C3 B3 V3 => zz 5 <| zo 0 C3 <| zQ hp fun y5 hy5 hp => zc C3 (aO _ X0 (zM _) p0 _ ((hVp0.mono B3).mono Le.x0) y5 hy5) ?_
 rintro v6 w6 C6 B6 V6 rfl
 refine zz 9 <| zb 8 (b := ((y5) == 0)) (fun T7 => ?_) (fun T7 => ?_)
 have hp := ipb T7 hp
 refine zz 1 <| zo 0 C6 <| zz 3 <| zt 13 (p := (p0.ln.length : Int) > 8) (fun Q8 => ?_) (fun Q8 => ?_)
 have hp := ip Q8 hp
 refine zz 20 <| zr' (v := .int .i64 4) ?_
 cases hp
 exact ⟨C6.upd,_,rfl,rfl⟩
 have hp := iq Q8 hp
 refine zz 1 <| zo 0 C6 <| zz 6 <| zt 19 (p := (p0.ld.length : Int) > 8) (fun Q9 => ?_) (fun Q9 => ?_)
 have hp := ip Q9 hp
 refine zz 12 <| zr' (v := .int .i64 4) ?_
 cases hp
 exact ⟨C6.upd,_,rfl,rfl⟩
 have hp := iq Q9 hp
 refine zz 10 <| zr' (v := .int .i64 y5) ?_
 cases hp
 exact ⟨C6.upd,_,rfl,rfl⟩
 have hp := iqb T7 hp
 refine zz 23 <| zr' (v := .int .i64 y5) ?_
 cases hp
 exact ⟨C6.upd,_,rfl,rfl⟩
noncomputable def jO (p0 : List zV) (J7 : Raw → Option (Int)) : List zV → Nat → Raw → Option (Int)
 | [],k17,v17_1 => J7 v17_1
 | x17 :: r17,k17,v17_1 => (qM (x17.delta) (100 : Int)).bind fun y21 => if (!y21) = true then (some 1) else (lt ((kK x17.p).bind fun y26 => if ((y26) != 0) = true then (some y26) else (if x17.p.neg = true then (some 1) else (if ((x17.p.ln.length : Int) == 0) = true then (some 1) else ((yM v17_1 x17.p).bind fun y32 => jO p0 J7 r17 (k17 + 1) y32)))) fun J24 => if (k17 : Int) > 0 then ((ix p0 (i64.wrap ((k17 : Int) - 1))).bind fun x38 => if (x17.delta) ≤ x38.delta then (some 16) else (J24)) else (J24))
noncomputable def xQ (p0 : List zV) : Option (Int) :=
 if ((p0.length : Int) == 0) = true then (some 3) else (if (p0.length : Int) > 5 then (some 4) else (lt (fun (v7_0 : Raw) => (xD (1 : Int)).bind fun y9 => (zY v7_0 y9).bind fun y12 => if (!y12) = true then (some 2) else (some 0)) fun J7 => jO p0 J7 (p0.drop 0) 0 Raw.zero))
include hX in
theorem mQ (p0 : List zV) (vp0 : Value) (hp0 : SV kQ (rd w X) vp0 p0) (y : Int) (hp : xQ p0 = some y) : Calls Tryz.prog 66 #[vp0] w (Ret E0 w fun _ v => v = .int .i64 y) := by
 obtain ⟨D1,D2,rfl,p0a_h0⟩ := hp0
 unfold xQ at hp
 refine zen Tryz.func66 ?_
 have C0 : St E0 w X w X [] := St.start hX
 refine zz 13 <| zb 8 (b := ((p0.length : Int) == 0)) (fun T2 => ?_) (fun T2 => ?_)
 have hp := ipb T2 hp
 refine zz 8 <| zr' (v := .int .i64 3) ?_
 cases hp
 exact ⟨C0.upd,_,rfl,rfl⟩
 have hp := iqb T2 hp
 refine zz 11 <| zt 11 (p := (p0.length : Int) > 5) (fun Q3 => ?_) (fun Q3 => ?_)
 have hp := ip Q3 hp
 refine zz 8 <| zr' (v := .int .i64 4) ?_
 cases hp
 exact ⟨C0.upd,_,rfl,rfl⟩
 have hp := iq Q3 hp
 refine zz 6 <| zn pn (.cells #[.bool false,.slice none 0 0,.slice none 0 0] 28 (0,0)) C0 fun b5 w5 Y5 C5 B5 V5 => zx 0 #[.bool false,.slice none 0 0,.slice none 0 0] C5 fun w6 C6 B6 => zz 2 ?_
 have C := rQ hp
 obtain ⟨J7,hJ7,hp⟩ := C
 refine yT (fun ((v7_0,a7_0_1,a7_0_2,a7_0_3,a7_0_4) : Raw × (Option Addr) × Nat × (Option Addr) × Nat) => [(3,.pointer (some ⟨b5,0,none⟩))]) (fun (v7_0,a7_0_1,a7_0_2,a7_0_3,a7_0_4) w1 => ∃ Y1 : Hid,St E0 w X w1 Y1 [(b5,.cells #[.bool v7_0.neg,.slice a7_0_1 v7_0.ln.length a7_0_2,.slice a7_0_3 v7_0.ld.length a7_0_4] 28 (0,0))] ∧ Le (rd w6 Y5) (rd w1 Y1) ∧ zL (rd w1 Y1) a7_0_1 v7_0.ln.length a7_0_2 v7_0.ln ∧ zL (rd w1 Y1) a7_0_3 v7_0.ld.length a7_0_4 v7_0.ld ∧ J7 v7_0 = some y) ?_ ?_
 rintro ⟨v7_0,a7_0_1,a7_0_2,a7_0_3,a7_0_4⟩ w7 ⟨Y7,C7,B7,P7_0_0,P7_0_1,hp⟩
 have hp := (hJ7 _).symm.trans hp
 refine zz 2 <| zdr C7 <| gw 0 0 <| zQ hp fun y9 hy9 hp => gC 1 (fun w8 Y8 _ C8 B8 => (rT _ X0 (zM _) (1 : Int) y9 hy9)) ?_
 rintro v10 w8 Y10 w10 C8 B10 ⟨u10_0_1,u10_0_2,u10_0_3,u10_0_4,u10_0_5,u10_0_6,rfl,u10_0__h0,u10_0__h1⟩
 have C := u10_0__h0.hlen
 subst C
 have C := u10_0__h1.hlen
 subst C
 refine zQ hp fun y12 hy12 hp => gC 2 (fun w11 Y11 _ C11 B11 => (qB _ X0 (zM _) v7_0 _ ⟨_,_,_,_,_,_,rfl,((P7_0_0.mono (Le2 B10 B11)).mono Le.x0),((P7_0_1.mono (Le2 B10 B11)).mono Le.x0)⟩ y9 _ ⟨_,_,_,_,_,_,rfl,(((u10_0__h0.mono (Le.new C8.lt)).mono B11).mono Le.x0),(((u10_0__h1.mono (Le.new C8.lt)).mono B11).mono Le.x0)⟩ y12 hy12)) ?_
 rintro v13 w11 Y13 w13 C11 B13 rfl
 refine gz [3] ?_
 refine yO (fun w14 Y14 C14 B14 => ?_)
 refine zz 1 <| zb 77 (b := !y12) (fun T15 => ?_) (fun T15 => ?_)
 have hp := ipb T15 hp
 refine zz 8 <| zr' (v := .int .i64 2) ?_
 cases hp
 exact ⟨C14.upd,_,rfl,rfl⟩
 have hp := iqb T15 hp
 refine zz 9 <| zr' (v := .int .i64 0) ?_
 cases hp
 exact ⟨C14.upd,_,rfl,rfl⟩
 intro K16 H16
 refine zz 6 ?_
 have hb17 : (p0.length : Int) ≤ 9223372036854775807 := rR (p0a_h0).hcap (p0a_h0).hbig
 refine zlp Tryz.f66 [K16] [1,1,1,1,9,1,0] (fun ((k17,v17_1,a17_1_1,a17_1_2,a17_1_3,a17_1_4) : Nat × Raw × (Option Addr) × Nat × (Option Addr) × Nat) => [(0,.slice D1 p0.length D2),(3,.pointer (some ⟨b5,0,none⟩)),(4,.int .i64 (k17 : Int))]) (fun (k17,v17_1,a17_1_1,a17_1_2,a17_1_3,a17_1_4) w1 => ∃ Y1 : Hid,St E0 w X w1 Y1 [(b5,.cells #[.bool v17_1.neg,.slice a17_1_1 v17_1.ln.length a17_1_2,.slice a17_1_3 v17_1.ld.length a17_1_4] 28 (0,0))] ∧ Le (rd w6 Y5) (rd w1 Y1) ∧ zL (rd w1 Y1) a17_1_1 v17_1.ln.length a17_1_2 v17_1.ln ∧ zL (rd w1 Y1) a17_1_3 v17_1.ld.length a17_1_4 v17_1.ld ∧ jO p0 J7 (p0.drop k17) k17 v17_1 = some y) (fun (k17,v17_1,a17_1_1,a17_1_2,a17_1_3,a17_1_4) => p0.length - k17) (0,Raw.zero,none,0,none,0) ?_ ?_
 exact ⟨_,C6,Le.refl _,zL.nil0,zL.nil0,hp⟩
 rintro ⟨k17,v17_1,a17_1_1,a17_1_2,a17_1_3,a17_1_4⟩ w17 K17 H17 ⟨Y17,C17,B17,P17_1_0,P17_1_1,hp⟩
 refine zz 9 <| zt 16 (p := (k17 : Int) < (p0.length : Int)) (fun Q18 => ?_) (fun Q18 => ?_)
 have C := xK (l := p0) (k := k17) (qR Q18)
 obtain ⟨x17,O17⟩ := C
 rw [wG O17,jO] at hp
 have L17 : (0 : Int) ≤ (k17 : Int) := Int.natCast_nonneg _
 refine zz 10 ?_
 have C := p0a_h0.opn O17
 obtain ⟨be19,oe19,rfl,B19,hEe19⟩ := C
 obtain ⟨e191,e192,e193,e194,e19_at,e19_h0,e19_h1⟩ := hEe19
 refine zi (b := be19) (off := oe19) (len := p0.length) (cap := D2) (kd := .i64) (i := (k17 : Int)) 4 (oe19 + k17 * 4) ?_ (h0 := L17) (h1 := (jS L17 B19))
 refine zz 1 <| zl ((e19_at.mono (Le3 B5 B6 B17)).sub 0 1).cells <| zQ hp fun y21 hy21 hp => zc C17 (yR _ X0 (zM _) (x17.delta) (100 : Int) y21 hy21) ?_
 rintro v22 w22 C22 B22 V22 rfl
 refine zz 3 <| zb 25 (b := !y21) (fun T23 => ?_) (fun T23 => ?_)
 have hp := ipb T23 hp
 refine zz 13 <| zr' (v := .int .i64 1) ?_
 cases hp
 exact ⟨C22.upd,_,rfl,rfl⟩
 have hp := iqb T23 hp
 refine zz 3 ?_
 have C := fG hp
 obtain ⟨J24,hJ24,hp⟩ := C
 refine yT (fun (_ : Unit) => [(0,.slice (some ⟨be19,oe19,none⟩) p0.length D2),(3,.pointer (some ⟨b5,0,none⟩)),(4,.int .i64 (k17 : Int))]) (fun _ w1 => ∃ Y1 : Hid,St E0 w X w1 Y1 [(b5,.cells #[.bool v17_1.neg,.slice a17_1_1 v17_1.ln.length a17_1_2,.slice a17_1_3 v17_1.ld.length a17_1_4] 28 (0,0))] ∧ Le (rd w22 Y17) (rd w1 Y1) ∧ J24 = some y) ?_ ?_
 rintro _ w24 ⟨Y24,C24,B24,hp⟩
 have hp := hJ24.symm.trans hp
 refine zz 4 <| zi (b := be19) (off := oe19) (len := p0.length) (cap := D2) (kd := .i64) (i := (k17 : Int)) 4 (oe19 + k17 * 4) ?_ (h0 := L17) (h1 := (jS L17 B19))
 refine zz 1 ?_
 have T1_ := (Le4 B5 B6 B17 B22).trans B24
 refine zl ((e19_at.mono T1_).sub 1 3).cells <| zQ hp fun y26 hy26 hp => zc C24 (nX _ X0 (zM _) x17.p _ ⟨_,_,_,_,_,_,rfl,((e19_h0.mono T1_).mono Le.x0),((e19_h1.mono T1_).mono Le.x0)⟩ y26 hy26) ?_
 rintro v27 w27 C27 B27 V27 rfl
 refine zz 10 <| zb 49 (b := ((y26) != 0)) (fun T28 => ?_) (fun T28 => ?_)
 have hp := ipb T28 hp
 refine zz 14 <| zr' (v := .int .i64 y26) ?_
 cases hp
 exact ⟨C27.upd,_,rfl,rfl⟩
 have hp := iqb T28 hp
 refine zz 8 <| zi (b := be19) (off := oe19) (len := p0.length) (cap := D2) (kd := .i64) (i := (k17 : Int)) 4 (oe19 + k17 * 4) ?_ (h0 := L17) (h1 := (jS L17 B19))
 refine zz 2 ?_
 have T2_ := T1_.trans B27
 refine zl ((e19_at.mono T2_).sub 1 1).cells <| zz 1 <| zb 57 (b := x17.p.neg) (fun T29 => ?_) (fun T29 => ?_)
 have hp := ipb T29 hp
 refine zz 24 <| zr' (v := .int .i64 1) ?_
 cases hp
 exact ⟨C27.upd,_,rfl,rfl⟩
 have hp := iqb T29 hp
 refine zz 2 <| zi (b := be19) (off := oe19) (len := p0.length) (cap := D2) (kd := .i64) (i := (k17 : Int)) 4 (oe19 + k17 * 4) ?_ (h0 := L17) (h1 := (jS L17 B19))
 refine zz 2 <| zl ((e19_at.mono T2_).sub 2 1).cells <| zz 5 <| zb 66 (b := ((x17.p.ln.length : Int) == 0)) (fun T30 => ?_) (fun T30 => ?_)
 have hp := ipb T30 hp
 refine zz 13 <| zr' (v := .int .i64 1) ?_
 cases hp
 exact ⟨C27.upd,_,rfl,rfl⟩
 have hp := iqb T30 hp
 refine zz 3 <| zdr C27 <| gw 0 0 <| gz [1,2] <| gi 3 (b := be19) (off := oe19) (len := p0.length) (cap := D2) (kd := .i64) (i := (k17 : Int)) 4 (oe19 + k17 * 4) ?_ (h0 := L17) (h1 := (jS L17 B19))
 refine gz [4] <| gl 5 ((e19_at.mono T2_).sub 1 3) ?_
 have T3_ := (Le2 B22 B24).trans B27
 refine zQ hp fun y32 hy32 hp => gC 6 (fun w31 Y31 _ C31 B31 => (wM _ _ C31.lt v17_1 _ ⟨_,_,_,_,_,_,rfl,(P17_1_0.mono (T3_.trans B31)),(P17_1_1.mono (T3_.trans B31))⟩ x17.p _ ⟨_,_,_,_,_,_,rfl,(e19_h0.mono (T2_.trans B31)),(e19_h1.mono (T2_.trans B31))⟩ y32 hy32)) ?_
 rintro v33 w31 Y33 w33 C31 B33 ⟨u33_0_1,u33_0_2,u33_0_3,u33_0_4,u33_0_5,u33_0_6,rfl,u33_0__h0,u33_0__h1⟩
 have C := u33_0__h0.hlen
 subst C
 have C := u33_0__h1.hlen
 subst C
 refine gX 7 0 #[.bool y32.neg,.slice u33_0_1 y32.ln.length u33_0_3,.slice u33_0_4 y32.ld.length u33_0_6] fun w34 Y34 B34 => ?_
 refine yO (fun w35 Y35 C35 B35 => ?_)
 refine zz 5 <| zs 18 (v := .int .i64 (i64.wrap ((k17 : Int) + 1))) (v' := .int .i64 ((k17 : Int) + 1)) (zR (jE (wk0 k17) (wk1 Q18 hb17))) <| zz 2 ?_
 have T4_ := (Le6 B17 B22 B24 B27 B33 B34).trans B35
 refine zP (fun a h => H17 (k17 + 1,y32,u33_0_1,u33_0_3,u33_0_4,u33_0_6) _ a h ⟨_,C35,T4_,(u33_0__h0.mono (Le2 B34 B35)),(u33_0__h1.mono (Le2 B34 B35)),hp⟩ ?_)
 exact vK Q18
 intro K36 H36
 refine zz 1 <| zdr C22 <| gz [0,1,2] <| gt 28 (p := (k17 : Int) > 0) (fun Q37 => ?_) (fun Q37 => ?_)
 have hp := ip Q37 hp
 refine gz [3,4] <| gi 5 (b := be19) (off := oe19) (len := p0.length) (cap := D2) (kd := .i64) (i := (k17 : Int)) 4 (oe19 + k17 * 4) ?_ (h0 := L17) (h1 := (jS L17 B19))
 have T5_ := (Le3 B5 B6 B17).trans B22
 refine gz [6] <| gl 7 ((e19_at.mono T5_).sub 0 1) <| zQ hp fun x38 hx38 hp => ?_
 have C := jU hx38
 obtain ⟨L38,O38⟩ := C
 have C := p0a_h0.opn2 O38
 obtain ⟨B39,hEe39⟩ := C
 obtain ⟨e391,e392,e393,e394,e39_at,e39_h0,e39_h1⟩ := hEe39
 refine gz [8,9,10] <| gi 11 (b := be19) (off := oe19) (len := p0.length) (cap := D2) (kd := .i64) (i := i64.wrap ((k17 : Int) - 1)) 4 (oe19 + (i64.wrap ((k17 : Int) - 1)).toNat * 4) ?_ (h0 := L38) (h1 := (jS L38 B39))
 have T6_ := (Le3 B5 B6 B17).trans B22
 refine gz [12] <| gl 13 ((e39_at.mono T6_).sub 0 1) <| gz [14,15] ?_
 refine yO (fun w40 Y40 C40 B40 => ?_)
 refine zz 1 <| zt 41 (p := (x17.delta) ≤ x38.delta) (fun Q41 => ?_) (fun Q41 => ?_)
 have hp := ip Q41 hp
 refine zz 13 <| zr' (v := .int .i64 16) ?_
 cases hp
 exact ⟨C40.upd,_,rfl,rfl⟩
 have hp := iq Q41 hp
 refine zz 2 ?_
 exact zP (fun a h => H36 () _ a h ⟨_,C40,B40,hp⟩)
 have hp := iq Q37 hp
 refine gz [3,4,5,6,7,8,9,10,11,12,13,14,15] ?_
 refine yO (fun w42 Y42 C42 B42 => ?_)
 refine zz 3 ?_
 exact zP (fun a h => H36 () _ a h ⟨_,C42,B42,hp⟩)
 rw [List.drop_eq_nil_of_le (qI Q18),jO] at hp
 refine zz 5 ?_
 exact zP (fun a h => H16 (v17_1,a17_1_1,a17_1_2,a17_1_3,a17_1_4) _ a h ⟨_,C17,B17,P17_1_0,P17_1_1,hp⟩)
noncomputable def yQ (p0 : zO) : Option ((List (List Int))) :=
 some ([p0.height,p0.own,p0.other])
include hX in
theorem tN (p0 : zO) (vp0 : Value) (hp0 : zW (rd w X) vp0 p0) (y : (List (List Int))) (hp : yQ p0 = some y) : Calls Tryz.prog 65 #[vp0] w (Ret E0 w fun w' v => SV dC (rd w' X) v y) := by
 have hVp0 := hp0
 refine zW.op hp0 fun D1 D2 D3 D4 D5 D6 D7 D8 D9 D10 D11 D12 D13 D14 D15 D16 D17 D18 D19 D20 D21 D22 D23 D24 hv9 p0a_h0 p0a_h1 p0a_h2 p0a_h3 p0a_h4 p0a_h5 p0a_h6 p0a_h7 p0a_h8 p0a_h9 p0a_h10 p0a_h11 => ?_
 subst hv9
 unfold yQ at hp
 refine zen Tryz.func65 ?_
 have C0 : St E0 w X w X [] := St.start hX
 refine zz 2 <| zn pn (.cells (qDr p0 D1 D2 D3 D4 D5 D6 D7 D8 D9 D10 D11 D12 D13 D14 D15 D16 D17 D18 D19 D20 D21 D22 D23 D24) 30 (0,0)) C0 fun b3 w3 Y3 C3 B3 V3 => zz 6 <| zo 0 C3 <| zz 1 <| zo 0 C3 <| zz 1 <| zo 0 C3 <| zn (fun b => .slice (some ⟨b,0,none⟩) 3 3) (.cells #[.slice D1 p0.height.length D2,.slice D3 p0.own.length D4,.slice D5 p0.other.length D6] 22 (0,0)) C3 fun b5 w5 Y5 C5 B5 V5 => ?_
 refine zz 4 <| zr' (v := .slice (some ⟨b5,0,none⟩) 3 3) ?_
 have C := St.pubAt 0 C5 rfl
 obtain ⟨Y6,hSx6,B6,hat6,hatN6⟩ := C
 have C6 : St E0 w X w5 Y6 [(b3,.cells (qDr p0 D1 D2 D3 D4 D5 D6 D7 D8 D9 D10 D11 D12 D13 D14 D15 D16 D17 D18 D19 D20 D21 D22 D23 D24) 30 (0,0))] := hSx6
 have hR6 : dC (rd w5 Y6) (some ⟨b5,0,none⟩) 3 3 [p0.height,p0.own,p0.other] := (SlR.lit (El := zAg) (size := 1) (n := 3) [⟨p0.height,[.slice D1 p0.height.length D2]⟩,⟨p0.own,[.slice D3 p0.own.length D4]⟩,⟨p0.other,[.slice D5 p0.other.length D6]⟩] hat6 (List.forall_mem_cons.2 ⟨⟨rfl,fun r2 h2 b o h9 => ⟨_,_,h9,((p0a_h0.mono (Le3 B3 B5 B6)).mono h2)⟩⟩,(List.forall_mem_cons.2 ⟨⟨rfl,fun r2 h2 b o h9 => ⟨_,_,h9,((p0a_h1.mono (Le3 B3 B5 B6)).mono h2)⟩⟩,(List.forall_mem_cons.2 ⟨⟨rfl,fun r2 h2 b o h9 => ⟨_,_,h9,((p0a_h2.mono (Le3 B3 B5 B6)).mono h2)⟩⟩,(List.forall_mem_nil _)⟩)⟩)⟩) rfl (by decide))
 cases hp
 exact ⟨C6.upd,_,rfl,⟨_,_,rfl,(hR6).mono C6.le⟩⟩
noncomputable def qG (p0 : zO) : Option (Int) :=
 (some (i64.wrap ((i64.wrap ((p0.height.length : Int) * (p0.own.length : Int))) * (p0.other.length : Int)))).bind fun z4 => some z4
include hX in
theorem vZ (p0 : zO) (vp0 : Value) (hp0 : zW (rd w X) vp0 p0) (y : Int) (hp : qG p0 = some y) : Calls Tryz.prog 47 #[vp0] w (Ret E0 w fun _ v => v = .int .i64 y) := by
 have hVp0 := hp0
 refine zW.op hp0 fun D1 D2 D3 D4 D5 D6 D7 D8 D9 D10 D11 D12 D13 D14 D15 D16 D17 D18 D19 D20 D21 D22 D23 D24 hv9 p0a_h0 p0a_h1 p0a_h2 p0a_h3 p0a_h4 p0a_h5 p0a_h6 p0a_h7 p0a_h8 p0a_h9 p0a_h10 p0a_h11 => ?_
 subst hv9
 unfold qG at hp
 refine zen Tryz.func47 ?_
 have C0 : St E0 w X w X [] := St.start hX
 refine zz 2 <| zn pn (.cells (qDr p0 D1 D2 D3 D4 D5 D6 D7 D8 D9 D10 D11 D12 D13 D14 D15 D16 D17 D18 D19 D20 D21 D22 D23 D24) 30 (0,0)) C0 fun b3 w3 Y3 C3 B3 V3 => zz 6 <| zo 0 C3 <| zz 2 <| zo 0 C3 <| zz 3 <| zo 0 C3 <| zQ hp fun z4 hz4 hp => ?_
 refine zz 2 <| zs 13 (v := .int .i64 (i64.wrap ((i64.wrap ((p0.height.length : Int) * (p0.own.length : Int))) * (p0.other.length : Int)))) (v' := .int .i64 z4) (zR (Option.some.inj hz4)) <| zz 4 <| zr' (v := .int .i64 z4) ?_
 cases hp
 exact ⟨C3.upd,_,rfl,rfl⟩
noncomputable def yI (p0 : zO) (J26 : Option (Int)) : Nat → Nat → Option (Int)
 | 0,k33 => J26
 | r33 + 1,k33 => (ix ([p0.alert,p0.strengthen,p0.reversal]) (k33 : Int)).bind fun x38 => (kK x38).bind fun y44 => if ((y44) != 0) = true then (some y44) else (if x38.neg = true then (some 1) else (yI p0 J26 r33 (k33 + 1)))
noncomputable def yH (J14 : Option (Int)) : List qJ → Option (Int)
 | [] => J14
 | x54 :: r54 => lt (if (x54.lo) > x54.hi then (some 1) else ((qM (x54.lo) (100 : Int)).bind fun y63 => if (!y63) = true then (some 1) else ((qM (x54.hi) (100 : Int)).bind fun y67 => if (!y67) = true then (some 1) else (yH J14 r54 )))) fun J60 => if ((x54.sense) != 1) = true then (if ((x54.sense) != 2) = true then (some 6) else (J60)) else (J60)
noncomputable def yJ (p0 : zO) (k74 : Nat) (J76 : Option (Int)) (v78_0 : Int) : Nat → Nat → Option (Int)
 | 0,_ => none
 | n79 + 1,k79 => (yQ p0).bind fun y81 => (ix y81 (k74 : Int)).bind fun x83 => if (k79 : Int) < (x83.length : Int) then ((yQ p0).bind fun y87 => (ix y87 (k74 : Int)).bind fun x89 => (ix x89 (k79 : Int)).bind fun x91 => (qM (x91) (v78_0)).bind fun y94 => if (!y94) = true then (some 1) else (yJ p0 k74 J76 v78_0 n79 (k79 + 1))) else (J76)
noncomputable def jF (p0 : zO) (J11 : Option (Int)) : Nat → Nat → Option (Int)
 | 0,k74 => J11
 | r74 + 1,k74 => lt (jF p0 J11 r74 (k74 + 1)) fun J76 => lt (fun (v78_0 : Int) => yJ p0 k74 J76 v78_0 (p0.height.length + p0.own.length + p0.other.length + 1) 0) fun J78 => if ((k74 : Int) == 0) = true then (J78 50000) else (J78 100)
noncomputable def jQ (p0 : zO) : Option (Int) :=
 (yQ p0).bind fun y5 => (xV y5).bind fun y8 => if ((y8) != 0) = true then (some y8) else (lt (if ((p0.advisories.length : Int) == 0) = true then (some 3) else (if (p0.advisories.length : Int) > 6 then (some 4) else (lt (if (p0.pull) < 0 then (some 1) else (if (p0.pull) > 100 then (some 1) else (if (p0.near) < 0 then (some 1) else (if (p0.near) > 50000 then (some 1) else (if (p0.steps) < 0 then (some 1) else (if (p0.steps) > 24 then (some 1) else ((xQ p0.ownNoise).bind fun y22 => lt (fun (v24_0 : Int) => if ((v24_0) != 0) = true then (some v24_0) else (lt ((qG p0).bind fun y28 => if (i64.wrap ((y28) * (p0.advisories.length : Int))) > 200 then (some 10) else (some 0)) fun J26 => yI p0 J26 ((3 : Int).toNat - 0) 0)) fun J24 => if ((y22) == 0) = true then ((xQ p0.otherNoise).bind fun y51 => J24 y51) else (J24 y22)))))))) fun J14 => yH J14 (p0.advisories.drop 1) ))) fun J11 => jF p0 J11 ((3 : Int).toNat - 0) 0)
include hX in
theorem xR (p0 : zO) (vp0 : Value) (hp0 : zW (rd w X) vp0 p0) (y : Int) (hp : jQ p0 = some y) : Calls Tryz.prog 22 #[vp0] w (Ret E0 w fun _ v => v = .int .i64 y) := by
 have hVp0 := hp0
 refine zW.op hp0 fun D1 D2 D3 D4 D5 D6 D7 D8 D9 D10 D11 D12 D13 D14 D15 D16 D17 D18 D19 D20 D21 D22 D23 D24 hv9 p0a_h0 p0a_h1 p0a_h2 p0a_h3 p0a_h4 p0a_h5 p0a_h6 p0a_h7 p0a_h8 p0a_h9 p0a_h10 p0a_h11 => ?_
 subst hv9
 unfold jQ at hp
 refine zen Tryz.func22 ?_
 have C0 : St E0 w X w X [] := St.start hX
 refine zz 2 <| zn pn (.cells (qDr p0 D1 D2 D3 D4 D5 D6 D7 D8 D9 D10 D11 D12 D13 D14 D15 D16 D17 D18 D19 D20 D21 D22 D23 D24) 30 (0,0)) C0 fun b3 w3 Y3 C3 B3 V3 => zz 5 <| zo 0 C3 <| zQ hp fun y5 hy5 hp => zc C3 (tN _ _ C3.lt p0 _ (hVp0.mono B3) y5 hy5) ?_
 rintro v6 w6 C6 B6 V6 ⟨u6_0_1,u6_0_2,rfl,u6_0__h0⟩
 refine zQ hp fun y8 hy8 hp => zc C6 (mR _ X0 (zM _) y5 _ ⟨_,_,rfl,(u6_0__h0.mono Le.x0)⟩ y8 hy8) ?_
 rintro v9 w9 C9 B9 V9 rfl
 refine zz 10 <| zb 15 (b := ((y8) != 0)) (fun T10 => ?_) (fun T10 => ?_)
 have hp := ipb T10 hp
 refine zz 9 <| zr' (v := .int .i64 y8) ?_
 cases hp
 exact ⟨C9.upd,_,rfl,rfl⟩
 have hp := iqb T10 hp
 refine zz 3 ?_
 have C := fG hp
 obtain ⟨J11,hJ11,hp⟩ := C
 refine yT (fun (_ : Unit) => [(1,.pointer (some ⟨b3,0,none⟩))]) (fun _ w1 => ∃ Y1 : Hid,St E0 w X w1 Y1 [(b3,.cells (qDr p0 D1 D2 D3 D4 D5 D6 D7 D8 D9 D10 D11 D12 D13 D14 D15 D16 D17 D18 D19 D20 D21 D22 D23 D24) 30 (0,0))] ∧ Le (rd w9 Y3) (rd w1 Y1) ∧ J11 = some y) ?_ ?_
 rintro _ w11 ⟨Y11,C11,B11,hp⟩
 have hp := hJ11.symm.trans hp
 refine zz 4 <| zo 0 C11 <| zz 4 <| zb 47 (b := ((p0.advisories.length : Int) == 0)) (fun T12 => ?_) (fun T12 => ?_)
 have hp := ipb T12 hp
 refine zz 8 <| zr' (v := .int .i64 3) ?_
 cases hp
 exact ⟨C11.upd,_,rfl,rfl⟩
 have hp := iqb T12 hp
 refine zz 7 <| zo 0 C11 <| zz 4 <| zt 51 (p := (p0.advisories.length : Int) > 6) (fun Q13 => ?_) (fun Q13 => ?_)
 have hp := ip Q13 hp
 refine zz 8 <| zr' (v := .int .i64 4) ?_
 cases hp
 exact ⟨C11.upd,_,rfl,rfl⟩
 have hp := iq Q13 hp
 refine zz 3 ?_
 have C := fG hp
 obtain ⟨J14,hJ14,hp⟩ := C
 refine yT (fun (_ : Unit) => [(1,.pointer (some ⟨b3,0,none⟩))]) (fun _ w1 => ∃ Y1 : Hid,St E0 w X w1 Y1 [(b3,.cells (qDr p0 D1 D2 D3 D4 D5 D6 D7 D8 D9 D10 D11 D12 D13 D14 D15 D16 D17 D18 D19 D20 D21 D22 D23 D24) 30 (0,0))] ∧ Le (rd w11 Y11) (rd w1 Y1) ∧ J14 = some y) ?_ ?_
 rintro _ w14 ⟨Y14,C14,B14,hp⟩
 have hp := hJ14.symm.trans hp
 refine zz 4 <| zo 0 C14 <| zz 2 <| zt 92 (p := (p0.pull) < 0) (fun Q15 => ?_) (fun Q15 => ?_)
 have hp := ip Q15 hp
 refine zz 34 <| zr' (v := .int .i64 1) ?_
 cases hp
 exact ⟨C14.upd,_,rfl,rfl⟩
 have hp := iq Q15 hp
 refine zz 1 <| zo 0 C14 <| zz 3 <| zt 97 (p := (p0.pull) > 100) (fun Q16 => ?_) (fun Q16 => ?_)
 have hp := ip Q16 hp
 refine zz 29 <| zr' (v := .int .i64 1) ?_
 cases hp
 exact ⟨C14.upd,_,rfl,rfl⟩
 have hp := iq Q16 hp
 refine zz 1 <| zo 0 C14 <| zz 3 <| zt 102 (p := (p0.near) < 0) (fun Q17 => ?_) (fun Q17 => ?_)
 have hp := ip Q17 hp
 refine zz 24 <| zr' (v := .int .i64 1) ?_
 cases hp
 exact ⟨C14.upd,_,rfl,rfl⟩
 have hp := iq Q17 hp
 refine zz 1 <| zo 0 C14 <| zz 3 <| zt 107 (p := (p0.near) > 50000) (fun Q18 => ?_) (fun Q18 => ?_)
 have hp := ip Q18 hp
 refine zz 19 <| zr' (v := .int .i64 1) ?_
 cases hp
 exact ⟨C14.upd,_,rfl,rfl⟩
 have hp := iq Q18 hp
 refine zz 1 <| zo 0 C14 <| zz 3 <| zt 112 (p := (p0.steps) < 0) (fun Q19 => ?_) (fun Q19 => ?_)
 have hp := ip Q19 hp
 refine zz 14 <| zr' (v := .int .i64 1) ?_
 cases hp
 exact ⟨C14.upd,_,rfl,rfl⟩
 have hp := iq Q19 hp
 refine zz 1 <| zo 0 C14 <| zz 4 <| zt 116 (p := (p0.steps) > 24) (fun Q20 => ?_) (fun Q20 => ?_)
 have hp := ip Q20 hp
 refine zz 8 <| zr' (v := .int .i64 1) ?_
 cases hp
 exact ⟨C14.upd,_,rfl,rfl⟩
 have hp := iq Q20 hp
 refine zz 6 <| zo 0 C14 ?_
 have T1_ := (Le4 B3 B6 B9 B11).trans B14
 refine zQ hp fun y22 hy22 hp => zc C14 (mQ _ X0 (zM _) p0.ownNoise _ ⟨_,_,rfl,((p0a_h4.mono T1_).mono Le.x0)⟩ y22 hy22) ?_
 rintro v23 w23 C23 B23 V23 rfl
 refine zz 3 ?_
 have C := rQ hp
 obtain ⟨J24,hJ24,hp⟩ := C
 refine yT (fun (v24_0 : Int) => [(3,.int .i64 v24_0),(1,.pointer (some ⟨b3,0,none⟩))]) (fun v24_0 w1 => ∃ Y1 : Hid,St E0 w X w1 Y1 [(b3,.cells (qDr p0 D1 D2 D3 D4 D5 D6 D7 D8 D9 D10 D11 D12 D13 D14 D15 D16 D17 D18 D19 D20 D21 D22 D23 D24) 30 (0,0))] ∧ Le (rd w23 Y14) (rd w1 Y1) ∧ J24 v24_0 = some y) ?_ ?_
 rintro v24_0 w24 ⟨Y24,C24,B24,hp⟩
 have hp := (hJ24 _).symm.trans hp
 refine zz 7 <| zb 126 (b := ((v24_0) != 0)) (fun T25 => ?_) (fun T25 => ?_)
 have hp := ipb T25 hp
 refine zz 9 <| zr' (v := .int .i64 v24_0) ?_
 cases hp
 exact ⟨C24.upd,_,rfl,rfl⟩
 have hp := iqb T25 hp
 refine zz 3 ?_
 have C := fG hp
 obtain ⟨J26,hJ26,hp⟩ := C
 refine yT (fun (_ : Unit) => [(1,.pointer (some ⟨b3,0,none⟩))]) (fun _ w1 => ∃ Y1 : Hid,St E0 w X w1 Y1 [(b3,.cells (qDr p0 D1 D2 D3 D4 D5 D6 D7 D8 D9 D10 D11 D12 D13 D14 D15 D16 D17 D18 D19 D20 D21 D22 D23 D24) 30 (0,0))] ∧ Le (rd w24 Y24) (rd w1 Y1) ∧ J26 = some y) ?_ ?_
 rintro _ w26 ⟨Y26,C26,B26,hp⟩
 have hp := hJ26.symm.trans hp
 refine zz 2 <| zdr C26 <| gw 0 0 <| gz [2] <| gw 3 0 <| gz [4] ?_
 have T2_ := ((T1_.trans B23).trans B24).trans B26
 refine zQ hp fun y28 hy28 hp => gC 1 (fun w27 Y27 _ C27 B27 => (vZ _ X0 (zM _) p0 _ ((hVp0.mono (T2_.trans B27)).mono Le.x0) y28 hy28)) ?_
 rintro v29 w27 Y29 w29 C27 B29 rfl
 refine gz [5,6] ?_
 refine yO (fun w30 Y30 C30 B30 => ?_)
 refine zz 1 <| zt 155 (p := (i64.wrap ((y28) * (p0.advisories.length : Int))) > 200) (fun Q31 => ?_) (fun Q31 => ?_)
 have hp := ip Q31 hp
 refine zz 8 <| zr' (v := .int .i64 10) ?_
 cases hp
 exact ⟨C30.upd,_,rfl,rfl⟩
 have hp := iq Q31 hp
 refine zz 9 <| zr' (v := .int .i64 0) ?_
 cases hp
 exact ⟨C30.upd,_,rfl,rfl⟩
 intro K32 H32
 refine zz 6 <| zlp Tryz.f22 [K32] [1,1,1,1,1,1,1,1,1,1,1,9,1,0] (fun (k33 : Nat) => [(1,.pointer (some ⟨b3,0,none⟩)),(9,.int .i64 (k33 : Int))]) (fun (k33 : Nat) w1 => ∃ Y1 : Hid,St E0 w X w1 Y1 [(b3,.cells (qDr p0 D1 D2 D3 D4 D5 D6 D7 D8 D9 D10 D11 D12 D13 D14 D15 D16 D17 D18 D19 D20 D21 D22 D23 D24) 30 (0,0))] ∧ Le (rd w24 Y24) (rd w1 Y1) ∧ yI p0 J26 ((3 : Int).toNat - k33) k33 = some y) (fun (k33 : Nat) => (3 : Int).toNat - k33) 0 ?_ ?_
 exact ⟨_,C24,Le.refl _,hp⟩
 rintro k33 w33 K33 H33 ⟨Y33,C33,B33,hp⟩
 refine zz 7 <| zt 129 (p := (k33 : Int) < 3) (fun Q34 => ?_) (fun Q34 => ?_)
 have C := dG (N := (3 : Int)) (k := k33) Q34
 obtain ⟨r33,hm33,hn33⟩ := C
 rw [hm33,yI] at hp
 refine zz 8 <| zo 0 C33 <| zz 1 <| zo 0 C33 <| zz 1 <| zo 0 C33 <| zn (fun b => .slice (some ⟨b,0,none⟩) 3 3) (.cells #[.bool p0.alert.neg,.slice D13 p0.alert.ln.length D14,.slice D15 p0.alert.ld.length D16,.bool p0.strengthen.neg,.slice D17 p0.strengthen.ln.length D18,.slice D19 p0.strengthen.ld.length D20,.bool p0.reversal.neg,.slice D21 p0.reversal.ln.length D22,.slice D23 p0.reversal.ld.length D24] 28 (0,0)) C33 fun b36 w36 Y36 C36 B36 V36 => zz 1 ?_
 have C := St.pubAt 0 C36 rfl
 obtain ⟨Y37,hSx37,B37,hat37,hatN37⟩ := C
 have C37 : St E0 w X w36 Y37 [(b3,.cells (qDr p0 D1 D2 D3 D4 D5 D6 D7 D8 D9 D10 D11 D12 D13 D14 D15 D16 D17 D18 D19 D20 D21 D22 D23 D24) 30 (0,0))] := hSx37
 have T3_ := ((((T1_.trans B23).trans B24).trans B33).trans B36).trans B37
 have hR37 : nO (rd w36 Y37) (some ⟨b36,0,none⟩) 3 3 [p0.alert,p0.strengthen,p0.reversal] := (nO.ofSl (SlR.lit (El := aJ) (size := 3) (n := 3) [⟨p0.alert,[.bool p0.alert.neg,.slice D13 p0.alert.ln.length D14,.slice D15 p0.alert.ld.length D16]⟩,⟨p0.strengthen,[.bool p0.strengthen.neg,.slice D17 p0.strengthen.ln.length D18,.slice D19 p0.strengthen.ld.length D20]⟩,⟨p0.reversal,[.bool p0.reversal.neg,.slice D21 p0.reversal.ln.length D22,.slice D23 p0.reversal.ld.length D24]⟩] hat37 (List.forall_mem_cons.2 ⟨⟨rfl,fun r2 h2 b o h9 => ⟨_,_,_,_,_,_,h9,((p0a_h6.mono T3_).mono h2),((p0a_h7.mono T3_).mono h2)⟩⟩,(List.forall_mem_cons.2 ⟨⟨rfl,fun r2 h2 b o h9 => ⟨_,_,_,_,_,_,h9,((p0a_h8.mono T3_).mono h2),((p0a_h9.mono T3_).mono h2)⟩⟩,(List.forall_mem_cons.2 ⟨⟨rfl,fun r2 h2 b o h9 => ⟨_,_,_,_,_,_,h9,((p0a_h10.mono T3_).mono h2),((p0a_h11.mono T3_).mono h2)⟩⟩,(List.forall_mem_nil _)⟩)⟩)⟩) rfl (by decide)))
 refine zQ hp fun x38 hx38 hp => ?_
 have C := jU hx38
 obtain ⟨L38,O38⟩ := C
 have hwx38 : ([p0.alert,p0.strengthen,p0.reversal])[k33]? = some x38 := O38
 have C := hR37.sl.opn2 hwx38
 obtain ⟨B39,hEe39⟩ := C
 obtain ⟨e391,e392,e393,e394,e395,e396,e39_at,e39_h0,e39_h1⟩ := hEe39
 have C := e39_h0.hlen
 subst C
 have C := e39_h1.hlen
 subst C
 refine zi (b := b36) (off := 0) (len := 3) (cap := 3) (kd := .i64) (i := (k33 : Int)) 3 (0 + k33 * 3) ?_ (h0 := L38) (h1 := (jS L38 B39))
 refine zl (e39_at).cells <| zn pn (.cells #[.bool false,.slice none 0 0,.slice none 0 0] 28 (0,0)) C37 fun b41 w41 Y41 C41 B41 V41 => zx 0 #[.bool x38.neg,.slice e391 x38.ln.length e393,.slice e394 x38.ld.length e396] C41 fun w42 C42 B42 => zz 4 <| zo 0 C42 <| zQ hp fun y44 hy44 hp => zc C42 (nX _ X0 (zM _) x38 _ ⟨_,_,_,_,_,_,rfl,((e39_h0.mono (Le2 B41 B42)).mono Le.x0),((e39_h1.mono (Le2 B41 B42)).mono Le.x0)⟩ y44 hy44) ?_
 rintro v45 w45 C45 B45 V45 rfl
 refine zz 10 <| zb 145 (b := ((y44) != 0)) (fun T46 => ?_) (fun T46 => ?_)
 have hp := ipb T46 hp
 refine zz 14 <| zr' (v := .int .i64 y44) ?_
 cases hp
 exact ⟨C45.upd,_,rfl,rfl⟩
 have hp := iqb T46 hp
 refine zz 6 <| zo 0 C45 <| zz 2 <| zb 148 (b := x38.neg) (fun T47 => ?_) (fun T47 => ?_)
 have hp := ipb T47 hp
 refine zz 12 <| zr' (v := .int .i64 1) ?_
 cases hp
 exact ⟨C45.upd,_,rfl,rfl⟩
 have hp := iqb T47 hp
 refine zz 7 <| zs 131 (v := .int .i64 (i64.wrap ((k33 : Int) + 1))) (v' := .int .i64 ((k33 : Int) + 1)) (zR (jE (wk0 k33) (wk1 Q34 (by decide)))) <| zz 2 ?_
 have T4_ := (Le5 B33 B36 B37 B41 B42).trans B45
 refine zP (fun a h => H33 (k33 + 1) _ a h ⟨_,C45.tail,T4_,(by rw [hn33]; exact hp)⟩ ?_)
 exact lD Q34
 rw [fV (N := (3 : Int)) Q34,yI] at hp
 refine zz 5 ?_
 exact zP (fun a h => H32 () _ a h ⟨_,C33,B33,hp⟩)
 intro K48 H48
 refine zz 6 <| zb 121 (b := ((y22) == 0)) (fun T49 => ?_) (fun T49 => ?_)
 have hp := ipb T49 hp
 refine zz 3 <| zo 0 C23 ?_
 have T5_ := T1_.trans B23
 refine zQ hp fun y51 hy51 hp => zc C23 (mQ _ X0 (zM _) p0.otherNoise _ ⟨_,_,rfl,((p0a_h5.mono T5_).mono Le.x0)⟩ y51 hy51) ?_
 rintro v52 w52 C52 B52 V52 rfl
 refine zz 2 ?_
 exact zP (fun a h => H48 y51 _ a h ⟨_,C52,B52,hp⟩)
 have hp := iqb T49 hp
 refine zz 2 ?_
 exact zP (fun a h => H48 y22 _ a h ⟨_,C23,(Le.refl _),hp⟩)
 intro K53 H53
 refine zz 6 ?_
 have hb54 : (p0.advisories.length : Int) ≤ 9223372036854775807 := rR (p0a_h3).hcap (p0a_h3).hbig
 refine zlp Tryz.f22 [K53] [1,1,1,1,1,1,9,1,0] (fun (k54 : Nat) => [(1,.pointer (some ⟨b3,0,none⟩)),(7,.int .i64 (k54 : Int))]) (fun k54 w1 => ∃ Y1 : Hid,St E0 w X w1 Y1 [(b3,.cells (qDr p0 D1 D2 D3 D4 D5 D6 D7 D8 D9 D10 D11 D12 D13 D14 D15 D16 D17 D18 D19 D20 D21 D22 D23 D24) 30 (0,0))] ∧ Le (rd w11 Y11) (rd w1 Y1) ∧ yH J14 (p0.advisories.drop k54)  = some y) (fun k54 => p0.advisories.length - k54) 1 ?_ ?_
 exact ⟨_,C11,Le.refl _,hp⟩
 rintro k54 w54 K54 H54 ⟨Y54,C54,B54,hp⟩
 refine zz 5 <| zo 0 C54 <| zz 4 <| zt 56 (p := (k54 : Int) < (p0.advisories.length : Int)) (fun Q55 => ?_) (fun Q55 => ?_)
 have C := xK (l := p0.advisories) (k := k54) (qR Q55)
 obtain ⟨x54,O54⟩ := C
 rw [wG O54,yH] at hp
 have L54 : (0 : Int) ≤ (k54 : Int) := Int.natCast_nonneg _
 refine zz 8 <| zo 0 C54 <| zz 1 ?_
 have C := p0a_h3.opn O54
 obtain ⟨be56,oe56,rfl,B56,hEe56⟩ := C
 have e56_at : At (rd w X) ⟨be56,oe56 + k54 * 3,none⟩ [.int .u8 x54.sense,.int .i64 x54.lo,.int .i64 x54.hi] := hEe56
 refine zi (b := be56) (off := oe56) (len := p0.advisories.length) (cap := D8) (kd := .i64) (i := (k54 : Int)) 3 (oe56 + k54 * 3) ?_ (h0 := L54) (h1 := (jS L54 B56))
 have T6_ := (Le4 B3 B6 B9 B11).trans B54
 refine zl ((e56_at.mono T6_)).cells <| zn pn (.cells #[.int .u8 0,.int .i64 0,.int .i64 0] 96 (0,0)) C54 fun b58 w58 Y58 C58 B58 V58 => zx 0 #[.int .u8 x54.sense,.int .i64 x54.lo,.int .i64 x54.hi] C58 fun w59 C59 B59 => zz 2 ?_
 have C := fG hp
 obtain ⟨J60,hJ60,hp⟩ := C
 refine yT (fun (_ : Unit) => [(1,.pointer (some ⟨b3,0,none⟩)),(7,.int .i64 (k54 : Int)),(8,.pointer (some ⟨b58,0,none⟩))]) (fun _ w1 => ∃ Y1 : Hid,St E0 w X w1 Y1 [(b58,.cells #[.int .u8 x54.sense,.int .i64 x54.lo,.int .i64 x54.hi] 96 (0,0)),(b3,.cells (qDr p0 D1 D2 D3 D4 D5 D6 (some ⟨be56,oe56,none⟩) D8 D9 D10 D11 D12 D13 D14 D15 D16 D17 D18 D19 D20 D21 D22 D23 D24) 30 (0,0))] ∧ Le (rd w59 Y58) (rd w1 Y1) ∧ J60 = some y) ?_ ?_
 rintro _ w60 ⟨Y60,C60,B60,hp⟩
 have hp := hJ60.symm.trans hp
 refine zz 3 <| zo 0 C60 <| zz 1 <| zo 0 C60 <| zz 2 <| zt 77 (p := (x54.lo) > x54.hi) (fun Q61 => ?_) (fun Q61 => ?_)
 have hp := ip Q61 hp
 refine zz 25 <| zr' (v := .int .i64 1) ?_
 cases hp
 exact ⟨C60.upd,_,rfl,rfl⟩
 have hp := iq Q61 hp
 refine zz 1 <| zo 0 C60 <| zQ hp fun y63 hy63 hp => zc C60 (yR _ X0 (zM _) (x54.lo) (100 : Int) y63 hy63) ?_
 rintro v64 w64 C64 B64 V64 rfl
 refine zz 3 <| zb 83 (b := !y63) (fun T65 => ?_) (fun T65 => ?_)
 have hp := ipb T65 hp
 refine zz 19 <| zr' (v := .int .i64 1) ?_
 cases hp
 exact ⟨C64.upd,_,rfl,rfl⟩
 have hp := iqb T65 hp
 refine zz 1 <| zo 0 C64 <| zQ hp fun y67 hy67 hp => zc C64 (yR _ X0 (zM _) (x54.hi) (100 : Int) y67 hy67) ?_
 rintro v68 w68 C68 B68 V68 rfl
 refine zz 4 <| zb 88 (b := !y67) (fun T69 => ?_) (fun T69 => ?_)
 have hp := ipb T69 hp
 refine zz 12 <| zr' (v := .int .i64 1) ?_
 cases hp
 exact ⟨C68.upd,_,rfl,rfl⟩
 have hp := iqb T69 hp
 refine zz 7 <| zs 58 (v := .int .i64 (i64.wrap ((k54 : Int) + 1))) (v' := .int .i64 ((k54 : Int) + 1)) (zR (jE (wk0 k54) (wk1 Q55 hb54))) <| zz 2 ?_
 have T7_ := (Le5 B54 B58 B59 B60 B64).trans B68
 refine zP (fun a h => H54 (k54 + 1) _ a h ⟨_,C68.tail,T7_,hp⟩ ?_)
 exact vK Q55
 intro K70 H70
 refine zz 3 <| zo 0 C59 <| zz 2 <| zb 67 (b := ((x54.sense) != 1)) (fun T71 => ?_) (fun T71 => ?_)
 have hp := ipb T71 hp
 refine zz 1 <| zo 0 C59 <| zz 4 <| zb 71 (b := ((x54.sense) != 2)) (fun T72 => ?_) (fun T72 => ?_)
 have hp := ipb T72 hp
 refine zz 13 <| zr' (v := .int .i64 6) ?_
 cases hp
 exact ⟨C59.upd,_,rfl,rfl⟩
 have hp := iqb T72 hp
 refine zz 2 ?_
 exact zP (fun a h => H70 () _ a h ⟨_,C59,(Le.refl _),hp⟩)
 have hp := iqb T71 hp
 refine zz 8 ?_
 exact zP (fun a h => H70 () _ a h ⟨_,C59,(Le.refl _),hp⟩)
 rw [List.drop_eq_nil_of_le (qI Q55),yH] at hp
 refine zz 5 ?_
 exact zP (fun a h => H53 () _ a h ⟨_,C54,B54,hp⟩)
 intro K73 H73
 refine zz 6 <| zlp Tryz.f22 [K73] [1,1,1,9,1,0] (fun (k74 : Nat) => [(1,.pointer (some ⟨b3,0,none⟩)),(4,.int .i64 (k74 : Int))]) (fun (k74 : Nat) w1 => ∃ Y1 : Hid,St E0 w X w1 Y1 [(b3,.cells (qDr p0 D1 D2 D3 D4 D5 D6 D7 D8 D9 D10 D11 D12 D13 D14 D15 D16 D17 D18 D19 D20 D21 D22 D23 D24) 30 (0,0))] ∧ Le (rd w9 Y3) (rd w1 Y1) ∧ jF p0 J11 ((3 : Int).toNat - k74) k74 = some y) (fun (k74 : Nat) => (3 : Int).toNat - k74) 0 ?_ ?_
 exact ⟨_,C9,Le.refl _,hp⟩
 rintro k74 w74 K74 H74 ⟨Y74,C74,B74,hp⟩
 refine zz 7 <| zt 18 (p := (k74 : Int) < 3) (fun Q75 => ?_) (fun Q75 => ?_)
 have C := dG (N := (3 : Int)) (k := k74) Q75
 obtain ⟨r74,hm74,hn74⟩ := C
 rw [hm74,jF] at hp
 refine zz 3 ?_
 have C := fG hp
 obtain ⟨J76,hJ76,hp⟩ := C
 refine yT (fun (_ : Unit) => [(1,.pointer (some ⟨b3,0,none⟩)),(4,.int .i64 (k74 : Int))]) (fun _ w1 => ∃ Y1 : Hid,St E0 w X w1 Y1 [(b3,.cells (qDr p0 D1 D2 D3 D4 D5 D6 D7 D8 D9 D10 D11 D12 D13 D14 D15 D16 D17 D18 D19 D20 D21 D22 D23 D24) 30 (0,0))] ∧ Le (rd w74 Y74) (rd w1 Y1) ∧ J76 = some y) ?_ ?_
 rintro _ w76 ⟨Y76,C76,B76,hp⟩
 have hp := hJ76.symm.trans hp
 refine zz 3 <| zs 20 (v := .int .i64 (i64.wrap ((k74 : Int) + 1))) (v' := .int .i64 ((k74 : Int) + 1)) (zR (jE (wk0 k74) (wk1 Q75 (by decide)))) <| zz 2 <| zP (fun a h => H74 (k74 + 1) _ a h ⟨_,C76,(Le2 B74 B76),(by rw [hn74]; exact hp)⟩ ?_)
 exact lD Q75
 intro K77 H77
 refine zz 6 ?_
 have C := rQ hp
 obtain ⟨J78,hJ78,hp⟩ := C
 refine yT (fun (v78_0 : Int) => [(5,.int .i64 v78_0),(1,.pointer (some ⟨b3,0,none⟩)),(4,.int .i64 (k74 : Int))]) (fun v78_0 w1 => ∃ Y1 : Hid,St E0 w X w1 Y1 [(b3,.cells (qDr p0 D1 D2 D3 D4 D5 D6 D7 D8 D9 D10 D11 D12 D13 D14 D15 D16 D17 D18 D19 D20 D21 D22 D23 D24) 30 (0,0))] ∧ Le (rd w74 Y74) (rd w1 Y1) ∧ J78 v78_0 = some y) ?_ ?_
 rintro v78_0 w78 ⟨Y78,C78,B78,hp⟩
 have hp := (hJ78 _).symm.trans hp
 refine zz 6 <| zlp Tryz.f22 [K73,K74,K77] [1,1,1,9,1,0,0,1,9,0,1,1,1,0] (fun ((n79,k79) : Nat × Nat) => [(1,.pointer (some ⟨b3,0,none⟩)),(4,.int .i64 (k74 : Int)),(5,.int .i64 v78_0),(6,.int .i64 (k79 : Int))]) (fun ((n79,k79) : Nat × Nat) w1 => ∃ Y1 : Hid,St E0 w X w1 Y1 [(b3,.cells (qDr p0 D1 D2 D3 D4 D5 D6 D7 D8 D9 D10 D11 D12 D13 D14 D15 D16 D17 D18 D19 D20 D21 D22 D23 D24) 30 (0,0))] ∧ Le (rd w78 Y78) (rd w1 Y1) ∧ yJ p0 k74 J76 v78_0 n79 k79 = some y) (fun ((n79,k79) : Nat × Nat) => n79) ((p0.height.length + p0.own.length + p0.other.length + 1),0) ?_ ?_
 exact ⟨_,C78,Le.refl _,hp⟩
 rintro ⟨n79,k79⟩ w79 K79 H79 ⟨Y79,C79,B79,hp⟩
 obtain _ | n79 := n79
 rw [yJ] at hp; cases hp
 rw [yJ] at hp
 refine zz 4 <| zo 0 C79 ?_
 have T8_ := (Le5 B3 B6 B9 B74 B78).trans B79
 refine zQ hp fun y81 hy81 hp => zc C79 (tN _ _ C79.lt p0 _ (hVp0.mono T8_) y81 hy81) ?_
 rintro v82 w82 C82 B82 V82 ⟨u82_0_1,u82_0_2,rfl,u82_0__h0⟩
 refine zz 1 <| zQ hp fun x83 hx83 hp => ?_
 have C := jU hx83
 obtain ⟨L83,O83⟩ := C
 have hwx83 : y81[k74]? = some x83 := O83
 have C := u82_0__h0.opn hwx83
 obtain ⟨be84,oe84,rfl,B84,hEe84⟩ := C
 obtain ⟨e841,e842,e84_at,e84_h0⟩ := hEe84
 refine zi (b := be84) (off := oe84) (len := y81.length) (cap := u82_0_2) (kd := .i64) (i := (k74 : Int)) 1 (oe84 + k74 * 1) ?_ (h0 := L83) (h1 := (jS L83 B84))
 refine zl (e84_at).cells <| zz 4 <| zt 30 (p := (k79 : Int) < (x83.length : Int)) (fun Q85 => ?_) (fun Q85 => ?_)
 have hp := ip Q85 hp
 refine zz 7 <| zo 0 C82 ?_
 have T9_ := T8_.trans B82
 refine zQ hp fun y87 hy87 hp => zc C82 (tN _ _ C82.lt p0 _ (hVp0.mono T9_) y87 hy87) ?_
 rintro v88 w88 C88 B88 V88 ⟨u88_0_1,u88_0_2,rfl,u88_0__h0⟩
 refine zz 1 <| zQ hp fun x89 hx89 hp => ?_
 have C := jU hx89
 obtain ⟨L89,O89⟩ := C
 have hwx89 : y87[k74]? = some x89 := O89
 have C := u88_0__h0.opn hwx89
 obtain ⟨be90,oe90,rfl,B90,hEe90⟩ := C
 obtain ⟨e901,e902,e90_at,e90_h0⟩ := hEe90
 refine zi (b := be90) (off := oe90) (len := y87.length) (cap := u88_0_2) (kd := .i64) (i := (k74 : Int)) 1 (oe90 + k74 * 1) ?_ (h0 := L89) (h1 := (jS L89 B90))
 refine zl (e90_at).cells <| zz 1 <| zQ hp fun x91 hx91 hp => ?_
 have C := jU hx91
 obtain ⟨L91,O91⟩ := C
 have hwx91 : x89[k79]? = some x91 := O91
 have C := e90_h0.opn hwx91
 obtain ⟨be92,oe92,rfl,B92,hEe92⟩ := C
 have hAe92 : At (rd w88 Y79) ⟨be92,oe92 + k79 * 1,none⟩ [.int .i64 x91] := hEe92
 refine zi (b := be92) (off := oe92) (len := x89.length) (cap := e902) (kd := .i64) (i := (k79 : Int)) 1 (oe92 + k79 * 1) ?_ (h0 := L91) (h1 := (jS L91 B92))
 refine zl (hAe92).cells <| zz 1 <| zQ hp fun y94 hy94 hp => zc C88 (yR _ X0 (zM _) (x91) (v78_0) y94 hy94) ?_
 rintro v95 w95 C95 B95 V95 rfl
 refine zz 3 <| zb 43 (b := !y94) (fun T96 => ?_) (fun T96 => ?_)
 have hp := ipb T96 hp
 refine zz 16 <| zr' (v := .int .i64 1) ?_
 cases hp
 exact ⟨C95.upd,_,rfl,rfl⟩
 have hp := iqb T96 hp
 refine zz 7 <| zw 32 (x := (k79 : Int) + 1) (h1 := by first | omega | (have := wK.lb (by assumption); omega)) <| zz 2 ?_
 have T10_ := (Le3 B79 B82 B88).trans B95
 refine zP (fun a h => H79 (n79,k79 + 1) _ a h ⟨_,C95,T10_,hp⟩ ?_)
 exact Nat.lt_succ_self _
 have hp := iq Q85 hp
 refine zz 6 ?_
 exact zP (fun a h => H77 () _ a h ⟨_,C82,(Le3 B78 B79 B82),hp⟩)
 intro K97 H97
 refine zz 6 <| zb 22 (b := ((k74 : Int) == 0)) (fun T98 => ?_) (fun T98 => ?_)
 have hp := ipb T98 hp
 refine zz 4 ?_
 exact zP (fun a h => H97 50000 _ a h ⟨_,C74,(Le.refl _),hp⟩)
 have hp := iqb T98 hp
 refine zz 2 ?_
 exact zP (fun a h => H97 100 _ a h ⟨_,C74,(Le.refl _),hp⟩)
 rw [fV (N := (3 : Int)) Q75,jF] at hp
 refine zz 5 ?_
 exact zP (fun a h => H73 () _ a h ⟨_,C74,B74,hp⟩)
end
section
variable (w : World) (X : Hid) (hX : ∀ k o,X k o → k < w.heap.size)
set_option maxHeartbeats 1000000
noncomputable def vD (p0 : zO) : Option (Int × Int) :=
 (jQ p0).bind fun y5 => if ((y5) != 0) = true then (some (0,y5)) else ((qG p0).bind fun y9 => some (i64.wrap ((y9) * (p0.advisories.length : Int)),0))
include hX in
theorem lV (p0 : zO) (vp0 : Value) (hp0 : zW (rd w X) vp0 p0) (y : Int × Int) (hp : vD p0 = some y) : Calls Tryz.prog 9 #[vp0] w (Ret E0 w fun _ v => v = .tuple #[.int .i64 y.1,.int .i64 y.2]) := by
 have hVp0 := hp0
 refine zW.op hp0 fun D1 D2 D3 D4 D5 D6 D7 D8 D9 D10 D11 D12 D13 D14 D15 D16 D17 D18 D19 D20 D21 D22 D23 D24 hv9 p0a_h0 p0a_h1 p0a_h2 p0a_h3 p0a_h4 p0a_h5 p0a_h6 p0a_h7 p0a_h8 p0a_h9 p0a_h10 p0a_h11 => ?_
 subst hv9
 unfold vD at hp
 refine zen Tryz.func9 ?_
 have C0 : St E0 w X w X [] := St.start hX
 refine zz 2 <| zn pn (.cells (qDr p0 D1 D2 D3 D4 D5 D6 D7 D8 D9 D10 D11 D12 D13 D14 D15 D16 D17 D18 D19 D20 D21 D22 D23 D24) 30 (0,0)) C0 fun b3 w3 Y3 C3 B3 V3 => zz 6 <| zo 0 C3 <| zQ hp fun y5 hy5 hp => zc C3 (xR _ X0 (zM _) p0 _ ((hVp0.mono B3).mono Le.x0) y5 hy5) ?_
 rintro v6 w6 C6 B6 V6 rfl
 refine zz 10 <| zb 8 (b := ((y5) != 0)) (fun T7 => ?_) (fun T7 => ?_)
 have hp := ipb T7 hp
 refine zz 10 <| zr' (v := .tuple #[.int .i64 0,.int .i64 y5]) ?_
 cases hp
 exact ⟨C6.upd,_,rfl,rfl⟩
 have hp := iqb T7 hp
 refine zz 4 <| zdr C6 <| gw 0 0 <| gz [2] <| gw 3 0 <| gz [4] <| zQ hp fun y9 hy9 hp => gC 1 (fun w8 Y8 _ C8 B8 => (vZ _ X0 (zM _) p0 _ ((hVp0.mono (Le3 B3 B6 B8)).mono Le.x0) y9 hy9)) ?_
 rintro v10 w8 Y10 w10 C8 B10 rfl
 refine gz [5,6,7] ?_
 refine yO (fun w11 Y11 C11 B11 => ?_)
 refine zz 2 <| zr' (v := .tuple #[.int .i64 (i64.wrap ((y9) * (p0.advisories.length : Int))),.int .i64 0]) ?_
 cases hp
 exact ⟨C11.upd,_,rfl,rfl⟩
noncomputable def xH (p0 : zO) (p1 : Int) (p2 : Int) : Option (Int × Int) :=
 (jQ p0).bind fun y5 => if ((y5) != 0) = true then (some (0,y5)) else (if (p1) < 0 then (some (0,8)) else ((qG p0).bind fun y10 => if (p1) ≥ y10 then (some (0,8)) else (if (p2) < 0 then (some (0,8)) else (if (p2) ≥ (p0.advisories.length : Int) then (some (0,8)) else (some (i64.wrap ((i64.wrap ((p1) * (p0.advisories.length : Int))) + p2),0))))))
include hX in
theorem aG (p0 : zO) (vp0 : Value) (hp0 : zW (rd w X) vp0 p0) (p1 : Int) (p2 : Int) (y : Int × Int) (hp : xH p0 p1 p2 = some y) : Calls Tryz.prog 10 #[vp0,.int .i64 p1,.int .i64 p2] w (Ret E0 w fun _ v => v = .tuple #[.int .i64 y.1,.int .i64 y.2]) := by
 have hVp0 := hp0
 refine zW.op hp0 fun D1 D2 D3 D4 D5 D6 D7 D8 D9 D10 D11 D12 D13 D14 D15 D16 D17 D18 D19 D20 D21 D22 D23 D24 hv9 p0a_h0 p0a_h1 p0a_h2 p0a_h3 p0a_h4 p0a_h5 p0a_h6 p0a_h7 p0a_h8 p0a_h9 p0a_h10 p0a_h11 => ?_
 subst hv9
 unfold xH at hp
 refine zen Tryz.func10 ?_
 have C0 : St E0 w X w X [] := St.start hX
 refine zz 2 <| zn pn (.cells (qDr p0 D1 D2 D3 D4 D5 D6 D7 D8 D9 D10 D11 D12 D13 D14 D15 D16 D17 D18 D19 D20 D21 D22 D23 D24) 30 (0,0)) C0 fun b3 w3 Y3 C3 B3 V3 => zz 6 <| zo 0 C3 <| zQ hp fun y5 hy5 hp => zc C3 (xR _ X0 (zM _) p0 _ ((hVp0.mono B3).mono Le.x0) y5 hy5) ?_
 rintro v6 w6 C6 B6 V6 rfl
 refine zz 10 <| zb 12 (b := ((y5) != 0)) (fun T7 => ?_) (fun T7 => ?_)
 have hp := ipb T7 hp
 refine zz 10 <| zr' (v := .tuple #[.int .i64 0,.int .i64 y5]) ?_
 cases hp
 exact ⟨C6.upd,_,rfl,rfl⟩
 have hp := iqb T7 hp
 refine zz 9 <| zt 16 (p := (p1) < 0) (fun Q8 => ?_) (fun Q8 => ?_)
 have hp := ip Q8 hp
 refine zz 27 <| zr' (v := .tuple #[.int .i64 0,.int .i64 8]) ?_
 cases hp
 exact ⟨C6.upd,_,rfl,rfl⟩
 have hp := iq Q8 hp
 refine zz 1 <| zo 0 C6 <| zQ hp fun y10 hy10 hp => zc C6 (vZ _ X0 (zM _) p0 _ ((hVp0.mono (Le2 B3 B6)).mono Le.x0) y10 hy10) ?_
 rintro v11 w11 C11 B11 V11 rfl
 refine zz 3 <| zt 22 (p := (p1) ≥ y10) (fun Q12 => ?_) (fun Q12 => ?_)
 have hp := ip Q12 hp
 refine zz 21 <| zr' (v := .tuple #[.int .i64 0,.int .i64 8]) ?_
 cases hp
 exact ⟨C11.upd,_,rfl,rfl⟩
 have hp := iq Q12 hp
 refine zz 4 <| zt 26 (p := (p2) < 0) (fun Q13 => ?_) (fun Q13 => ?_)
 have hp := ip Q13 hp
 refine zz 17 <| zr' (v := .tuple #[.int .i64 0,.int .i64 8]) ?_
 cases hp
 exact ⟨C11.upd,_,rfl,rfl⟩
 have hp := iq Q13 hp
 refine zz 2 <| zo 0 C11 <| zz 5 <| zt 32 (p := (p2) ≥ (p0.advisories.length : Int)) (fun Q14 => ?_) (fun Q14 => ?_)
 have hp := ip Q14 hp
 refine zz 9 <| zr' (v := .tuple #[.int .i64 0,.int .i64 8]) ?_
 cases hp
 exact ⟨C11.upd,_,rfl,rfl⟩
 have hp := iq Q14 hp
 refine zz 7 <| zo 0 C11 <| zz 9 <| zr' (v := .tuple #[.int .i64 (i64.wrap ((i64.wrap ((p1) * (p0.advisories.length : Int))) + p2)),.int .i64 0]) ?_
 cases hp
 exact ⟨C11.upd,_,rfl,rfl⟩
noncomputable def vQ (p0 : zO) (p1 : Int) : Option (Int × Int × Int) :=
 (vD p0).bind fun y5 => if ((y5.2) != 0) = true then (some (0,0,y5.2)) else (if (p1) < 0 then (some (0,0,8)) else (if (p1) ≥ y5.1 then (some (0,0,8)) else (grd ((p0.advisories.length : Int) ≠ 0) <| grd ((p0.advisories.length : Int) ≠ 0) <| some (i64.wrap (Int.tdiv p1 (p0.advisories.length : Int)),Int.tmod p1 (p0.advisories.length : Int),0))))
include hX in
theorem aQ (p0 : zO) (vp0 : Value) (hp0 : zW (rd w X) vp0 p0) (p1 : Int) (y : Int × Int × Int) (hp : vQ p0 p1 = some y) : Calls Tryz.prog 11 #[vp0,.int .i64 p1] w (Ret E0 w fun _ v => v = .tuple #[.int .i64 y.1,.int .i64 y.2.1,.int .i64 y.2.2]) := by
 have hVp0 := hp0
 refine zW.op hp0 fun D1 D2 D3 D4 D5 D6 D7 D8 D9 D10 D11 D12 D13 D14 D15 D16 D17 D18 D19 D20 D21 D22 D23 D24 hv9 p0a_h0 p0a_h1 p0a_h2 p0a_h3 p0a_h4 p0a_h5 p0a_h6 p0a_h7 p0a_h8 p0a_h9 p0a_h10 p0a_h11 => ?_
 subst hv9
 unfold vQ at hp
 refine zen Tryz.func11 ?_
 have C0 : St E0 w X w X [] := St.start hX
 refine zz 2 <| zn pn (.cells (qDr p0 D1 D2 D3 D4 D5 D6 D7 D8 D9 D10 D11 D12 D13 D14 D15 D16 D17 D18 D19 D20 D21 D22 D23 D24) 30 (0,0)) C0 fun b3 w3 Y3 C3 B3 V3 => zz 7 <| zo 0 C3 <| zQ hp fun y5 hy5 hp => zc C3 (lV _ X0 (zM _) p0 _ ((hVp0.mono B3).mono Le.x0) y5 hy5) ?_
 rintro v6 w6 C6 B6 V6 rfl
 refine zz 14 <| zb 15 (b := ((y5.2) != 0)) (fun T7 => ?_) (fun T7 => ?_)
 have hp := ipb T7 hp
 refine zz 11 <| zr' (v := .tuple #[.int .i64 0,.int .i64 0,.int .i64 y5.2]) ?_
 cases hp
 exact ⟨C6.upd,_,rfl,rfl⟩
 have hp := iqb T7 hp
 refine zz 9 <| zt 19 (p := (p1) < 0) (fun Q8 => ?_) (fun Q8 => ?_)
 have hp := ip Q8 hp
 refine zz 16 <| zr' (v := .tuple #[.int .i64 0,.int .i64 0,.int .i64 8]) ?_
 cases hp
 exact ⟨C6.upd,_,rfl,rfl⟩
 have hp := iq Q8 hp
 refine zz 6 <| zt 23 (p := (p1) ≥ y5.1) (fun Q9 => ?_) (fun Q9 => ?_)
 have hp := ip Q9 hp
 refine zz 10 <| zr' (v := .tuple #[.int .i64 0,.int .i64 0,.int .i64 8]) ?_
 cases hp
 exact ⟨C6.upd,_,rfl,rfl⟩
 have hp := iq Q9 hp
 refine zz 4 <| zdr C6 <| gz [0,1] <| gw 2 0 <| gz [3] ?_
 have C := nC hp
 obtain ⟨hg10,hp⟩ := C
 refine gH (v := .int .i64 (i64.wrap (Int.tdiv p1 (p0.advisories.length : Int)))) 4 (fun w => zAn (a := p1) (b := (p0.advisories.length : Int)) rfl kr kr hg10 _) <| gz [5,6] <| gw 7 0 <| gz [8] ?_
 have C := nC hp
 obtain ⟨hg11,hp⟩ := C
 refine gH (v := .int .i64 (Int.tmod p1 (p0.advisories.length : Int))) 9 (fun w => zIk (a := p1) (b := (p0.advisories.length : Int)) rfl kr kr hg11 _) <| gz [10,11,12] ?_
 refine yO (fun w12 Y12 C12 B12 => ?_)
 refine zz 2 <| zr' (v := .tuple #[.int .i64 (i64.wrap (Int.tdiv p1 (p0.advisories.length : Int))),.int .i64 (Int.tmod p1 (p0.advisories.length : Int)),.int .i64 0]) ?_
 cases hp
 exact ⟨C12.upd,_,rfl,rfl⟩
noncomputable def kY (p0 : zO) (p1 : Int) (p2 : Int) : Option (Int) :=
 if ((p2) == 0) = true then (some p1) else ((ix p0.advisories (p2)).bind fun x5 => if (p1) < x5.lo then ((some (if (x5.lo) < (i64.wrap ((p1) + p0.pull)) then x5.lo else i64.wrap ((p1) + p0.pull))).bind fun z11 => some z11) else (if (p1) > x5.hi then ((some (if (x5.hi) > (i64.wrap ((p1) - p0.pull)) then x5.hi else i64.wrap ((p1) - p0.pull))).bind fun z13 => some z13) else (some p1)))
include hX in
theorem nQ (p0 : zO) (vp0 : Value) (hp0 : zW (rd w X) vp0 p0) (p1 : Int) (p2 : Int) (y : Int) (hp : kY p0 p1 p2 = some y) : Calls Tryz.prog 49 #[vp0,.int .i64 p1,.int .i64 p2] w (Ret E0 w fun _ v => v = .int .i64 y) := by
 have hVp0 := hp0
 refine zW.op hp0 fun D1 D2 D3 D4 D5 D6 D7 D8 D9 D10 D11 D12 D13 D14 D15 D16 D17 D18 D19 D20 D21 D22 D23 D24 hv9 p0a_h0 p0a_h1 p0a_h2 p0a_h3 p0a_h4 p0a_h5 p0a_h6 p0a_h7 p0a_h8 p0a_h9 p0a_h10 p0a_h11 => ?_
 subst hv9
 unfold kY at hp
 refine zen Tryz.func49 ?_
 have C0 : St E0 w X w X [] := St.start hX
 refine zz 2 <| zn pn (.cells (qDr p0 D1 D2 D3 D4 D5 D6 D7 D8 D9 D10 D11 D12 D13 D14 D15 D16 D17 D18 D19 D20 D21 D22 D23 D24) 30 (0,0)) C0 fun b3 w3 Y3 C3 B3 V3 => zz 10 <| zb 9 (b := ((p2) == 0)) (fun T4 => ?_) (fun T4 => ?_)
 have hp := ipb T4 hp
 refine zz 9 <| zr' (v := .int .i64 p1) ?_
 cases hp
 exact ⟨C3.upd,_,rfl,rfl⟩
 have hp := iqb T4 hp
 refine zz 6 <| zo 0 C3 <| zz 1 <| zQ hp fun x5 hx5 hp => ?_
 have C := jU hx5
 obtain ⟨L5,O5⟩ := C
 have C := p0a_h3.opn O5
 obtain ⟨be6,oe6,rfl,B6,hEe6⟩ := C
 have e6_at : At (rd w X) ⟨be6,oe6 + (p2).toNat * 3,none⟩ [.int .u8 x5.sense,.int .i64 x5.lo,.int .i64 x5.hi] := hEe6
 refine zi (b := be6) (off := oe6) (len := p0.advisories.length) (cap := D8) (kd := .i64) (i := p2) 3 (oe6 + (p2).toNat * 3) ?_ (h0 := L5) (h1 := (jS L5 B6))
 refine zl ((e6_at.mono B3)).cells <| zn pn (.cells #[.int .u8 0,.int .i64 0,.int .i64 0] 96 (0,0)) C3 fun b8 w8 Y8 C8 B8 V8 => zx 0 #[.int .u8 x5.sense,.int .i64 x5.lo,.int .i64 x5.hi] C8 fun w9 C9 B9 => zz 7 <| zo 0 C9 <| zz 3 <| zt 19 (p := (p1) < x5.lo) (fun Q10 => ?_) (fun Q10 => ?_)
 have hp := ip Q10 hp
 refine zz 5 <| zo 1 C9 <| zz 2 <| zo 0 C9 <| zQ hp fun z11 hz11 hp => zz 1 <| zs 26 (v := .int .i64 (if (x5.lo) < (i64.wrap ((p1) + p0.pull)) then x5.lo else i64.wrap ((p1) + p0.pull))) (v' := .int .i64 z11) (zR (Option.some.inj hz11)) <| zz 5 <| zr' (v := .int .i64 z11) ?_
 cases hp
 exact ⟨C9.upd,_,rfl,rfl⟩
 have hp := iq Q10 hp
 refine zz 8 <| zo 0 C9 <| zz 3 <| zt 30 (p := (p1) > x5.hi) (fun Q12 => ?_) (fun Q12 => ?_)
 have hp := ip Q12 hp
 refine zz 5 <| zo 1 C9 <| zz 2 <| zo 0 C9 <| zQ hp fun z13 hz13 hp => zz 1 <| zs 37 (v := .int .i64 (if (x5.hi) > (i64.wrap ((p1) - p0.pull)) then x5.hi else i64.wrap ((p1) - p0.pull))) (v' := .int .i64 z13) (zR (Option.some.inj hz13)) <| zz 5 <| zr' (v := .int .i64 z13) ?_
 cases hp
 exact ⟨C9.upd,_,rfl,rfl⟩
 have hp := iq Q12 hp
 refine zz 10 <| zr' (v := .int .i64 p1) ?_
 cases hp
 exact ⟨C9.upd,_,rfl,rfl⟩
noncomputable def vC (p0 : zO) (p1 : Int) (p2 : Int) : Option (Int × Int) :=
 (jQ p0).bind fun y5 => if ((y5) != 0) = true then (some (0,y5)) else ((qM (p1) (100 : Int)).bind fun y9 => if (!y9) = true then (some (0,1)) else (if (p2) < 0 then (some (0,8)) else (if (p2) ≥ (p0.advisories.length : Int) then (some (0,8)) else ((kY p0 (p1) (p2)).bind fun y15 => some (y15,0)))))
include hX in
theorem dS (p0 : zO) (vp0 : Value) (hp0 : zW (rd w X) vp0 p0) (p1 : Int) (p2 : Int) (y : Int × Int) (hp : vC p0 p1 p2 = some y) : Calls Tryz.prog 12 #[vp0,.int .i64 p1,.int .i64 p2] w (Ret E0 w fun _ v => v = .tuple #[.int .i64 y.1,.int .i64 y.2]) := by
 have hVp0 := hp0
 refine zW.op hp0 fun D1 D2 D3 D4 D5 D6 D7 D8 D9 D10 D11 D12 D13 D14 D15 D16 D17 D18 D19 D20 D21 D22 D23 D24 hv9 p0a_h0 p0a_h1 p0a_h2 p0a_h3 p0a_h4 p0a_h5 p0a_h6 p0a_h7 p0a_h8 p0a_h9 p0a_h10 p0a_h11 => ?_
 subst hv9
 unfold vC at hp
 refine zen Tryz.func12 ?_
 have C0 : St E0 w X w X [] := St.start hX
 refine zz 2 <| zn pn (.cells (qDr p0 D1 D2 D3 D4 D5 D6 D7 D8 D9 D10 D11 D12 D13 D14 D15 D16 D17 D18 D19 D20 D21 D22 D23 D24) 30 (0,0)) C0 fun b3 w3 Y3 C3 B3 V3 => zz 6 <| zo 0 C3 <| zQ hp fun y5 hy5 hp => zc C3 (xR _ X0 (zM _) p0 _ ((hVp0.mono B3).mono Le.x0) y5 hy5) ?_
 rintro v6 w6 C6 B6 V6 rfl
 refine zz 10 <| zb 12 (b := ((y5) != 0)) (fun T7 => ?_) (fun T7 => ?_)
 have hp := ipb T7 hp
 refine zz 10 <| zr' (v := .tuple #[.int .i64 0,.int .i64 y5]) ?_
 cases hp
 exact ⟨C6.upd,_,rfl,rfl⟩
 have hp := iqb T7 hp
 refine zz 7 <| zQ hp fun y9 hy9 hp => zc C6 (yR _ X0 (zM _) (p1) (100 : Int) y9 hy9) ?_
 rintro v10 w10 C10 B10 V10 rfl
 refine zz 3 <| zb 16 (b := !y9) (fun T11 => ?_) (fun T11 => ?_)
 have hp := ipb T11 hp
 refine zz 9 <| zr' (v := .tuple #[.int .i64 0,.int .i64 1]) ?_
 cases hp
 exact ⟨C10.upd,_,rfl,rfl⟩
 have hp := iqb T11 hp
 refine zz 9 <| zt 19 (p := (p2) < 0) (fun Q12 => ?_) (fun Q12 => ?_)
 have hp := ip Q12 hp
 refine zz 17 <| zr' (v := .tuple #[.int .i64 0,.int .i64 8]) ?_
 cases hp
 exact ⟨C10.upd,_,rfl,rfl⟩
 have hp := iq Q12 hp
 refine zz 2 <| zo 0 C10 <| zz 5 <| zt 25 (p := (p2) ≥ (p0.advisories.length : Int)) (fun Q13 => ?_) (fun Q13 => ?_)
 have hp := ip Q13 hp
 refine zz 9 <| zr' (v := .tuple #[.int .i64 0,.int .i64 8]) ?_
 cases hp
 exact ⟨C10.upd,_,rfl,rfl⟩
 have hp := iq Q13 hp
 refine zz 5 <| zo 0 C10 <| zz 2 <| zQ hp fun y15 hy15 hp => zc C10 (nQ _ X0 (zM _) p0 _ ((hVp0.mono (Le3 B3 B6 B10)).mono Le.x0) (p1) (p2) y15 hy15) ?_
 rintro v16 w16 C16 B16 V16 rfl
 refine zz 5 <| zr' (v := .tuple #[.int .i64 y15,.int .i64 0]) ?_
 cases hp
 exact ⟨C16.upd,_,rfl,rfl⟩
noncomputable def wB (p0 : zO) (p1 : Int) (p2 : Int) : Option (Raw) :=
 lt (fun (v9_0 : Raw) => lt (fun (v10_0 : Bool) => if v10_0 = true then ((ix p0.advisories (p1)).bind fun x12 => (ix p0.advisories (p2)).bind fun x14 => lt (fun (v20_0 : Raw) => if ((x12.sense) != x14.sense) = true then ((yM v20_0 p0.reversal).bind fun y23 => some y23) else (some v20_0)) fun J20 => lt (fun (v29_0 : Bool) => if v29_0 = true then ((yM v9_0 p0.strengthen).bind fun y32 => J20 y32) else (J20 v9_0)) fun J29 => if ((x12.sense) == x14.sense) = true then (if (x14.lo) ≥ x12.lo then (if (x14.hi) ≤ x12.hi then (if ((x14.lo) != x12.lo) = true then (J29 true) else (J29 ((x14.hi) != x12.hi))) else (J29 false)) else (J29 false)) else (J29 false)) else (some v9_0)) fun J10 => if ((p1) != 0) = true then (J10 ((p2) != 0)) else (J10 false)) fun J9 => if ((p2) != 0) = true then ((yM Raw.zero p0.alert).bind fun y46 => J9 y46) else (J9 Raw.zero)
include hX in
theorem zAb (p0 : zO) (vp0 : Value) (hp0 : zW (rd w X) vp0 p0) (p1 : Int) (p2 : Int) (y : Raw) (hp : wB p0 p1 p2 = some y) : Calls Tryz.prog 50 #[vp0,.int .i64 p1,.int .i64 p2] w (Ret E0 w fun w' v => vJ (rd w' X) v y) := by
 have hVp0 := hp0
 refine zW.op hp0 fun D1 D2 D3 D4 D5 D6 D7 D8 D9 D10 D11 D12 D13 D14 D15 D16 D17 D18 D19 D20 D21 D22 D23 D24 hv9 p0a_h0 p0a_h1 p0a_h2 p0a_h3 p0a_h4 p0a_h5 p0a_h6 p0a_h7 p0a_h8 p0a_h9 p0a_h10 p0a_h11 => ?_
 subst hv9
 unfold wB at hp
 refine zen Tryz.func50 ?_
 have C0 : St E0 w X w X [] := St.start hX
 refine zz 2 <| zn pn (.cells (qDr p0 D1 D2 D3 D4 D5 D6 D7 D8 D9 D10 D11 D12 D13 D14 D15 D16 D17 D18 D19 D20 D21 D22 D23 D24) 30 (0,0)) C0 fun b3 w3 Y3 C3 B3 V3 => zn pn (.cells #[.bool false,.slice none 0 0,.slice none 0 0] 28 (0,0)) C3 fun b5 w5 Y5 C5 B5 V5 => zz 5 <| zn pn (.cells #[.bool false,.slice none 0 0,.slice none 0 0] 28 (0,0)) C5 fun b7 w7 Y7 C7 B7 V7 => zx 0 #[.bool false,.slice none 0 0,.slice none 0 0] C7 fun w8 C8 B8 => zz 2 ?_
 have C := rQ hp
 obtain ⟨J9,hJ9,hp⟩ := C
 refine yT (fun ((v9_0,a9_0_1,a9_0_2,a9_0_3,a9_0_4) : Raw × (Option Addr) × Nat × (Option Addr) × Nat) => [(1,.int .i64 p1),(2,.int .i64 p2),(3,.pointer (some ⟨b3,0,none⟩)),(6,.pointer (some ⟨b5,0,none⟩)),(7,.pointer (some ⟨b7,0,none⟩))]) (fun (v9_0,a9_0_1,a9_0_2,a9_0_3,a9_0_4) w1 => ∃ Y1 : Hid,St E0 w X w1 Y1 [(b7,.cells #[.bool v9_0.neg,.slice a9_0_1 v9_0.ln.length a9_0_2,.slice a9_0_3 v9_0.ld.length a9_0_4] 28 (0,0)),(b5,.cells #[.bool false,.slice none 0 0,.slice none 0 0] 28 (0,0)),(b3,.cells (qDr p0 D1 D2 D3 D4 D5 D6 D7 D8 D9 D10 D11 D12 D13 D14 D15 D16 D17 D18 D19 D20 D21 D22 D23 D24) 30 (0,0))] ∧ Le (rd w8 Y7) (rd w1 Y1) ∧ zL (rd w1 Y1) a9_0_1 v9_0.ln.length a9_0_2 v9_0.ln ∧ zL (rd w1 Y1) a9_0_3 v9_0.ld.length a9_0_4 v9_0.ld ∧ J9 v9_0 = some y) ?_ ?_
 rintro ⟨v9_0,a9_0_1,a9_0_2,a9_0_3,a9_0_4⟩ w9 ⟨Y9,C9,B9,P9_0_0,P9_0_1,hp⟩
 have hp := (hJ9 _).symm.trans hp
 refine zz 1 ?_
 have C := rQ hp
 obtain ⟨J10,hJ10,hp⟩ := C
 refine yT (fun (v10_0 : Bool) => [(22,.bool v10_0),(1,.int .i64 p1),(2,.int .i64 p2),(3,.pointer (some ⟨b3,0,none⟩)),(6,.pointer (some ⟨b5,0,none⟩)),(7,.pointer (some ⟨b7,0,none⟩))]) (fun v10_0 w1 => ∃ Y1 : Hid,St E0 w X w1 Y1 [(b7,.cells #[.bool v9_0.neg,.slice a9_0_1 v9_0.ln.length a9_0_2,.slice a9_0_3 v9_0.ld.length a9_0_4] 28 (0,0)),(b5,.cells #[.bool false,.slice none 0 0,.slice none 0 0] 28 (0,0)),(b3,.cells (qDr p0 D1 D2 D3 D4 D5 D6 D7 D8 D9 D10 D11 D12 D13 D14 D15 D16 D17 D18 D19 D20 D21 D22 D23 D24) 30 (0,0))] ∧ Le (rd w9 Y9) (rd w1 Y1) ∧ J10 v10_0 = some y) ?_ ?_
 rintro v10_0 w10 ⟨Y10,C10,B10,hp⟩
 have hp := (hJ10 _).symm.trans hp
 refine zb 22 (b := v10_0) (fun T11 => ?_) (fun T11 => ?_)
 have hp := ipb T11 hp
 refine zz 2 ?_
 refine qBk [0,1,2] C10 <| gz [0] <| gw 1 2 <| zQ hp fun x12 hx12 hp => ?_
 have C := jU hx12
 obtain ⟨L12,O12⟩ := C
 have C := p0a_h3.opn O12
 obtain ⟨be13,oe13,rfl,B13,hEe13⟩ := C
 have e13_at : At (rd w X) ⟨be13,oe13 + (p1).toNat * 3,none⟩ [.int .u8 x12.sense,.int .i64 x12.lo,.int .i64 x12.hi] := hEe13
 refine gz [2] <| gi 3 (b := be13) (off := oe13) (len := p0.advisories.length) (cap := D8) (kd := .i64) (i := p1) 3 (oe13 + (p1).toNat * 3) ?_ (h0 := L12) (h1 := (jS L12 B13))
 have T1_ := (Le5 B3 B5 B7 B8 B9).trans B10
 refine gl 4 ((e13_at.mono T1_)) <| gz [5] <| gw 6 2 <| zQ hp fun x14 hx14 hp => ?_
 have C := jU hx14
 obtain ⟨L14,O14⟩ := C
 have C := p0a_h3.opn2 O14
 obtain ⟨B15,hEe15⟩ := C
 have e15_at : At (rd w X) ⟨be13,oe13 + (p2).toNat * 3,none⟩ [.int .u8 x14.sense,.int .i64 x14.lo,.int .i64 x14.hi] := hEe15
 refine gz [7] <| gi 8 (b := be13) (off := oe13) (len := p0.advisories.length) (cap := D8) (kd := .i64) (i := p2) 3 (oe13 + (p2).toNat * 3) ?_ (h0 := L14) (h1 := (jS L14 B15))
 have T2_ := (Le5 B3 B5 B7 B8 B9).trans B10
 refine gl 9 ((e15_at.mono T2_)) <| gp (al 11 9 pn (.cells #[.int .u8 0,.int .i64 0,.int .i64 0] 96 (0,0))) <| gp (al 10 8 pn (.cells #[.int .u8 0,.int .i64 0,.int .i64 0] 96 (0,0))) <| ge (fun e16 => ?_) rC.nil.k.k
 refine gXs 12 0 [2,3,4] #[.int .u8 x12.sense,.int .i64 x12.lo,.int .i64 x12.hi] fun w17 Y17 B17 => gXs 13 1 [2,3,4] #[.int .u8 x14.sense,.int .i64 x14.lo,.int .i64 x14.hi] fun w18 Y18 B18 => ?_
 refine yO (fun w19 Y19 C19 B19 => ?_)
 refine zz 1 ?_
 have C := rQ hp
 obtain ⟨J20,hJ20,hp⟩ := C
 refine yT (fun ((v20_0,a20_0_1,a20_0_2,a20_0_3,a20_0_4) : Raw × (Option Addr) × Nat × (Option Addr) × Nat) => [(3,.pointer (some ⟨b3,0,none⟩)),(6,.pointer (some ⟨b5,0,none⟩)),(7,.pointer (some ⟨b7,0,none⟩)),(8,.pointer (some ⟨(e16 10),0,none⟩)),(9,.pointer (some ⟨(e16 11),0,none⟩))]) (fun (v20_0,a20_0_1,a20_0_2,a20_0_3,a20_0_4) w1 => ∃ Y1 : Hid,St E0 w X w1 Y1 [((e16 10),.cells #[.int .u8 x12.sense,.int .i64 x12.lo,.int .i64 x12.hi] 96 (0,0)),((e16 11),.cells #[.int .u8 x14.sense,.int .i64 x14.lo,.int .i64 x14.hi] 96 (0,0)),(b7,.cells #[.bool v20_0.neg,.slice a20_0_1 v20_0.ln.length a20_0_2,.slice a20_0_3 v20_0.ld.length a20_0_4] 28 (0,0)),(b5,.cells #[.bool false,.slice none 0 0,.slice none 0 0] 28 (0,0)),(b3,.cells (qDr p0 D1 D2 D3 D4 D5 D6 (some ⟨be13,oe13,none⟩) D8 D9 D10 D11 D12 D13 D14 D15 D16 D17 D18 D19 D20 D21 D22 D23 D24) 30 (0,0))] ∧ Le (rd w19 Y19) (rd w1 Y1) ∧ zL (rd w1 Y1) a20_0_1 v20_0.ln.length a20_0_2 v20_0.ln ∧ zL (rd w1 Y1) a20_0_3 v20_0.ld.length a20_0_4 v20_0.ld ∧ J20 v20_0 = some y) ?_ ?_
 rintro ⟨v20_0,a20_0_1,a20_0_2,a20_0_3,a20_0_4⟩ w20 ⟨Y20,C20,B20,P20_0_0,P20_0_1,hp⟩
 have hp := (hJ20 _).symm.trans hp
 refine zz 3 <| zo 0 C20 <| zz 1 <| zo 1 C20 <| zz 3 <| zb 74 (b := ((x12.sense) != x14.sense)) (fun T21 => ?_) (fun T21 => ?_)
 have hp := ipb T21 hp
 refine zz 2 <| zo 2 C20 <| zz 1 <| zo 4 C20 ?_
 have T3_ := (Le9 B3 B5 B7 B8 B9 B10 B17 B18 B19).trans B20
 refine zQ hp fun y23 hy23 hp => zc C20 (wM _ _ C20.lt v20_0 _ ⟨_,_,_,_,_,_,rfl,P20_0_0,P20_0_1⟩ p0.reversal _ ⟨_,_,_,_,_,_,rfl,(p0a_h10.mono T3_),(p0a_h11.mono T3_)⟩ y23 hy23) ?_
 rintro v24 w24 C24 B24 V24 ⟨u24_0_1,u24_0_2,u24_0_3,u24_0_4,u24_0_5,u24_0_6,rfl,u24_0__h0,u24_0__h1⟩
 have C := u24_0__h0.hlen
 subst C
 have C := u24_0__h1.hlen
 subst C
 refine zx 2 #[.bool y23.neg,.slice u24_0_1 y23.ln.length u24_0_3,.slice u24_0_4 y23.ld.length u24_0_6] C24 fun w25 C25 B25 => zz 4 <| zo 2 C25 <| zx 3 #[.bool y23.neg,.slice u24_0_1 y23.ln.length u24_0_3,.slice u24_0_4 y23.ld.length u24_0_6] C25 fun w26 C26 B26 => zz 3 <| zrS [.cell 6 28] (v := .agg #[.bool y23.neg,.slice u24_0_1 y23.ln.length u24_0_3,.slice u24_0_4 y23.ld.length u24_0_6]) (Res.cM C26 3 Res.nil) ?_
 cases hp
 exact ⟨C26.upd,_,rfl,⟨_,_,_,_,_,_,rfl,((u24_0__h0.mono (Le2 B25 B26))).mono C26.le,((u24_0__h1.mono (Le2 B25 B26))).mono C26.le⟩⟩
 have hp := iqb T21 hp
 refine zz 5 <| zo 2 C20 <| zx 3 #[.bool v20_0.neg,.slice a20_0_1 v20_0.ln.length a20_0_2,.slice a20_0_3 v20_0.ld.length a20_0_4] C20 fun w27 C27 B27 => zz 3 <| zrS [.cell 6 28] (v := .agg #[.bool v20_0.neg,.slice a20_0_1 v20_0.ln.length a20_0_2,.slice a20_0_3 v20_0.ld.length a20_0_4]) (Res.cM C27 3 Res.nil) ?_
 cases hp
 exact ⟨C27.upd,_,rfl,⟨_,_,_,_,_,_,rfl,((P20_0_0.mono B27)).mono C27.le,((P20_0_1.mono B27)).mono C27.le⟩⟩
 intro K28 H28
 have C := rQ hp
 obtain ⟨J29,hJ29,hp⟩ := C
 refine yT (fun (v29_0 : Bool) => [(65,.bool v29_0),(3,.pointer (some ⟨b3,0,none⟩)),(6,.pointer (some ⟨b5,0,none⟩)),(7,.pointer (some ⟨b7,0,none⟩)),(8,.pointer (some ⟨(e16 10),0,none⟩)),(9,.pointer (some ⟨(e16 11),0,none⟩))]) (fun v29_0 w1 => ∃ Y1 : Hid,St E0 w X w1 Y1 [((e16 10),.cells #[.int .u8 x12.sense,.int .i64 x12.lo,.int .i64 x12.hi] 96 (0,0)),((e16 11),.cells #[.int .u8 x14.sense,.int .i64 x14.lo,.int .i64 x14.hi] 96 (0,0)),(b7,.cells #[.bool v9_0.neg,.slice a9_0_1 v9_0.ln.length a9_0_2,.slice a9_0_3 v9_0.ld.length a9_0_4] 28 (0,0)),(b5,.cells #[.bool false,.slice none 0 0,.slice none 0 0] 28 (0,0)),(b3,.cells (qDr p0 D1 D2 D3 D4 D5 D6 (some ⟨be13,oe13,none⟩) D8 D9 D10 D11 D12 D13 D14 D15 D16 D17 D18 D19 D20 D21 D22 D23 D24) 30 (0,0))] ∧ Le (rd w19 Y19) (rd w1 Y1) ∧ J29 v29_0 = some y) ?_ ?_
 rintro v29_0 w29 ⟨Y29,C29,B29,hp⟩
 have hp := (hJ29 _).symm.trans hp
 refine zb 65 (b := v29_0) (fun T30 => ?_) (fun T30 => ?_)
 have hp := ipb T30 hp
 refine zz 2 <| zo 2 C29 <| zz 1 <| zo 4 C29 ?_
 have T4_ := (Le4 B10 B17 B18 B19).trans B29
 have T5_ := (Le9 B3 B5 B7 B8 B9 B10 B17 B18 B19).trans B29
 refine zQ hp fun y32 hy32 hp => zc C29 (wM _ _ C29.lt v9_0 _ ⟨_,_,_,_,_,_,rfl,(P9_0_0.mono T4_),(P9_0_1.mono T4_)⟩ p0.strengthen _ ⟨_,_,_,_,_,_,rfl,(p0a_h8.mono T5_),(p0a_h9.mono T5_)⟩ y32 hy32) ?_
 rintro v33 w33 C33 B33 V33 ⟨u33_0_1,u33_0_2,u33_0_3,u33_0_4,u33_0_5,u33_0_6,rfl,u33_0__h0,u33_0__h1⟩
 have C := u33_0__h0.hlen
 subst C
 have C := u33_0__h1.hlen
 subst C
 refine zx 2 #[.bool y32.neg,.slice u33_0_1 y32.ln.length u33_0_3,.slice u33_0_4 y32.ld.length u33_0_6] C33 fun w34 C34 B34 => zz 1 ?_
 exact zP (fun a h => H28 (y32,u33_0_1,u33_0_3,u33_0_4,u33_0_6) _ a h ⟨_,C34,(Le3 B29 B33 B34),(u33_0__h0.mono B34),(u33_0__h1.mono B34),hp⟩)
 have hp := iqb T30 hp
 refine zz 2 ?_
 have T6_ := (Le4 B10 B17 B18 B19).trans B29
 exact zP (fun a h => H28 (v9_0,a9_0_1,a9_0_2,a9_0_3,a9_0_4) _ a h ⟨_,C29,B29,(P9_0_0.mono T6_),(P9_0_1.mono T6_),hp⟩)
 intro K35 H35
 refine zz 2 <| zo 0 C19 <| zz 1 <| zo 1 C19 <| zz 2 <| zb 38 (b := ((x12.sense) == x14.sense)) (fun T36 => ?_) (fun T36 => ?_)
 have hp := ipb T36 hp
 refine zz 1 <| zo 1 C19 <| zz 1 <| zo 0 C19 <| zz 3 <| zt 45 (p := (x14.lo) ≥ x12.lo) (fun Q37 => ?_) (fun Q37 => ?_)
 have hp := ip Q37 hp
 refine zz 1 <| zo 1 C19 <| zz 1 <| zo 0 C19 <| zz 3 <| zt 52 (p := (x14.hi) ≤ x12.hi) (fun Q38 => ?_) (fun Q38 => ?_)
 have hp := ip Q38 hp
 refine zz 1 <| zo 1 C19 <| zz 1 <| zo 0 C19 <| zz 2 <| zb 58 (b := ((x14.lo) != x12.lo)) (fun T39 => ?_) (fun T39 => ?_)
 have hp := ipb T39 hp
 refine zz 8 ?_
 exact zP (fun a h => H35 true _ a h ⟨_,C19,(Le.refl _),hp⟩)
 have hp := iqb T39 hp
 refine zz 1 <| zo 1 C19 <| zz 1 <| zo 0 C19 <| zz 4 ?_
 exact zP (fun a h => H35 ((x14.hi) != x12.hi) _ a h ⟨_,C19,(Le.refl _),hp⟩)
 have hp := iq Q38 hp
 refine zz 14 ?_
 exact zP (fun a h => H35 false _ a h ⟨_,C19,(Le.refl _),hp⟩)
 have hp := iq Q37 hp
 refine zz 21 ?_
 exact zP (fun a h => H35 false _ a h ⟨_,C19,(Le.refl _),hp⟩)
 have hp := iqb T36 hp
 refine zz 28 ?_
 exact zP (fun a h => H35 false _ a h ⟨_,C19,(Le.refl _),hp⟩)
 have hp := iqb T11 hp
 refine zz 5 <| zo 0 C10 <| zx 1 #[.bool v9_0.neg,.slice a9_0_1 v9_0.ln.length a9_0_2,.slice a9_0_3 v9_0.ld.length a9_0_4] C10 fun w40 C40 B40 => zz 3 <| zrS [.cell 6 28] (v := .agg #[.bool v9_0.neg,.slice a9_0_1 v9_0.ln.length a9_0_2,.slice a9_0_3 v9_0.ld.length a9_0_4]) (Res.cM C40 1 Res.nil) ?_
 cases hp
 exact ⟨C40.upd,_,rfl,⟨_,_,_,_,_,_,rfl,((P9_0_0.mono (Le2 B10 B40))).mono C40.le,((P9_0_1.mono (Le2 B10 B40))).mono C40.le⟩⟩
 intro K41 H41
 refine zz 4 <| zb 19 (b := ((p1) != 0)) (fun T42 => ?_) (fun T42 => ?_)
 have hp := ipb T42 hp
 refine zz 4 ?_
 exact zP (fun a h => H41 ((p2) != 0) _ a h ⟨_,C9,(Le.refl _),hp⟩)
 have hp := iqb T42 hp
 refine zz 4 ?_
 exact zP (fun a h => H41 false _ a h ⟨_,C9,(Le.refl _),hp⟩)
 intro K43 H43
 refine zz 6 <| zb 12 (b := ((p2) != 0)) (fun T44 => ?_) (fun T44 => ?_)
 have hp := ipb T44 hp
 refine zz 2 <| zo 0 C8 <| zz 1 <| zo 2 C8 ?_
 have T7_ := (Le3 B3 B5 B7).trans B8
 refine zQ hp fun y46 hy46 hp => zc C8 (wM _ _ C8.lt Raw.zero _ ⟨_,_,_,_,_,_,rfl,zL.nil0,zL.nil0⟩ p0.alert _ ⟨_,_,_,_,_,_,rfl,(p0a_h6.mono T7_),(p0a_h7.mono T7_)⟩ y46 hy46) ?_ (vs := #[.agg #[.bool false,.slice none 0 0,.slice none 0 0],.agg #[.bool p0.alert.neg,.slice D13 p0.alert.ln.length D14,.slice D15 p0.alert.ld.length D16]])
 rintro v47 w47 C47 B47 V47 ⟨u47_0_1,u47_0_2,u47_0_3,u47_0_4,u47_0_5,u47_0_6,rfl,u47_0__h0,u47_0__h1⟩
 have C := u47_0__h0.hlen
 subst C
 have C := u47_0__h1.hlen
 subst C
 refine zx 0 #[.bool y46.neg,.slice u47_0_1 y46.ln.length u47_0_3,.slice u47_0_4 y46.ld.length u47_0_6] C47 fun w48 C48 B48 => zz 1 ?_
 exact zP (fun a h => H43 (y46,u47_0_1,u47_0_3,u47_0_4,u47_0_6) _ a h ⟨_,C48,(Le2 B47 B48),(u47_0__h0.mono B48),(u47_0__h1.mono B48),hp⟩)
 have hp := iqb T44 hp
 refine zz 2 ?_
 exact zP (fun a h => H43 (Raw.zero,none,0,none,0) _ a h ⟨_,C8,(Le.refl _),zL.nil0,zL.nil0,hp⟩)
noncomputable def wE (p0 : zO) (p1 : Int) (p2 : Int) : Option (Raw × Int) :=
 (jQ p0).bind fun y7 => if ((y7) != 0) = true then (some (Raw.zero,y7)) else (if (p1) < 0 then (some (Raw.zero,8)) else (if (p1) ≥ (p0.advisories.length : Int) then (some (Raw.zero,8)) else (if (p2) < 0 then (some (Raw.zero,8)) else (if (p2) ≥ (p0.advisories.length : Int) then (some (Raw.zero,8)) else ((wB p0 (p1) (p2)).bind fun y20 => some (y20,0))))))
include hX in
theorem zAi (p0 : zO) (vp0 : Value) (hp0 : zW (rd w X) vp0 p0) (p1 : Int) (p2 : Int) (y : Raw × Int) (hp : wE p0 p1 p2 = some y) : Calls Tryz.prog 13 #[vp0,.int .i64 p1,.int .i64 p2] w (Ret E0 w fun w' v => ∃ uu0,v = .tuple #[uu0,.int .i64 y.2] ∧ vJ (rd w' X) uu0 y.1) := by
 have hVp0 := hp0
 refine zW.op hp0 fun D1 D2 D3 D4 D5 D6 D7 D8 D9 D10 D11 D12 D13 D14 D15 D16 D17 D18 D19 D20 D21 D22 D23 D24 hv9 p0a_h0 p0a_h1 p0a_h2 p0a_h3 p0a_h4 p0a_h5 p0a_h6 p0a_h7 p0a_h8 p0a_h9 p0a_h10 p0a_h11 => ?_
 subst hv9
 unfold wE at hp
 refine zen Tryz.func13 ?_
 have C0 : St E0 w X w X [] := St.start hX
 refine zz 2 <| zn pn (.cells (qDr p0 D1 D2 D3 D4 D5 D6 D7 D8 D9 D10 D11 D12 D13 D14 D15 D16 D17 D18 D19 D20 D21 D22 D23 D24) 30 (0,0)) C0 fun b3 w3 Y3 C3 B3 V3 => zn pn (.cells #[.bool false,.slice none 0 0,.slice none 0 0] 28 (0,0)) C3 fun b5 w5 Y5 C5 B5 V5 => zz 5 <| zo 1 C5 <| zQ hp fun y7 hy7 hp => zc C5 (xR _ X0 (zM _) p0 _ ((hVp0.mono (Le2 B3 B5)).mono Le.x0) y7 hy7) ?_
 rintro v8 w8 C8 B8 V8 rfl
 refine zz 10 <| zb 12 (b := ((y7) != 0)) (fun T9 => ?_) (fun T9 => ?_)
 have hp := ipb T9 hp
 refine zz 5 <| zx 0 #[.bool false,.slice none 0 0,.slice none 0 0] C8 fun w10 C10 B10 => zz 5 <| zrS [.cell 6 28,.tmp 7] (v := .tuple #[.agg #[.bool false,.slice none 0 0,.slice none 0 0],.int .i64 y7]) (Res.cM C10 0 (Res.tZ Res.nil)) ?_
 cases hp
 exact ⟨C10.upd,_,rfl,⟨_,rfl,⟨_,_,_,_,_,_,rfl,zL.nil0,zL.nil0⟩⟩⟩
 have hp := iqb T9 hp
 refine zz 9 <| zt 17 (p := (p1) < 0) (fun Q11 => ?_) (fun Q11 => ?_)
 have hp := ip Q11 hp
 refine zz 23 <| zx 0 #[.bool false,.slice none 0 0,.slice none 0 0] C8 fun w12 C12 B12 => zz 5 <| zrS [.cell 6 28,.tmp 7] (v := .tuple #[.agg #[.bool false,.slice none 0 0,.slice none 0 0],.int .i64 8]) (Res.cM C12 0 (Res.tZ Res.nil)) ?_
 cases hp
 exact ⟨C12.upd,_,rfl,⟨_,rfl,⟨_,_,_,_,_,_,rfl,zL.nil0,zL.nil0⟩⟩⟩
 have hp := iq Q11 hp
 refine zz 2 <| zo 1 C8 <| zz 4 <| zt 24 (p := (p1) ≥ (p0.advisories.length : Int)) (fun Q13 => ?_) (fun Q13 => ?_)
 have hp := ip Q13 hp
 refine zz 16 <| zx 0 #[.bool false,.slice none 0 0,.slice none 0 0] C8 fun w14 C14 B14 => zz 5 <| zrS [.cell 6 28,.tmp 7] (v := .tuple #[.agg #[.bool false,.slice none 0 0,.slice none 0 0],.int .i64 8]) (Res.cM C14 0 (Res.tZ Res.nil)) ?_
 cases hp
 exact ⟨C14.upd,_,rfl,⟨_,rfl,⟨_,_,_,_,_,_,rfl,zL.nil0,zL.nil0⟩⟩⟩
 have hp := iq Q13 hp
 refine zz 4 <| zt 28 (p := (p2) < 0) (fun Q15 => ?_) (fun Q15 => ?_)
 have hp := ip Q15 hp
 refine zz 12 <| zx 0 #[.bool false,.slice none 0 0,.slice none 0 0] C8 fun w16 C16 B16 => zz 5 <| zrS [.cell 6 28,.tmp 7] (v := .tuple #[.agg #[.bool false,.slice none 0 0,.slice none 0 0],.int .i64 8]) (Res.cM C16 0 (Res.tZ Res.nil)) ?_
 cases hp
 exact ⟨C16.upd,_,rfl,⟨_,rfl,⟨_,_,_,_,_,_,rfl,zL.nil0,zL.nil0⟩⟩⟩
 have hp := iq Q15 hp
 refine zz 2 <| zo 1 C8 <| zz 5 <| zt 34 (p := (p2) ≥ (p0.advisories.length : Int)) (fun Q17 => ?_) (fun Q17 => ?_)
 have hp := ip Q17 hp
 refine zz 4 <| zx 0 #[.bool false,.slice none 0 0,.slice none 0 0] C8 fun w18 C18 B18 => zz 5 <| zrS [.cell 6 28,.tmp 7] (v := .tuple #[.agg #[.bool false,.slice none 0 0,.slice none 0 0],.int .i64 8]) (Res.cM C18 0 (Res.tZ Res.nil)) ?_
 cases hp
 exact ⟨C18.upd,_,rfl,⟨_,rfl,⟨_,_,_,_,_,_,rfl,zL.nil0,zL.nil0⟩⟩⟩
 have hp := iq Q17 hp
 refine zz 5 <| zo 1 C8 <| zz 2 <| zQ hp fun y20 hy20 hp => zc C8 (zAb _ _ C8.lt p0 _ (hVp0.mono (Le3 B3 B5 B8)) (p1) (p2) y20 hy20) ?_
 rintro v21 w21 C21 B21 V21 ⟨u21_0_1,u21_0_2,u21_0_3,u21_0_4,u21_0_5,u21_0_6,rfl,u21_0__h0,u21_0__h1⟩
 have C := u21_0__h0.hlen
 subst C
 have C := u21_0__h1.hlen
 subst C
 refine zx 0 #[.bool y20.neg,.slice u21_0_1 y20.ln.length u21_0_3,.slice u21_0_4 y20.ld.length u21_0_6] C21 fun w22 C22 B22 => zz 4 <| zrS [.cell 6 28,.tmp 7] (v := .tuple #[.agg #[.bool y20.neg,.slice u21_0_1 y20.ln.length u21_0_3,.slice u21_0_4 y20.ld.length u21_0_6],.int .i64 0]) (Res.cM C22 0 (Res.tZ Res.nil)) ?_
 cases hp
 exact ⟨C22.upd,_,rfl,⟨_,rfl,⟨_,_,_,_,_,_,rfl,((u21_0__h0.mono B22)).mono C22.le,((u21_0__h1.mono B22)).mono C22.le⟩⟩⟩
noncomputable def qV (p0 : zO) (p4 : Int) (v11_0 : List Raw) (J12 : (List Out) → Option ((List Out))) : Nat → Nat → (List Out) → Option ((List Out))
 | 0,k15,v15_0 => J12 v15_0
 | r15 + 1,k15,v15_0 => (ix v11_0 (k15 : Int)).bind fun x17 => if (x17.ln.length : Int) > 0 then (grd ((v15_0.length + 1) * 64 ≤ 140737488355328) <| qV p0 p4 v11_0 J12 r15 (k15 + 1) (v15_0 ++ [(Out.mk (i64.wrap ((i64.wrap ((k15 : Int) * (p0.advisories.length : Int))) + p4)) x17)])) else (qV p0 p4 v11_0 J12 r15 (k15 + 1) v15_0)
noncomputable def jZ (J36 : (List Raw) → Option ((List Out))) (y41 : Raw) : List zU → (List Raw) → Option ((List Out))
 | [],v58_1 => J36 v58_1
 | x58 :: r58,v58_1 => (ix v58_1 (x58.vertex)).bind fun x61 => (yL y41 x58.w).bind fun y65 => (yM x61 y65).bind fun y68 => jZ J36 y41 r58 (v58_1.set (x58.vertex).toNat y68)
noncomputable def yB (p0 : zO) (p1 : Int) (p2 : Int) (p3 : Int) (p4 : Int) (x30 : zV) (J32 : (List Raw) → Option ((List Out))) : List zV → (List Raw) → Option ((List Out))
 | [],v34_1 => J32 v34_1
 | x34 :: r34,v34_1 => lt (fun (v36_0 : List Raw) => yB p0 p1 p2 p3 p4 x30 J32 r34 v36_0) fun J36 => (yL x30.p x34.p).bind fun y41 => (yQ p0).bind fun y47 => (kY p0 (p2) (p4)).bind fun y50 => (vB y47 ([i64.wrap ((i64.wrap ((p1) + p3)) - p2),i64.wrap ((y50) + x30.delta),i64.wrap ((p3) + x34.delta)])).bind fun y55 => jZ J36 y41 (y55.1.drop 0) v34_1
noncomputable def jL (p0 : zO) (p1 : Int) (p2 : Int) (p3 : Int) (p4 : Int) (J11 : (List Raw) → Option ((List Out))) : List zV → (List Raw) → Option ((List Out))
 | [],v30_1 => J11 v30_1
 | x30 :: r30,v30_1 => lt (fun (v32_0 : List Raw) => jL p0 p1 p2 p3 p4 J11 r30 v32_0) fun J32 => yB p0 p1 p2 p3 p4 x30 J32 (p0.otherNoise.drop 0) v30_1
noncomputable def vH (p0 : zO) (p1 : Int) (p2 : Int) (p3 : Int) (p4 : Int) : Option ((List Out)) :=
 (qG p0).bind fun y5 => grd (0 ≤ (y5) ∧ 56 * ((y5).toNat) ≤ 281474976710656 ∧ ((y5).toNat) ≤ 140737488355328) <| lt (fun (v11_0 : List Raw) => lt (fun (v12_0 : List Out) => some v12_0) fun J12 => qV p0 p4 v11_0 J12 (((y5).toNat : Int).toNat - 0) 0 ([] : List Out)) fun J11 => jL p0 p1 p2 p3 p4 J11 (p0.ownNoise.drop 0)  (List.replicate ((y5).toNat) Raw.zero)
include hX in
theorem bR (p0 : zO) (vp0 : Value) (hp0 : zW (rd w X) vp0 p0) (p1 : Int) (p2 : Int) (p3 : Int) (p4 : Int) (y : (List Out)) (hp : vH p0 p1 p2 p3 p4 = some y) : Calls Tryz.prog 51 #[vp0,.int .i64 p1,.int .i64 p2,.int .i64 p3,.int .i64 p4] w (Ret E0 w fun w' v => SV vN (rd w' X) v y) := by
 have hVp0 := hp0
 refine zW.op hp0 fun D1 D2 D3 D4 D5 D6 D7 D8 D9 D10 D11 D12 D13 D14 D15 D16 D17 D18 D19 D20 D21 D22 D23 D24 hv9 p0a_h0 p0a_h1 p0a_h2 p0a_h3 p0a_h4 p0a_h5 p0a_h6 p0a_h7 p0a_h8 p0a_h9 p0a_h10 p0a_h11 => ?_
 subst hv9
 unfold vH at hp
 refine zen Tryz.func51 ?_
 have C0 : St E0 w X w X [] := St.start hX
 refine zz 2 <| zn pn (.cells (qDr p0 D1 D2 D3 D4 D5 D6 D7 D8 D9 D10 D11 D12 D13 D14 D15 D16 D17 D18 D19 D20 D21 D22 D23 D24) 30 (0,0)) C0 fun b3 w3 Y3 C3 B3 V3 => zz 5 <| zo 0 C3 <| zQ hp fun y5 hy5 hp => zc C3 (vZ _ X0 (zM _) p0 _ ((hVp0.mono B3).mono Le.x0) y5 hy5) ?_
 rintro v6 w6 C6 B6 V6 rfl
 have C := nC hp
 obtain ⟨hg8,hp⟩ := C
 refine zop (at1 [] Tryz.f51 [1,0]) 2 (fun a7 _ G7 hz7 => zOg (d := 23) (Cl := gI) (l := y5) (m := (y5).toNat) (size := 3) (b := 56) (e := 28) (i0 := Tryz.t28) (z0 := Raw.zero) (A := [(b3,.cells (qDr p0 D1 D2 D3 D4 D5 D6 D7 D8 D9 D10 D11 D12 D13 D14 D15 D16 D17 D18 D19 D20 D21 D22 D23 D24) 30 (0,0))]) (B := []) (r := fun w1 Y1 => rd w1 Y1) (fun rb => ((b3,.cells (qDr p0 D1 D2 D3 D4 D5 D6 D7 D8 D9 D10 D11 D12 D13 D14 D15 D16 D17 D18 D19 D20 D21 D22 D23 D24) 30 (0,0)) :: rb)) G7 kr C6 (fun _ => by simp only [List.append_assoc,List.cons_append,List.nil_append,List.append_nil]) rfl kr (Int.toNat_of_nonneg hg8.1).symm kr kr kr kr kr kr hg8.2.1 hg8.2.2 (fun _ => ⟨none,0,0,none,0,0,by kernel_rfl,zL.nil0,zL.nil0⟩) ?_)
 intro rb9 ad9 w9 Y9 hg9 C9 B9 a10 G10
 refine hz7 G10 <| zz 3 ?_
 have C := rQ hp
 obtain ⟨J11,hJ11,hp⟩ := C
 refine yT (fun ((v11_0,rb11_0) : (List Raw) × (List (Nat × Obj))) => [(4,.int .i64 p4),(5,.pointer (some ⟨b3,0,none⟩)),(11,.slice ad9 ((y5).toNat) ((y5).toNat))]) (fun (v11_0,rb11_0) w1 => ∃ Y1 : Hid,St E0 w X w1 Y1 ((b3,.cells (qDr p0 D1 D2 D3 D4 D5 D6 D7 D8 D9 D10 D11 D12 D13 D14 D15 D16 D17 D18 D19 D20 D21 D22 D23 D24) 30 (0,0)) :: rb11_0) ∧ Le (rd w9 Y9) (rd w1 Y1) ∧ jX gI 28 3 (rd w1 Y1) rb11_0 ad9 ((y5).toNat) ((y5).toNat) v11_0 ∧ J11 v11_0 = some y) ?_ ?_
 rintro ⟨v11_0,rb11_0⟩ w11 ⟨Y11,C11,B11,P11_0_0,hp⟩
 have hp := (hJ11 _).symm.trans hp
 refine zz 5 ?_
 have C := rQ hp
 obtain ⟨J12,hJ12,hp⟩ := C
 refine yT (fun ((v12_0,rb12_0,ad12_0,m12_0,cap12_0) : (List Out) × (List (Nat × Obj)) × (Option Addr) × Nat × Nat) => [(19,.slice ad12_0 m12_0 cap12_0)]) (fun (v12_0,rb12_0,ad12_0,m12_0,cap12_0) w1 => ∃ Y1 : Hid,St E0 w X w1 Y1 ((b3,.cells (qDr p0 D1 D2 D3 D4 D5 D6 D7 D8 D9 D10 D11 D12 D13 D14 D15 D16 D17 D18 D19 D20 D21 D22 D23 D24) 30 (0,0)) :: (rb12_0 ++ rb11_0)) ∧ Le (rd w11 Y11) (rd w1 Y1) ∧ jX zBv 80 4 (rd w1 Y1) rb12_0 ad12_0 m12_0 cap12_0 v12_0 ∧ J12 v12_0 = some y) ?_ ?_
 rintro ⟨v12_0,rb12_0,ad12_0,m12_0,cap12_0⟩ w12 ⟨Y12,C12,B12,P12_0_0,hp⟩
 have hp := (hJ12 _).symm.trans hp
 refine zz 7 <| zr' (v := .slice ad12_0 m12_0 cap12_0) ?_
 have C := St.pubGR (A := [(b3,.cells (qDr p0 D1 D2 D3 D4 D5 D6 D7 D8 D9 D10 D11 D12 D13 D14 D15 D16 D17 D18 D19 D20 D21 D22 D23 D24) 30 (0,0))]) (B := rb11_0) (fun rb => ((b3,.cells (qDr p0 D1 D2 D3 D4 D5 D6 D7 D8 D9 D10 D11 D12 D13 D14 D15 D16 D17 D18 D19 D20 D21 D22 D23 D24) 30 (0,0)) :: (rb ++ rb11_0))) C12 (fun _ => by simp only [List.append_assoc,List.cons_append,List.nil_append,List.append_nil]) P12_0_0 zBv.at
 obtain ⟨Y13,hSx13,B13,hRx13⟩ := C
 have C13 : St E0 w X w12 Y13 ((b3,.cells (qDr p0 D1 D2 D3 D4 D5 D6 D7 D8 D9 D10 D11 D12 D13 D14 D15 D16 D17 D18 D19 D20 D21 D22 D23 D24) 30 (0,0)) :: rb11_0) := by simpa only [List.append_assoc,List.append_nil,List.cons_append,List.nil_append] using hSx13
 have C := hRx13.hlen
 subst C
 have hR13 : vN (rd w12 Y13) ad12_0 v12_0.length cap12_0 v12_0 := hRx13
 cases hp
 exact ⟨C13.upd,_,rfl,⟨_,_,rfl,(hR13).mono C13.le⟩⟩
 intro K14 H14
 refine zz 6 ?_
 have hb15 : ((y5).toNat : Int) ≤ 9223372036854775807 := by first | exact zLk _ | omega
 refine zlp Tryz.f51 [K14] [1,1,1,1,9,1,0] (fun ((v15_0,k15,rb15_0,ad15_0,m15_0,cap15_0) : (List Out) × Nat × (List (Nat × Obj)) × (Option Addr) × Nat × Nat) => [(4,.int .i64 p4),(5,.pointer (some ⟨b3,0,none⟩)),(11,.slice ad9 ((y5).toNat) ((y5).toNat)),(19,.slice ad15_0 m15_0 cap15_0),(20,.int .i64 (k15 : Int))]) (fun (v15_0,k15,rb15_0,ad15_0,m15_0,cap15_0) w1 => ∃ Y1 : Hid,St E0 w X w1 Y1 ((b3,.cells (qDr p0 D1 D2 D3 D4 D5 D6 D7 D8 D9 D10 D11 D12 D13 D14 D15 D16 D17 D18 D19 D20 D21 D22 D23 D24) 30 (0,0)) :: (rb15_0 ++ rb11_0)) ∧ Le (rd w11 Y11) (rd w1 Y1) ∧ jX zBv 80 4 (rd w1 Y1) rb15_0 ad15_0 m15_0 cap15_0 v15_0 ∧ qV p0 p4 v11_0 J12 (((y5).toNat : Int).toNat - k15) k15 v15_0 = some y) (fun (v15_0,k15,rb15_0,ad15_0,m15_0,cap15_0) => ((y5).toNat : Int).toNat - k15) (([] : List Out),0,[],none,0,0) ?_ ?_
 exact ⟨_,C11,Le.refl _,jX.nil,hp⟩
 rintro ⟨v15_0,k15,rb15_0,ad15_0,m15_0,cap15_0⟩ w15 K15 H15 ⟨Y15,C15,B15,P15_0_0,hp⟩
 refine zz 9 <| zt 111 (p := (k15 : Int) < ((y5).toNat : Int)) (fun Q16 => ?_) (fun Q16 => ?_)
 have C := dG (N := ((y5).toNat : Int)) (k := k15) Q16
 obtain ⟨r15,hm15,hn15⟩ := C
 rw [hm15,qV] at hp
 refine zz 9 <| zQ hp fun x17 hx17 hp => ?_
 have C := jU hx17
 obtain ⟨L17,O17⟩ := C
 have hwx17 : v11_0[k15]? = some x17 := O17
 have C := (P11_0_0.mono B15).opn hwx17
 obtain ⟨ge18,cure18,cse18,rfl,rfl,B18,hce18,hcue18⟩ := C
 have C := (hce18.2 _ (Le.refl _))
 obtain ⟨e181,e182,e183,e184,e185,e186,rfl,e18_h0,e18_h1⟩ := C
 have C := e18_h0.hlen
 subst C
 have C := e18_h1.hlen
 subst C
 refine zi (b := ge18) (off := 0) (len := (y5).toNat) (cap := (y5).toNat) (kd := .i64) (i := (k15 : Int)) 3 (0 + k15 * 3) ?_ (h0 := L17) (h1 := (jS L17 B18))
 refine zz 1 <| zl ((zKd (C15.getMem (List.mem_cons_of_mem _ (List.mem_append_right _ (List.mem_singleton.2 rfl)))) hcue18).sub 1 1) <| zz 4 <| zt 120 (p := (x17.ln.length : Int) > 0) (fun Q19 => ?_) (fun Q19 => ?_)
 have hp := ip Q19 hp
 refine zz 1 ?_
 have C := (P11_0_0.mono B15).opn2 hwx17
 obtain ⟨cse20,B20,hce20,hcue20⟩ := C
 have C := (hce20.2 _ (Le.refl _))
 obtain ⟨e201,e202,e203,e204,e205,e206,rfl,e20_h0,e20_h1⟩ := C
 have C := e20_h0.hlen
 subst C
 have C := e20_h1.hlen
 subst C
 refine zN ⟨.code (at1 [K14,K15] Tryz.f51 [1,1,1,1,9,1,0,0,1,0,0,1,0]),at2 [K14,K15] Tryz.f51 [1,1,1,1,9,1,0,0,1,0,0,1,0],[(4,.int .i64 p4),(5,.pointer (some ⟨b3,0,none⟩)),(11,.slice (some ⟨ge18,0,none⟩) ((y5).toNat) ((y5).toNat)),(19,.slice ad15_0 m15_0 cap15_0),(20,.int .i64 (k15 : Int))]⟩ <| zWo [(b3,.cells (qDr p0 D1 D2 D3 D4 D5 D6 D7 D8 D9 D10 D11 D12 D13 D14 D15 D16 D17 D18 D19 D20 D21 D22 D23 D24) 30 (0,0)),(ge18,.cells cure18 28 (0,0))] (alm mhd (alm (List.mem_cons_of_mem _ (List.mem_append_right _ (List.mem_singleton.2 rfl))) qCi)) C15 <| gz [0,1,2] <| gw 3 0 ?_
 have C := (P11_0_0.mono B15).opn2 hwx17
 obtain ⟨cse21,B21,hce21,hcue21⟩ := C
 have C := (hce21.2 _ (Le.refl _))
 obtain ⟨e211,e212,e213,e214,e215,e216,rfl,e21_h0,e21_h1⟩ := C
 have C := e21_h0.hlen
 subst C
 have C := e21_h1.hlen
 subst C
 refine gz [4,5,6,7,8,9] <| gi 10 (b := ge18) (off := 0) (len := (y5).toNat) (cap := (y5).toNat) (kd := .i64) (i := (k15 : Int)) 3 (0 + k15 * 3) ?_ (h0 := L17) (h1 := (jS L17 B21))
 refine grG 11 1 k15 3 0 3 (g := ge18) (T := 28) hcue21 <| gz [12] <| gp1 (al 13 134 (fun b => .slice (some ⟨b,0,none⟩) 1 1) (.cells #[.int .i64 (i64.wrap ((i64.wrap ((k15 : Int) * (p0.advisories.length : Int))) + p4)),.bool x17.neg,.slice e211 x17.ln.length e213,.slice e214 x17.ld.length e216] 80 (0,0))) (fun b22 => ?_)
 refine gO 14 (fun a23 w23 Y23 G23 C23 B23 => ?_)
 have C := nC hp
 obtain ⟨hg24,hp⟩ := C
 have hln25 : m15_0 = v15_0.length := jX.len P15_0_0
 have C := (P15_0_0.mono B23)
 obtain ⟨es25,hr25,hq25,hk25,hm25⟩ := C
 refine zXk (b := 64) (m := 1) (c := 1) (ad := ⟨b22,0,none⟩) (news := [.int .i64 (i64.wrap ((i64.wrap ((k15 : Int) * (p0.advisories.length : Int))) + p4)),.bool x17.neg,.slice e211 x17.ln.length e213,.slice e214 x17.ld.length e216]) (i0 := Tryz.t80) (rb := rb15_0) (R1 := []) (B := [(ge18,.cells cure18 28 (0,0))]) 2 G23 C23 rfl hr25 (C23.cells 0 rfl rfl) (lY hg24 hln25 rfl) (lX hg24 hln25) fun rb26 ad26 cap26 w26 Y26 F26 C26 B26 a27 G27 => ?_
 have hg26 : jX zBv 80 4 (rd w26 Y26) rb26 ad26 (m15_0 + 1) cap26 (v15_0 ++ [(Out.mk (i64.wrap ((i64.wrap ((k15 : Int) * (p0.advisories.length : Int))) + p4)) x17)]) := jX.snoc F26 hq25 hk25 hm25 B26 ⟨rfl,fun r2 h2 => ⟨_,_,_,_,_,_,rfl,((e21_h0.mono (Le2 B23 B26)).mono h2),((e21_h1.mono (Le2 B23 B26)).mono h2)⟩⟩
 refine ⟨_,_,_,_,G27,C26,Le.refl _,.inr ⟨fun _ => (alm (List.mem_cons_of_mem _ mhd) (alm (by simp) qCi)),(Le2 B23 B26)⟩,?_⟩
 refine gz [15] ?_
 refine yO (fun w28 Y28 C28 B28 => ?_)
 refine zz 5 <| zs 113 (v := .int .i64 (i64.wrap ((k15 : Int) + 1))) (v' := .int .i64 ((k15 : Int) + 1)) (zR (jE (wk0 k15) (wk1 Q16 hb15))) <| zz 2 ?_
 have T1_ := (Le3 B15 B23 B26).trans B28
 refine zP (fun a h => H15 ((v15_0 ++ [(Out.mk (i64.wrap ((i64.wrap ((k15 : Int) * (p0.advisories.length : Int))) + p4)) x17)]),k15 + 1,rb26,ad26,(m15_0 + 1),cap26) _ a h ⟨_,C28.tail,T1_,(hg26.mono B28),(by rw [hn15]; exact hp)⟩ ?_)
 exact lD Q16
 have hp := iq Q19 hp
 refine zz 7 <| zs 113 (v := .int .i64 (i64.wrap ((k15 : Int) + 1))) (v' := .int .i64 ((k15 : Int) + 1)) (zR (jE (wk0 k15) (wk1 Q16 hb15))) <| zz 2 <| zP (fun a h => H15 (v15_0,k15 + 1,rb15_0,ad15_0,m15_0,cap15_0) _ a h ⟨_,C15,B15,P15_0_0,(by rw [hn15]; exact hp)⟩ ?_)
 exact lD Q16
 rw [fV (N := ((y5).toNat : Int)) Q16,qV] at hp
 refine zz 5 ?_
 exact zP (fun a h => H14 (v15_0,rb15_0,ad15_0,m15_0,cap15_0) _ a h ⟨_,C15,B15,P15_0_0,hp⟩)
 intro K29 H29
 refine zz 6 ?_
 have hb30 : (p0.ownNoise.length : Int) ≤ 9223372036854775807 := rR (p0a_h4).hcap (p0a_h4).hbig
 refine zlp Tryz.f51 [K29] [1,1,9,1,0] (fun ((k30,v30_1,rb30_1) : Nat × (List Raw) × (List (Nat × Obj))) => [(1,.int .i64 p1),(2,.int .i64 p2),(3,.int .i64 p3),(4,.int .i64 p4),(5,.pointer (some ⟨b3,0,none⟩)),(11,.slice ad9 ((y5).toNat) ((y5).toNat)),(12,.int .i64 (k30 : Int))]) (fun (k30,v30_1,rb30_1) w1 => ∃ Y1 : Hid,St E0 w X w1 Y1 ((b3,.cells (qDr p0 D1 D2 D3 D4 D5 D6 D7 D8 D9 D10 D11 D12 D13 D14 D15 D16 D17 D18 D19 D20 D21 D22 D23 D24) 30 (0,0)) :: rb30_1) ∧ Le (rd w9 Y9) (rd w1 Y1) ∧ jX gI 28 3 (rd w1 Y1) rb30_1 ad9 ((y5).toNat) ((y5).toNat) v30_1 ∧ jL p0 p1 p2 p3 p4 J11 (p0.ownNoise.drop k30)  v30_1 = some y) (fun (k30,v30_1,rb30_1) => p0.ownNoise.length - k30) (0,(List.replicate ((y5).toNat) Raw.zero),rb9) ?_ ?_
 exact ⟨_,C9,Le.refl _,hg9,hp⟩
 rintro ⟨k30,v30_1,rb30_1⟩ w30 K30 H30 ⟨Y30,C30,B30,P30_1_0,hp⟩
 refine zz 5 <| zo 0 C30 <| zz 4 <| zt 28 (p := (k30 : Int) < (p0.ownNoise.length : Int)) (fun Q31 => ?_) (fun Q31 => ?_)
 have C := xK (l := p0.ownNoise) (k := k30) (qR Q31)
 obtain ⟨x30,O30⟩ := C
 rw [wG O30,jL] at hp
 have L30 : (0 : Int) ≤ (k30 : Int) := Int.natCast_nonneg _
 refine zz 3 ?_
 have C := rQ hp
 obtain ⟨J32,hJ32,hp⟩ := C
 refine yT (fun ((v32_0,rb32_0) : (List Raw) × (List (Nat × Obj))) => [(1,.int .i64 p1),(2,.int .i64 p2),(3,.int .i64 p3),(4,.int .i64 p4),(5,.pointer (some ⟨b3,0,none⟩)),(11,.slice ad9 ((y5).toNat) ((y5).toNat)),(12,.int .i64 (k30 : Int))]) (fun (v32_0,rb32_0) w1 => ∃ Y1 : Hid,St E0 w X w1 Y1 ((b3,.cells (qDr p0 D1 D2 D3 D4 D5 D6 D7 D8 D9 D10 D11 D12 D13 D14 D15 D16 D17 D18 D19 D20 D21 D22 D23 D24) 30 (0,0)) :: rb32_0) ∧ Le (rd w30 Y30) (rd w1 Y1) ∧ jX gI 28 3 (rd w1 Y1) rb32_0 ad9 ((y5).toNat) ((y5).toNat) v32_0 ∧ J32 v32_0 = some y) ?_ ?_
 rintro ⟨v32_0,rb32_0⟩ w32 ⟨Y32,C32,B32,P32_0_0,hp⟩
 have hp := (hJ32 _).symm.trans hp
 refine zz 3 <| zs 30 (v := .int .i64 (i64.wrap ((k30 : Int) + 1))) (v' := .int .i64 ((k30 : Int) + 1)) (zR (jE (wk0 k30) (wk1 Q31 hb30))) <| zz 2 <| zP (fun a h => H30 (k30 + 1,v32_0,rb32_0) _ a h ⟨_,C32,(Le2 B30 B32),P32_0_0,hp⟩ ?_)
 exact vK Q31
 intro K33 H33
 refine zz 7 ?_
 have hb34 : (p0.otherNoise.length : Int) ≤ 9223372036854775807 := rR (p0a_h5).hcap (p0a_h5).hbig
 refine zlp Tryz.f51 [K29,K30,K33] [1,1,9,1,0,0,1,9,0,1,0] (fun ((k34,v34_1,rb34_1) : Nat × (List Raw) × (List (Nat × Obj))) => [(1,.int .i64 p1),(2,.int .i64 p2),(3,.int .i64 p3),(4,.int .i64 p4),(5,.pointer (some ⟨b3,0,none⟩)),(11,.slice ad9 ((y5).toNat) ((y5).toNat)),(12,.int .i64 (k30 : Int)),(13,.int .i64 (k34 : Int))]) (fun (k34,v34_1,rb34_1) w1 => ∃ Y1 : Hid,St E0 w X w1 Y1 ((b3,.cells (qDr p0 D1 D2 D3 D4 D5 D6 D7 D8 D9 D10 D11 D12 D13 D14 D15 D16 D17 D18 D19 D20 D21 D22 D23 D24) 30 (0,0)) :: rb34_1) ∧ Le (rd w30 Y30) (rd w1 Y1) ∧ jX gI 28 3 (rd w1 Y1) rb34_1 ad9 ((y5).toNat) ((y5).toNat) v34_1 ∧ yB p0 p1 p2 p3 p4 x30 J32 (p0.otherNoise.drop k34)  v34_1 = some y) (fun (k34,v34_1,rb34_1) => p0.otherNoise.length - k34) (0,v30_1,rb30_1) ?_ ?_
 exact ⟨_,C30,Le.refl _,P30_1_0,hp⟩
 rintro ⟨k34,v34_1,rb34_1⟩ w34 K34 H34 ⟨Y34,C34,B34,P34_1_0,hp⟩
 refine zz 5 <| zo 0 C34 <| zz 4 <| zt 35 (p := (k34 : Int) < (p0.otherNoise.length : Int)) (fun Q35 => ?_) (fun Q35 => ?_)
 have C := xK (l := p0.otherNoise) (k := k34) (qR Q35)
 obtain ⟨x34,O34⟩ := C
 rw [wG O34,yB] at hp
 have L34 : (0 : Int) ≤ (k34 : Int) := Int.natCast_nonneg _
 refine zz 3 ?_
 have C := rQ hp
 obtain ⟨J36,hJ36,hp⟩ := C
 refine yT (fun ((v36_0,rb36_0) : (List Raw) × (List (Nat × Obj))) => [(1,.int .i64 p1),(2,.int .i64 p2),(3,.int .i64 p3),(4,.int .i64 p4),(5,.pointer (some ⟨b3,0,none⟩)),(11,.slice ad9 ((y5).toNat) ((y5).toNat)),(12,.int .i64 (k30 : Int)),(13,.int .i64 (k34 : Int))]) (fun (v36_0,rb36_0) w1 => ∃ Y1 : Hid,St E0 w X w1 Y1 ((b3,.cells (qDr p0 D1 D2 D3 D4 D5 D6 D7 D8 D9 D10 D11 D12 D13 D14 D15 D16 D17 D18 D19 D20 D21 D22 D23 D24) 30 (0,0)) :: rb36_0) ∧ Le (rd w34 Y34) (rd w1 Y1) ∧ jX gI 28 3 (rd w1 Y1) rb36_0 ad9 ((y5).toNat) ((y5).toNat) v36_0 ∧ J36 v36_0 = some y) ?_ ?_
 rintro ⟨v36_0,rb36_0⟩ w36 ⟨Y36,C36,B36,P36_0_0,hp⟩
 have hp := (hJ36 _).symm.trans hp
 refine zz 3 <| zs 37 (v := .int .i64 (i64.wrap ((k34 : Int) + 1))) (v' := .int .i64 ((k34 : Int) + 1)) (zR (jE (wk0 k34) (wk1 Q35 hb34))) <| zz 2 <| zP (fun a h => H34 (k34 + 1,v36_0,rb36_0) _ a h ⟨_,C36,(Le2 B34 B36),P36_0_0,hp⟩ ?_)
 exact vK Q35
 intro K37 H37
 refine zz 2 <| zEb [0] C34 <| gz [0] <| gw 1 0 ?_
 have C := p0a_h4.opn O30
 obtain ⟨be38,oe38,rfl,B38,hEe38⟩ := C
 obtain ⟨e381,e382,e383,e384,e38_at,e38_h0,e38_h1⟩ := hEe38
 refine gz [2] <| gi 3 (b := be38) (off := oe38) (len := p0.ownNoise.length) (cap := D10) (kd := .i64) (i := (k30 : Int)) 4 (oe38 + k30 * 4) ?_ (h0 := L30) (h1 := (jS L30 B38))
 have T2_ := (Le4 B3 B6 B9 B30).trans B34
 refine gz [4] <| gl 5 ((e38_at.mono T2_).sub 1 3) <| gz [6] <| gw 7 0 ?_
 have C := p0a_h5.opn O34
 obtain ⟨be39,oe39,rfl,B39,hEe39⟩ := C
 obtain ⟨e391,e392,e393,e394,e39_at,e39_h0,e39_h1⟩ := hEe39
 refine gz [8] <| gi 9 (b := be39) (off := oe39) (len := p0.otherNoise.length) (cap := D12) (kd := .i64) (i := (k34 : Int)) 4 (oe39 + k34 * 4) ?_ (h0 := L34) (h1 := (jS L34 B39))
 have T3_ := (Le4 B3 B6 B9 B30).trans B34
 refine gz [10] <| gl 11 ((e39_at.mono T3_).sub 1 3) <| gp (al 13 14 pn (.cells #[.bool false,.slice none 0 0,.slice none 0 0] 28 (0,0))) ?_
 have T4_ := (Le4 B3 B6 B9 B30).trans B34
 refine zQ hp fun y41 hy41 hp => gC 12 (fun w40 Y40 _ C40 B40 => (sN _ _ C40.lt x30.p _ ⟨_,_,_,_,_,_,rfl,(e38_h0.mono (T4_.trans B40)),(e38_h1.mono (T4_.trans B40))⟩ x34.p _ ⟨_,_,_,_,_,_,rfl,(e39_h0.mono (T4_.trans B40)),(e39_h1.mono (T4_.trans B40))⟩ y41 hy41)) ?_ (hPd := rC.nil.k)
 rintro v42 w40 Y42 w42 C40 B42 ⟨u42_0_1,u42_0_2,u42_0_3,u42_0_4,u42_0_5,u42_0_6,rfl,u42_0__h0,u42_0__h1⟩
 have C := u42_0__h0.hlen
 subst C
 have C := u42_0__h1.hlen
 subst C
 refine gs1 (fun b43 => ?_) rC.nil.k
 refine gX 14 0 #[.bool y41.neg,.slice u42_0_1 y41.ln.length u42_0_3,.slice u42_0_4 y41.ld.length u42_0_6] fun w44 Y44 B44 => ?_
 refine yO (fun w45 Y45 C45 B45 => ?_)
 refine zz 2 <| zEb [0,1] C45 <| gw 0 1 <| gz [2,3,4,5,6] <| gw 7 1 <| gz [8,9,11] <| gw 12 1 <| gz [13] <| gi 14 (b := be38) (off := oe38) (len := p0.ownNoise.length) (cap := D10) (kd := .i64) (i := (k30 : Int)) 4 (oe38 + k30 * 4) ?_ (h0 := L30) (h1 := (jS L30 B38))
 have T5_ := ((T4_.trans B42).trans B44).trans B45
 refine gz [15] <| gl 16 ((e38_at.mono T5_).sub 0 1) <| gz [18,19] <| gw 20 1 <| gz [21] <| gi 22 (b := be39) (off := oe39) (len := p0.otherNoise.length) (cap := D12) (kd := .i64) (i := (k34 : Int)) 4 (oe39 + k34 * 4) ?_ (h0 := L34) (h1 := (jS L34 B39))
 have T6_ := ((T4_.trans B42).trans B44).trans B45
 refine gz [23] <| gl 24 ((e39_at.mono T6_).sub 0 1) <| gz [25] ?_
 have T7_ := ((T4_.trans B42).trans B44).trans B45
 refine zQ hp fun y47 hy47 hp => gC 1 (fun w46 Y46 _ C46 B46 => (tN _ _ C46.lt p0 _ (hVp0.mono (T7_.trans B46)) y47 hy47)) ?_
 rintro v48 w46 Y48 w48 C46 B48 ⟨u48_0_1,u48_0_2,rfl,u48_0__h0⟩
 have T8_ := T7_.trans B48
 refine zQ hp fun y50 hy50 hp => gC 10 (fun w49 Y49 _ C49 B49 => (nQ _ X0 (zM _) p0 _ ((hVp0.mono (T8_.trans B49)).mono Le.x0) (p2) (p4) y50 hy50)) ?_
 rintro v51 w49 Y51 w51 C49 B51 rfl
 refine gz [17] <| gp1 (al 26 78 (fun b => .slice (some ⟨b,0,none⟩) 3 3) (.cells #[.int .i64 (i64.wrap ((i64.wrap ((p1) + p3)) - p2)),.int .i64 (i64.wrap ((y50) + x30.delta)),.int .i64 (i64.wrap ((p3) + x34.delta))] 3 (0,0))) (fun b52 => ?_)
 refine gpub 0 [0,1] fun w53 Y53 B53 hat53 => ?_
 have hR53 : wK (rd w53 Y53) (some ⟨b52,0,none⟩) 3 3 [i64.wrap ((i64.wrap ((p1) + p3)) - p2),i64.wrap ((y50) + x30.delta),i64.wrap ((p3) + x34.delta)] := (SlR.lit (El := sG) (size := 1) (n := 3) [⟨(i64.wrap ((i64.wrap ((p1) + p3)) - p2) : Int),[.int .i64 (i64.wrap ((i64.wrap ((p1) + p3)) - p2))]⟩,⟨(i64.wrap ((y50) + x30.delta) : Int),[.int .i64 (i64.wrap ((y50) + x30.delta))]⟩,⟨(i64.wrap ((p3) + x34.delta) : Int),[.int .i64 (i64.wrap ((p3) + x34.delta))]⟩] hat53 (List.forall_mem_cons.2 ⟨⟨rfl,fun r2 h2 b o h9 => h9⟩,(List.forall_mem_cons.2 ⟨⟨rfl,fun r2 h2 b o h9 => h9⟩,(List.forall_mem_cons.2 ⟨⟨rfl,fun r2 h2 b o h9 => h9⟩,(List.forall_mem_nil _)⟩)⟩)⟩) rfl (by decide))
 refine zQ hp fun y55 hy55 hp => gC 27 (fun w54 Y54 _ C54 B54 => (dQ _ _ C54.lt y47 _ ⟨_,_,rfl,(u48_0__h0.mono (Le3 B51 B53 B54))⟩ ([i64.wrap ((i64.wrap ((p1) + p3)) - p2),i64.wrap ((y50) + x30.delta),i64.wrap ((p3) + x34.delta)]) _ ⟨_,_,rfl,(hR53.mono B54)⟩ y55 hy55)) ?_
 rintro v56 w54 Y56 w56 C54 B56 ⟨uu56_0,rfl,⟨u56_0_1,u56_0_2,rfl,u56_0__h0⟩⟩
 refine gz [28,29,30,31,32] ?_
 refine yO (fun w57 Y57 C57 B57 => ?_)
 refine zz 7 ?_
 have T9_ := (Le7 B42 B44 B45 B48 B51 B53 B56).trans B57
 have hb58 : (y55.1.length : Int) ≤ 9223372036854775807 := rR (u56_0__h0).hcap (u56_0__h0).hbig
 refine zlp Tryz.f51 [K29,K30,K33,K34,K37] [1,1,9,1,0,0,1,9,0,1,0,0,1,9,0,1,1,1,0] (fun ((k58,v58_1,rb58_1) : Nat × (List Raw) × (List (Nat × Obj))) => [(1,.int .i64 p1),(2,.int .i64 p2),(3,.int .i64 p3),(4,.int .i64 p4),(5,.pointer (some ⟨b3,0,none⟩)),(11,.slice ad9 ((y5).toNat) ((y5).toNat)),(12,.int .i64 (k30 : Int)),(13,.int .i64 (k34 : Int)),(14,.pointer (some ⟨b43,0,none⟩)),(15,.slice u56_0_1 y55.1.length u56_0_2),(17,.int .i64 (k58 : Int))]) (fun (k58,v58_1,rb58_1) w1 => ∃ Y1 : Hid,St E0 w X w1 Y1 ((b43,.cells #[.bool y41.neg,.slice u42_0_1 y41.ln.length u42_0_3,.slice u42_0_4 y41.ld.length u42_0_6] 28 (0,0)) :: (b3,.cells (qDr p0 D1 D2 D3 D4 D5 D6 D7 D8 (some ⟨be38,oe38,none⟩) D10 (some ⟨be39,oe39,none⟩) D12 D13 D14 D15 D16 D17 D18 D19 D20 D21 D22 D23 D24) 30 (0,0)) :: rb58_1) ∧ Le (rd w57 Y57) (rd w1 Y1) ∧ jX gI 28 3 (rd w1 Y1) rb58_1 ad9 ((y5).toNat) ((y5).toNat) v58_1 ∧ jZ J36 y41 (y55.1.drop k58)  v58_1 = some y) (fun (k58,v58_1,rb58_1) => y55.1.length - k58) (0,v34_1,rb34_1) ?_ ?_
 exact ⟨_,C57,Le.refl _,(P34_1_0.mono T9_),hp⟩
 rintro ⟨k58,v58_1,rb58_1⟩ w58 K58 H58 ⟨Y58,C58,B58,P58_1_0,hp⟩
 refine zz 9 <| zt 85 (p := (k58 : Int) < (y55.1.length : Int)) (fun Q59 => ?_) (fun Q59 => ?_)
 have C := xK (l := y55.1) (k := k58) (qR Q59)
 obtain ⟨x58,O58⟩ := C
 rw [wG O58,jZ] at hp
 have L58 : (0 : Int) ≤ (k58 : Int) := Int.natCast_nonneg _
 refine zz 9 ?_
 have C := u56_0__h0.opn O58
 obtain ⟨be60,oe60,rfl,B60,hEe60⟩ := C
 obtain ⟨e601,e602,e603,e604,e60_at,e60_h0,e60_h1⟩ := hEe60
 refine zi (b := be60) (off := oe60) (len := y55.1.length) (cap := u56_0_2) (kd := .i64) (i := (k58 : Int)) 4 (oe60 + k58 * 4) ?_ (h0 := L58) (h1 := (jS L58 B60))
 refine zz 1 <| zl ((e60_at.mono (Le2 B57 B58)).sub 0 1).cells <| zz 3 <| zQ hp fun x61 hx61 hp => ?_
 have C := jU hx61
 obtain ⟨L61,O61⟩ := C
 have C := P58_1_0.opn O61
 obtain ⟨ge62,cure62,cse62,rfl,rfl,B62,hce62,hcue62⟩ := C
 have C := (hce62.2 _ (Le.refl _))
 obtain ⟨e621,e622,e623,e624,e625,e626,rfl,e62_h0,e62_h1⟩ := C
 have C := e62_h0.hlen
 subst C
 have C := e62_h1.hlen
 subst C
 refine zWo [(b43,.cells #[.bool y41.neg,.slice u42_0_1 y41.ln.length u42_0_3,.slice u42_0_4 y41.ld.length u42_0_6] 28 (0,0)),(b3,.cells (qDr p0 D1 D2 D3 D4 D5 D6 D7 D8 (some ⟨be38,oe38,none⟩) D10 (some ⟨be39,oe39,none⟩) D12 D13 D14 D15 D16 D17 D18 D19 D20 D21 D22 D23 D24) 30 (0,0)),(ge62,.cells cure62 28 (0,0))] (alm mhd (alm (List.mem_cons_of_mem _ mhd) (alm (List.mem_cons_of_mem _ (List.mem_cons_of_mem _ (List.mem_singleton.2 rfl))) qCi))) C58 ?_
 have C := P58_1_0.opn2 O61
 obtain ⟨cse63,B63,hce63,hcue63⟩ := C
 have C := (hce63.2 _ (Le.refl _))
 obtain ⟨e631,e632,e633,e634,e635,e636,rfl,e63_h0,e63_h1⟩ := C
 have C := e63_h0.hlen
 subst C
 have C := e63_h1.hlen
 subst C
 refine gz [0,1,2,3] <| gi 4 (b := ge62) (off := 0) (len := (y5).toNat) (cap := (y5).toNat) (kd := .i64) (i := x58.vertex) 3 (0 + (x58.vertex).toNat * 3) ?_ (h0 := L61) (h1 := (jS L61 B63))
 refine grG 5 2 (x58.vertex).toNat 3 0 3 (g := ge62) (T := 28) hcue63 <| gw 6 0 <| gz [7,8] <| gi 9 (b := be60) (off := oe60) (len := y55.1.length) (cap := u56_0_2) (kd := .i64) (i := (k58 : Int)) 4 (oe60 + k58 * 4) ?_ (h0 := L58) (h1 := (jS L58 B60))
 refine gz [10] <| gl 11 ((e60_at.mono (Le2 B57 B58)).sub 1 3) ?_
 have T10_ := (Le7 B44 B45 B48 B51 B53 B56 B57).trans B58
 refine zQ hp fun y65 hy65 hp => gC 12 (fun w64 Y64 _ C64 B64 => (sN _ _ C64.lt y41 _ ⟨_,_,_,_,_,_,rfl,(u42_0__h0.mono (T10_.trans B64)),(u42_0__h1.mono (T10_.trans B64))⟩ x58.w _ ⟨_,_,_,_,_,_,rfl,(e60_h0.mono (Le3 B57 B58 B64)),(e60_h1.mono (Le3 B57 B58 B64))⟩ y65 hy65)) ?_
 rintro v66 w64 Y66 w66 C64 B66 ⟨u66_0_1,u66_0_2,u66_0_3,u66_0_4,u66_0_5,u66_0_6,rfl,u66_0__h0,u66_0__h1⟩
 have C := u66_0__h0.hlen
 subst C
 have C := u66_0__h1.hlen
 subst C
 refine zQ hp fun y68 hy68 hp => gC 13 (fun w67 Y67 _ C67 B67 => (wM _ _ C67.lt x61 _ ⟨_,_,_,_,_,_,rfl,(e63_h0.mono (Le2 B66 B67)),(e63_h1.mono (Le2 B66 B67))⟩ y65 _ ⟨_,_,_,_,_,_,rfl,(u66_0__h0.mono B67),(u66_0__h1.mono B67)⟩ y68 hy68)) ?_
 rintro v69 w67 Y69 w69 C67 B69 ⟨u69_0_1,u69_0_2,u69_0_3,u69_0_4,u69_0_5,u69_0_6,rfl,u69_0__h0,u69_0__h1⟩
 have C := u69_0__h0.hlen
 subst C
 have C := u69_0__h1.hlen
 subst C
 have C := (P58_1_0.mono (Le2 B66 B69)).opn2 O61
 obtain ⟨cse70,B70,hce70,hcue70⟩ := C
 have C := (hce70.2 _ (Le.refl _))
 obtain ⟨e701,e702,e703,e704,e705,e706,rfl,e70_h0,e70_h1⟩ := C
 have C := e70_h0.hlen
 subst C
 have C := e70_h1.hlen
 subst C
 refine gi 14 (b := ge62) (off := 0) (len := (y5).toNat) (cap := (y5).toNat) (kd := .i64) (i := x58.vertex) 3 (0 + (x58.vertex).toNat * 3) ?_ (h0 := L61) (h1 := (jS L61 B70))
 refine gO 15 (fun a71 w71 Y71 G71 C71 B71 => ?_)
 have hgs72 := jX.set (cs := [.bool y68.neg,.slice u69_0_1 y68.ln.length u69_0_3,.slice u69_0_4 y68.ld.length u69_0_6]) (x := y68) (P58_1_0.mono (Le3 B66 B69 B71)) B70 ⟨rfl,fun r2 h2 => ⟨_,_,_,_,_,_,rfl,((u69_0__h0.mono B71).mono h2),((u69_0__h1.mono B71).mono h2)⟩⟩
 refine zIf (k := 0 + (x58.vertex).toNat * 3) (k' := (x58.vertex).toNat * 3) (vs := [.bool y68.neg,.slice u69_0_1 y68.ln.length u69_0_3,.slice u69_0_4 y68.ld.length u69_0_6]) (A := [(b43,.cells #[.bool y41.neg,.slice u42_0_1 y41.ln.length u42_0_3,.slice u42_0_4 y41.ld.length u42_0_6] 28 (0,0)),(b3,.cells (qDr p0 D1 D2 D3 D4 D5 D6 D7 D8 (some ⟨be38,oe38,none⟩) D10 (some ⟨be39,oe39,none⟩) D12 D13 D14 D15 D16 D17 D18 D19 D20 D21 D22 D23 D24) 30 (0,0))]) (B := []) (fun rb => ((b43,.cells #[.bool y41.neg,.slice u42_0_1 y41.ln.length u42_0_3,.slice u42_0_4 y41.ld.length u42_0_6] 28 (0,0)) :: (b3,.cells (qDr p0 D1 D2 D3 D4 D5 D6 D7 D8 (some ⟨be38,oe38,none⟩) D10 (some ⟨be39,oe39,none⟩) D12 D13 D14 D15 D16 D17 D18 D19 D20 D21 D22 D23 D24) 30 (0,0)) :: rb)) G71 kr C71 (fun _ => by simp only [List.append_assoc,List.cons_append,List.nil_append,List.append_nil]) kr kr kr (q := true) kr kr (Nat.zero_add _) hgs72.2 fun w73 hSx73 B73 => ?_
 obtain ⟨cur73,hcu73⟩ : ∃ c,c = vT cure62 ((x58.vertex).toNat * 3) [.bool y68.neg,.slice u69_0_1 y68.ln.length u69_0_3,.slice u69_0_4 y68.ld.length u69_0_6] := ⟨_,rfl⟩
 rw [← hcu73] at hSx73 hgs72
 have C73 : St E0 w X w73 Y71 ((b43,.cells #[.bool y41.neg,.slice u42_0_1 y41.ln.length u42_0_3,.slice u42_0_4 y41.ld.length u42_0_6] 28 (0,0)) :: (b3,.cells (qDr p0 D1 D2 D3 D4 D5 D6 D7 D8 (some ⟨be38,oe38,none⟩) D10 (some ⟨be39,oe39,none⟩) D12 D13 D14 D15 D16 D17 D18 D19 D20 D21 D22 D23 D24) 30 (0,0)) :: [(ge62,.cells cur73 28 (0,0))]) := hSx73
 have hg73 := hgs72.1.mono B73
 refine ⟨_,_,_,_,G71,C73,Le.refl _,.inl kr,?_⟩
 refine yO (fun w74 Y74 C74 B74 => ?_)
 refine zz 5 <| zs 87 (v := .int .i64 (i64.wrap ((k58 : Int) + 1))) (v' := .int .i64 ((k58 : Int) + 1)) (zR (jE (wk0 k58) (wk1 Q59 hb58))) <| zz 2 ?_
 have T11_ := (Le5 B58 B66 B69 B71 B73).trans B74
 refine zP (fun a h => H58 (k58 + 1,(v58_1.set (x58.vertex).toNat y68),[(ge62,.cells cur73 28 (0,0))]) _ a h ⟨_,C74,T11_,(hg73.mono B74),hp⟩ ?_)
 exact vK Q59
 rw [List.drop_eq_nil_of_le (qI Q59),jZ] at hp
 refine zz 6 ?_
 have T12_ := (Le8 B42 B44 B45 B48 B51 B53 B56 B57).trans B58
 exact zP (fun a h => H37 (v58_1,rb58_1) _ a h ⟨_,C58.tail,T12_,P58_1_0,hp⟩)
 rw [List.drop_eq_nil_of_le (qI Q35),yB] at hp
 refine zz 6 ?_
 exact zP (fun a h => H33 (v34_1,rb34_1) _ a h ⟨_,C34,B34,P34_1_0,hp⟩)
 rw [List.drop_eq_nil_of_le (qI Q31),jL] at hp
 refine zz 5 ?_
 exact zP (fun a h => H29 (v30_1,rb30_1) _ a h ⟨_,C30,B30,P30_1_0,hp⟩)
noncomputable def vM (p0 : zO) (p1 : Int) (p2 : Int) (p3 : Int) (p4 : Int) : Option ((List Out) × Int) :=
 (jQ p0).bind fun y5 => if ((y5) != 0) = true then (some (([] : List Out),y5)) else ((qM (p1) (100000 : Int)).bind fun y9 => if (!y9) = true then (some (([] : List Out),1)) else ((qM (p2) (100 : Int)).bind fun y13 => if (!y13) = true then (some (([] : List Out),1)) else ((qM (p3) (100 : Int)).bind fun y17 => if (!y17) = true then (some (([] : List Out),1)) else (if (p4) < 0 then (some (([] : List Out),8)) else (if (p4) ≥ (p0.advisories.length : Int) then (some (([] : List Out),8)) else ((vH p0 (p1) (p2) (p3) (p4)).bind fun y23 => if (y23.length : Int) > 64 then (some (([] : List Out),10)) else (some (y23,0))))))))
include hX in
theorem bQ (p0 : zO) (vp0 : Value) (hp0 : zW (rd w X) vp0 p0) (p1 : Int) (p2 : Int) (p3 : Int) (p4 : Int) (y : (List Out) × Int) (hp : vM p0 p1 p2 p3 p4 = some y) : Calls Tryz.prog 14 #[vp0,.int .i64 p1,.int .i64 p2,.int .i64 p3,.int .i64 p4] w (Ret E0 w fun w' v => ∃ uu0,v = .tuple #[uu0,.int .i64 y.2] ∧ SV vN (rd w' X) uu0 y.1) := by
 have hVp0 := hp0
 refine zW.op hp0 fun D1 D2 D3 D4 D5 D6 D7 D8 D9 D10 D11 D12 D13 D14 D15 D16 D17 D18 D19 D20 D21 D22 D23 D24 hv9 p0a_h0 p0a_h1 p0a_h2 p0a_h3 p0a_h4 p0a_h5 p0a_h6 p0a_h7 p0a_h8 p0a_h9 p0a_h10 p0a_h11 => ?_
 subst hv9
 unfold vM at hp
 refine zen Tryz.func14 ?_
 have C0 : St E0 w X w X [] := St.start hX
 refine zz 2 <| zn pn (.cells (qDr p0 D1 D2 D3 D4 D5 D6 D7 D8 D9 D10 D11 D12 D13 D14 D15 D16 D17 D18 D19 D20 D21 D22 D23 D24) 30 (0,0)) C0 fun b3 w3 Y3 C3 B3 V3 => zz 6 <| zo 0 C3 <| zQ hp fun y5 hy5 hp => zc C3 (xR _ X0 (zM _) p0 _ ((hVp0.mono B3).mono Le.x0) y5 hy5) ?_
 rintro v6 w6 C6 B6 V6 rfl
 refine zz 10 <| zb 17 (b := ((y5) != 0)) (fun T7 => ?_) (fun T7 => ?_)
 have hp := ipb T7 hp
 refine zz 10 <| zr' (v := .tuple #[.slice none 0 0,.int .i64 y5]) ?_
 cases hp
 exact ⟨C6.upd,_,rfl,⟨_,rfl,⟨_,_,rfl,(show vN _ none 0 0 [] from SlR.nil none (by decide))⟩⟩⟩
 have hp := iqb T7 hp
 refine zz 7 <| zQ hp fun y9 hy9 hp => zc C6 (yR _ X0 (zM _) (p1) (100000 : Int) y9 hy9) ?_
 rintro v10 w10 C10 B10 V10 rfl
 refine zz 2 <| zb 22 (b := !y9) (fun T11 => ?_) (fun T11 => ?_)
 have hp := ipb T11 hp
 refine zz 20 <| zr' (v := .tuple #[.slice none 0 0,.int .i64 1]) ?_
 cases hp
 exact ⟨C10.upd,_,rfl,⟨_,rfl,⟨_,_,rfl,(show vN _ none 0 0 [] from SlR.nil none (by decide))⟩⟩⟩
 have hp := iqb T11 hp
 refine zz 1 <| zQ hp fun y13 hy13 hp => zc C10 (yR _ X0 (zM _) (p2) (100 : Int) y13 hy13) ?_
 rintro v14 w14 C14 B14 V14 rfl
 refine zz 3 <| zb 27 (b := !y13) (fun T15 => ?_) (fun T15 => ?_)
 have hp := ipb T15 hp
 refine zz 15 <| zr' (v := .tuple #[.slice none 0 0,.int .i64 1]) ?_
 cases hp
 exact ⟨C14.upd,_,rfl,⟨_,rfl,⟨_,_,rfl,(show vN _ none 0 0 [] from SlR.nil none (by decide))⟩⟩⟩
 have hp := iqb T15 hp
 refine zz 1 <| zQ hp fun y17 hy17 hp => zc C14 (yR _ X0 (zM _) (p3) (100 : Int) y17 hy17) ?_
 rintro v18 w18 C18 B18 V18 rfl
 refine zz 4 <| zb 31 (b := !y17) (fun T19 => ?_) (fun T19 => ?_)
 have hp := ipb T19 hp
 refine zz 9 <| zr' (v := .tuple #[.slice none 0 0,.int .i64 1]) ?_
 cases hp
 exact ⟨C18.upd,_,rfl,⟨_,rfl,⟨_,_,rfl,(show vN _ none 0 0 [] from SlR.nil none (by decide))⟩⟩⟩
 have hp := iqb T19 hp
 refine zz 9 <| zt 34 (p := (p4) < 0) (fun Q20 => ?_) (fun Q20 => ?_)
 have hp := ip Q20 hp
 refine zz 17 <| zr' (v := .tuple #[.slice none 0 0,.int .i64 8]) ?_
 cases hp
 exact ⟨C18.upd,_,rfl,⟨_,rfl,⟨_,_,rfl,(show vN _ none 0 0 [] from SlR.nil none (by decide))⟩⟩⟩
 have hp := iq Q20 hp
 refine zz 2 <| zo 0 C18 <| zz 5 <| zt 40 (p := (p4) ≥ (p0.advisories.length : Int)) (fun Q21 => ?_) (fun Q21 => ?_)
 have hp := ip Q21 hp
 refine zz 9 <| zr' (v := .tuple #[.slice none 0 0,.int .i64 8]) ?_
 cases hp
 exact ⟨C18.upd,_,rfl,⟨_,rfl,⟨_,_,rfl,(show vN _ none 0 0 [] from SlR.nil none (by decide))⟩⟩⟩
 have hp := iq Q21 hp
 refine zz 5 <| zo 0 C18 <| zz 4 ?_
 have T1_ := (Le4 B3 B6 B10 B14).trans B18
 refine zQ hp fun y23 hy23 hp => zc C18 (bR _ _ C18.lt p0 _ (hVp0.mono T1_) (p1) (p2) (p3) (p4) y23 hy23) ?_
 rintro v24 w24 C24 B24 V24 ⟨u24_0_1,u24_0_2,rfl,u24_0__h0⟩
 refine zz 11 <| zt 49 (p := (y23.length : Int) > 64) (fun Q25 => ?_) (fun Q25 => ?_)
 have hp := ip Q25 hp
 refine zz 9 <| zr' (v := .tuple #[.slice none 0 0,.int .i64 10]) ?_
 cases hp
 exact ⟨C24.upd,_,rfl,⟨_,rfl,⟨_,_,rfl,(show vN _ none 0 0 [] from SlR.nil none (by decide))⟩⟩⟩
 have hp := iq Q25 hp
 refine zz 11 <| zr' (v := .tuple #[.slice u24_0_1 y23.length u24_0_2,.int .i64 0]) ?_
 cases hp
 exact ⟨C24.upd,_,rfl,⟨_,rfl,⟨_,_,rfl,(u24_0__h0).mono C24.le⟩⟩⟩
end
set_option maxHeartbeats 1000000
theorem q14 (x : List Int) (J : Option Int) : ∀ (l : List Int) (k : Nat),jP x J l k = jI x J l k
 | [],k => by rw [jP,jI]
 | z :: l,k => by rw [jP,jI,q14 x J l (k + 1)]
theorem zWh (a b c : List Int) : xV [a,b,c] = yU [a,b,c] := by
 unfold xV yU
 rw [zOi]
 simp only [lt,List.drop_zero,xI,yD,q14,Option.bind_some]
theorem dF (z m : Int) (hm : i64.wrap (0 - m) = -m) : qM z m = some (inS (-m) m [z]) := by
 unfold qM
 rw [hm]
 by_cases h : z ≥ -m
 ·rw [if_pos h]; simp [inS,h]
 ·rw [if_neg h]; simp [inS,h]
theorem zGx (lo hi z : Int) (l : List Int) : inS lo hi (z :: l) = (inS lo hi [z] && inS lo hi l) := by simp [inS]
theorem r79 (x : zO) (k74 : Nat) (J : Option Int) (v : Int) {L : List Int} (hL : [x.height,x.own,x.other][k74]? = some L) (hv : i64.wrap (0 - v) = -v) : ∀ (fuel k : Nat),L.length - k < fuel → yJ x k74 J v fuel k = if inS (-v) v (L.drop k) = true then J else some 1
 | 0,k,h => by omega
 | n + 1,k,h => by
  rw [yJ,show yQ x = some [x.height,x.own,x.other] from rfl,Option.bind_some,jB (ixT rfl hL)]
  by_cases hk : k < L.length
  ·have hz : L[k]? = some L[k] := List.getElem?_eq_getElem hk
   rw [if_pos (by omega),Option.bind_some,jB (ixT rfl hL),jB (ixT rfl hz),dF _ _ hv,Option.bind_some,List.drop_eq_getElem_cons hk,zGx (-v) v L[k] (L.drop (k + 1)),r79 x k74 J v hL hv n (k + 1) (by omega)]
   cases inS (-v) v [L[k]] <;> simp
  ·rw [if_neg (by omega),List.drop_eq_nil_of_le (by omega)]
   simp [inS]
theorem qBm (x : zO) (J : Option Int) (n k : Nat) (v : Int) (hv : v = if k = 0 then 50000 else 100) : jF x J (n + 1) k = yJ x k (jF x J n (k + 1)) v (x.height.length + x.own.length + x.other.length + 1) 0 := by
 rw [jF,lt,lt]
 subst hv
 by_cases h : k = 0
 ·subst h; rfl
 ·rw [if_neg h]
  split
  ·rename_i h1; simp at h1; omega
  ·rfl
theorem r74 (x : zO) (J : Option Int) : jF x J 3 0 = if (!inS (-50000) 50000 x.height) = true then some 1 else if (!inS (-100) 100 x.own) = true then some 1 else if (!inS (-100) 100 x.other) = true then some 1 else J := by
 rw [qBm x J 2 0 50000 rfl,r79 x 0 _ 50000 rfl (by decide) _ 0 (by omega),qBm x J 1 1 100 rfl,r79 x 1 _ 100 rfl (by decide) _ 0 (by omega),qBm x J 0 2 100 rfl,r79 x 2 _ 100 rfl (by decide) _ 0 (by omega),jF]
 simp only [List.drop_zero]
 cases inS (-50000) 50000 x.height <;> cases inS (-100) 100 x.own <;> cases inS (-100) 100 x.other <;> rfl
theorem zTr (J : Option Int) : ∀ l : List qJ,yH J l = qC 100 J l
 | [] => by rw [yH,qC]
 | y :: l => by
  rw [yH,qC,zTr J l,dF _ _ (by decide),dF _ _ (by decide),kZ _ 100 (by decide),zGx (-100) 100 y.lo [y.hi]]
  simp only [lt,Option.bind_some]
  cases inS (-100) 100 [y.lo] <;> cases inS (-100) 100 [y.hi] <;> cases h1 : (y.sense != 1) <;> cases h2 : (y.sense != 2) <;> simp
theorem z0 : ¬ (((0 : Int) != 0) = true) := by decide
theorem zUq (r : Raw) : kK r = qK r := by
 unfold kK qK rJ lN
 rw [Option.bind_some,Option.bind_some]
 by_cases h : r.chk = 0
 ·rw [h,if_neg z0]
  try rfl
 ·rw [if_neg (by simpa using h),if_pos (by simpa using h)]
theorem zDv {p : Rat} {r : Raw} (hp : xM p = 0) (hr : r.chk = 0) : yM (Raw.of p) r = some (Raw.of (p + r.rat)) := by
 unfold yM
 rw [rZ ⟨zJi (sQ hp).1,zJi hr⟩,Raw.of_rat]
theorem n17 (p0 : List zV) (h5 : p0.length ≤ 5) (hl : ∀ n ∈ p0,Lim n.p) (J J' : Raw → Option Int) (hJ : ∀ s,xM s = 0 → J (Raw.of s) = J' (Raw.of s)) : ∀ (l q : List zV),p0 = q ++ l → (∀ n ∈ q,Nz1 n) →
  jO p0 J l q.length (Raw.of (sH (q.map (·.p.rat)))) = zT p0 J' l q.length (Raw.of (sH (q.map (·.p.rat))))
 | [],q,e,hq => by
  rw [jO,zT]
  exact hJ _ (zCc (fun n hn => ⟨hq n hn,hl n (by rw [e]; simp [hn])⟩) (by rw [e] at h5; simpa using h5))
 | x :: l,q,e,hq => by
  have hxm : x ∈ p0 := by rw [e]; simp
  have hlen : q.length + 1 + l.length ≤ 5 := by have := h5; rw [e] at this; simp at this; omega
  rw [jO,zT,lt,lt,dF _ _ (by decide),Option.bind_some,show zS (100 : Int) = some 100 from rfl,Option.bind_some,kZ _ 100 (by decide),Option.bind_some]
  by_cases hd : ∀ z ∈ [x.delta],-100 ≤ z ∧ z ≤ 100
  ·have inner : ((kK x.p).bind fun y26 => if ((y26) != 0) = true then (some y26) else (if x.p.neg = true then (some 1) else (if ((x.p.ln.length : Int) == 0) = true then (some 1) else ((yM (Raw.of (sH (q.map (·.p.rat)))) x.p).bind fun y32 => jO p0 J l (q.length + 1) y32)))) =
     ((qK x.p).bind fun y25 => if ((y25) != 0) = true then (some y25) else (if x.p.neg = true then (some 1) else (if ((x.p.ln.length : Int) == 0) = true then (some 1) else ((kH (Raw.of (sH (q.map (·.p.rat)))) x.p).bind fun y31 => zT p0 J' l (q.length + 1) y31.1)))) := by
    rw [zUq]
    obtain ⟨ec,hec⟩ := qAy x.p
    rw [hec,Option.bind_some,Option.bind_some]
    by_cases h0 : ec = 0
    ·subst h0
     have hs := (bZ x.p).1 hec
     rw [if_neg z0,if_neg z0]
     by_cases hn : x.p.neg = true
     ·rw [if_pos hn,if_pos hn]
     rw [if_neg hn,if_neg hn]
     by_cases hz : ((x.p.ln.length : Int) == 0) = true
     ·rw [if_pos hz,if_pos hz]
     rw [if_neg hz,if_neg hz]
     have hb := hd x.delta (by simp)
     have hx : Nz1 x := ⟨hb.1,hb.2,hs,by simpa using hn,zAy.1 hz⟩
     have f0 : xM (sH (q.map (·.p.rat))) = 0 := zCc (fun n hn => ⟨hq n hn,hl n (by rw [e]; simp [hn])⟩) (by omega)
     have hq1 : ∀ n ∈ q ++ [x],Nz1 n := fun n hn => by
      rcases List.mem_append.1 hn with hn | hn
      ·exact hq n hn
      ·rw [List.mem_singleton.1 hn]; exact hx
     have f1 := zCc (q := q ++ [x]) (fun n hn => ⟨hq1 n hn,hl n (by
      rcases List.mem_append.1 hn with hn | hn
      ·rw [e]; simp [hn]
      ·rw [List.mem_singleton.1 hn]; exact hxm)⟩) (by simp; omega)
     have e1 : sH ((q ++ [x]).map (·.p.rat)) = sH (q.map (·.p.rat)) + x.p.rat := by rw [List.map_append,dB]; simp [sH,Rat.add_zero]
     have ih := n17 p0 h5 hl J J' hJ l (q ++ [x]) (by rw [e]; simp) hq1
     rw [e1] at f1
     rw [e1,List.length_append] at ih
     rw [zDv f0 hs.chk,Option.bind_some]
     unfold kH
     rw [Option.bind_some,Raw.of_rat,(nL (sQ f0).1 hs.chk f1).1]
     exact ih
    ·rw [if_pos (by simpa using h0),if_pos (by simpa using h0)]
   rw [if_neg (aN.2 hd),if_neg (aN.2 hd),inner]
  ·have h1 : (!inS (-100) 100 [x.delta]) = true := Classical.not_not.1 fun h => hd (aN.1 h)
   rw [if_pos h1,if_pos h1]
theorem zYp {q : Rat} (h : xM q = 0) : ((vV (1 : Int)).bind fun y9 => (mU (Raw.of q) y9).bind fun y12 => if ((y12.1) != 0) = true then (some (2 : Int)) else (some 0)) = if q = 1 then some 0 else some 2 := by
 rw [show vV (1 : Int) = some (Raw.of ((1 : Int) : Rat)) from rZ (by decide),Option.bind_some]
 by_cases hq : q = 1
 ·rw [if_pos hq,zXy h]; exact hq
 ·rw [if_neg hq]
  have := mt (zXy h).1 hq
  unfold mU at this ⊢
  rw [Option.bind_some] at this ⊢
  split
  ·rfl
  ·rename_i h9
   rw [if_neg h9] at this
   exact absurd rfl this
theorem zMw (l : List zV) (hl : ∀ n ∈ l,Lim n.p) : xQ l = yF l := by
 unfold xQ yF
 by_cases h0 : ((l.length : Int) == 0) = true
 ·rw [if_pos h0,if_pos h0]
 rw [if_neg h0,if_neg h0]
 by_cases h5 : (l.length : Int) > 5
 ·rw [if_pos h5,if_pos h5]
 rw [if_neg h5,if_neg h5,lt,lt,List.drop_zero]
 refine n17 l (by omega) hl _ _ (fun s hs => ?_) l [] rfl (by simp)
 rw [zYp hs,show xD (1 : Int) = some (Raw.of ((1 : Int) : Rat)) from rZ (by decide),Option.bind_some]
 unfold zY
 rw [Option.bind_some]
 by_cases hq : s = 1
 ·rw [if_pos hq,hq,if_neg (by simp)]
 ·rw [if_neg hq,if_pos]
  simp only [Bool.not_eq_true',decide_eq_false_iff_not]
  intro e
  have := congrArg Raw.rat e
  rw [Raw.of_rat,Raw.of_rat] at this
  exact hq (this.trans rfl)
theorem zQq (x : zO) (J : Option Int) : ∀ (r k : Nat),yI x J r k = qA x J r k
 | 0,k => by rw [yI,qA]
 | r + 1,k => by rw [yI,qA,zQq x J r (k + 1)]; simp only [zUq]
theorem fP (x : zO) (hl : bT x) : jQ x = qF x := by
 unfold jQ qF
 rw [show yQ x = some [x.height,x.own,x.other] from rfl,Option.bind_some,zWh,show zS (100 : Int) = some 100 from rfl,Option.bind_some,show vO x = some [x.height,x.own,x.other] from rfl,Option.bind_some]
 congr 1
 funext y
 by_cases hy : (y != 0) = true
 ·rw [if_pos hy,if_pos hy]
 rw [if_neg hy,if_neg hy,lt,show ((3 : Int).toNat - 0) = 3 from rfl,r74,show zS (50000 : Int) = some 50000 from rfl,Option.bind_some,kZ _ 50000 (by decide),Option.bind_some,kZ _ 100 (by decide),Option.bind_some,kZ _ 100 (by decide),Option.bind_some]
 by_cases h1 : (!inS (-50000) 50000 x.height) = true
 ·rw [if_pos h1,if_pos h1]
 rw [if_neg h1,if_neg h1]
 by_cases h2 : (!inS (-100) 100 x.own) = true
 ·rw [if_pos h2,if_pos h2]
 rw [if_neg h2,if_neg h2]
 by_cases h3 : (!inS (-100) 100 x.other) = true
 ·rw [if_pos h3,if_pos h3]
 rw [if_neg h3,if_neg h3]
 by_cases h4 : ((x.advisories.length : Int) == 0) = true
 ·rw [if_pos h4,if_pos h4]
 rw [if_neg h4,if_neg h4]
 by_cases h5 : (x.advisories.length : Int) > 6
 ·rw [if_pos h5,if_pos h5]
 have ha := List.length_pos_iff.2 (zAy.1 h4)
 rw [if_neg h5,if_neg h5,lt,zTr]
 show qC 100 _ _ = grd _ (qC 100 _ _)
 rw [rZ (by omega),List.drop_zero]
 congr 1
 have in1 : ∀ lo hi z : Int,(!inS lo hi [z]) = true ↔ (z < lo ∨ z > hi) := fun lo hi z => by
  simp [inS]
 rw [aL,Option.bind_some,aL,Option.bind_some,aL,Option.bind_some,zMw _ hl.o]
 have sz : ((qG x).bind fun y28 => if (i64.wrap ((y28) * (x.advisories.length : Int))) > 200 then (some (10 : Int)) else (some 0)) = ((jK x).bind fun y56 => if (y56) > 200 then (some (10 : Int)) else (some 0)) := by
  unfold qG jK
  simp only [Option.bind_some]
 by_cases a1 : x.pull < 0
 ·rw [if_pos a1,if_pos ((in1 0 100 x.pull).2 (.inl a1))]
 rw [if_neg a1]
 by_cases a2 : x.pull > 100
 ·rw [if_pos a2,if_pos ((in1 0 100 x.pull).2 (.inr a2))]
 rw [if_neg a2,if_neg (fun h => ((in1 0 100 x.pull).1 h).elim a1 a2)]
 by_cases b1 : x.near < 0
 ·rw [if_pos b1,if_pos ((in1 0 50000 x.near).2 (.inl b1))]
 rw [if_neg b1]
 by_cases b2 : x.near > 50000
 ·rw [if_pos b2,if_pos ((in1 0 50000 x.near).2 (.inr b2))]
 rw [if_neg b2,if_neg (fun h => ((in1 0 50000 x.near).1 h).elim b1 b2)]
 by_cases c1 : x.steps < 0
 ·rw [if_pos c1,if_pos ((in1 0 24 x.steps).2 (.inl c1))]
 rw [if_neg c1]
 by_cases c2 : x.steps > 24
 ·rw [if_pos c2,if_pos ((in1 0 24 x.steps).2 (.inr c2))]
 rw [if_neg c2,if_neg (fun h => ((in1 0 24 x.steps).1 h).elim c1 c2),lt,sz]
 show _ = zZ x (qA x _ 3 0) 2 0
 rw [zZ,jB (ixT (k := 0) (x := x.ownNoise) rfl rfl),zZ,jB (ixT (k := 1) (x := x.otherNoise) rfl rfl),zZ]
 congr 1
 funext y
 simp only [lt]
 by_cases hy : y = 0
 ·subst hy
  rw [if_pos (by decide),if_neg (by decide),zMw _ hl.t]
  congr 1
  funext z
  rw [zQq]
 ·rw [if_neg (by simpa using hy),if_pos (by simpa using hy),if_pos (by simpa using hy)]
end Go.Proofs.YtjnbipmlmafahaaGreat
namespace Go.Proofs.YtjnbipmlmafahaaGreat
open Go Go.Gv Go.RowKit IntKind
set_option maxRecDepth 100000
set_option maxHeartbeats 1000000
structure zUt (x : zO) : Prop where
 a : Lim x.alert
 s : Lim x.strengthen
 r : Lim x.reversal
theorem zW.limC {r : Rd} {v : Value} {x : zO} (h : zW r v x) : bT x ∧ zUt x := by
 refine ⟨zW.lim h,zW.op h ?_⟩
 intro _ _ _ _ _ _ _ _ _ _ _ _ _ _ _ _ _ _ _ _ _ _ _ _ _ _ _ _ _ _ _ h1 h2 h3 h4 h5 h6
 exact ⟨⟨h1.hlt,h2.hlt⟩,⟨h3.hlt,h4.hlt⟩,⟨h5.hlt,h6.hlt⟩⟩
theorem z8 : ((8 : Int) != 0) = true := by decide
theorem zTa {x : zO} (g : zFe x) : qG x = some ((nV x : Nat) : Int) := by
 have e1 : x.height.length * x.own.length ≤ 32 * 32 := Nat.mul_le_mul g.h2 g.o2
 have e2 : x.height.length * x.own.length * x.other.length ≤ 32 * 32 * 32 := Nat.mul_le_mul e1 g.t2
 have w1 : ∀ a b : Nat,a * b ≤ 196608 → i64.wrap ((a : Int) * (b : Int)) = ((a * b : Nat) : Int) := fun a b h => by
  rw [← Int.natCast_mul]
  exact jE (by omega) (by omega)
 unfold qG
 rw [Option.bind_some,w1 _ _ (by omega),w1 _ _ (by omega)]
 rfl
theorem zQk (x : zO) (hl : bT x) : vD x = xY x := by
 unfold vD xY qG jK
 rw [fP x hl]
 simp only [Option.bind_some]
theorem zTv (x : zO) (hl : bT x) (s : Int) : vQ x s = vX x s := by
 obtain ⟨e,hc,g⟩ := nM x
 unfold vQ
 rw [zQk x hl]
 unfold xY vX
 rw [hc,Option.bind_some,Option.bind_some]
 by_cases h : e = 0
 ·subst h
  obtain ⟨n,hn,_⟩ := zFf x
  rw [if_neg z0,if_neg z0,hn,Option.bind_some,Option.bind_some,if_neg z0]
  rfl
 ·have h1 : (e != 0) = true := by simpa using h
  rw [if_pos h1,if_pos h1,Option.bind_some,if_pos h1]
theorem zKv {x : zO} {e : Int} (hc : qF x = some e) (he : e ≠ 0) (l : List Int) : yN x l = some e := by
 unfold yN
 rw [jB hc,if_pos (by simpa using he)]
theorem zKk (x : zO) (hl : bT x) (a b : Int) : xH x a b = wH x a b := by
 obtain ⟨e,hc,g⟩ := nM x
 unfold xH wH
 rw [fP x hl,jB hc]
 by_cases h : e = 0
 ·subst h
  have g := g rfl
  have a1 := g.a1
  have a2 := g.a2
  have hnv := g.nV_le
  rw [bU hc g,Option.bind_some,if_neg z0,zTa g,Option.bind_some,g.size,Option.bind_some,rZ (by omega)]
  have hd : i64.wrap (Int.tdiv ((nV x * x.advisories.length : Nat) : Int) (x.advisories.length : Int)) = ((nV x : Nat) : Int) := by
   show i64.wrap (((nV x * x.advisories.length / x.advisories.length : Nat)) : Int) = _
   rw [Nat.mul_div_cancel _ (by omega)]
   exact jE (by omega) (by omega)
  rw [hd]
  by_cases hb : 0 ≤ b ∧ b < (x.advisories.length : Int)
  ·rw [if_pos hb,if_neg z0]
   by_cases h1 : a < 0
   ·rw [if_pos h1,if_pos h1]
   rw [if_neg h1,if_neg h1]
   by_cases h2 : a ≥ ((nV x : Nat) : Int)
   ·rw [if_pos h2,if_pos h2]
   rw [if_neg h2,if_neg h2,if_neg (by omega),if_neg (by omega)]
  ·rw [if_neg hb,if_pos z8]
   by_cases h1 : a < 0
   ·rw [if_pos h1]
   rw [if_neg h1]
   by_cases h2 : a ≥ ((nV x : Nat) : Int)
   ·rw [if_pos h2]
   rw [if_neg h2]
   by_cases h3 : b < 0
   ·rw [if_pos h3]
   rw [if_neg h3,if_pos (by omega)]
 ·have h1 : (e != 0) = true := by simpa using h
  rw [if_pos h1,zKv hc h,Option.bind_some,if_pos h1]
theorem zQi {x : zO} {b : Int} (hb : 0 ≤ b ∧ b < (x.advisories.length : Int)) (u : Int) : kY x u b = jJ x u b := by
 obtain ⟨k,rfl⟩ := Int.eq_ofNat_of_zero_le hb.1
 have hx : ix x.advisories (k : Int) = some x.advisories[k] := ixT (k := k) rfl (List.getElem?_eq_getElem (by omega))
 unfold kY jJ
 rw [hx]
 simp only [Option.bind_some]
theorem zOw (x : zO) (hl : bT x) (u b : Int) : vC x u b = xF x u b := by
 obtain ⟨e,hc,g⟩ := nM x
 unfold vC xF
 rw [fP x hl,jB hc,jB hc]
 by_cases h : e = 0
 ·subst h
  have g := g rfl
  rw [if_neg z0,if_neg z0,dF _ _ (by decide),Option.bind_some,show zS (100 : Int) = some 100 from rfl,Option.bind_some,kZ _ 100 (by decide),Option.bind_some]
  by_cases h1 : (!inS (-100) 100 [u]) = true
  ·rw [if_pos h1,if_pos h1]
  rw [if_neg h1,if_neg h1,bU hc g,Option.bind_some]
  by_cases hb : 0 ≤ b ∧ b < (x.advisories.length : Int)
  ·rw [if_pos hb,if_neg z0,if_neg (by omega),if_neg (by omega),zQi hb]
  ·rw [if_neg hb,if_pos z8]
   by_cases h3 : b < 0
   ·rw [if_pos h3]
   rw [if_neg h3,if_pos (by omega)]
 ·have h1 : (e != 0) = true := by simpa using h
  rw [if_pos h1,if_pos h1]
end Go.Proofs.YtjnbipmlmafahaaGreat
namespace Go.Proofs.YtjnbipmlmafahaaGreat
open Go Go.Gv Go.RowKit IntKind
set_option maxRecDepth 100000
set_option maxHeartbeats 1000000
theorem zSd {p q r : Raw} (hp : sD p) (hq : sD q) (hr : sD r) (lp : Lim p) (lq : Lim q) (lr : Lim r) : xM (0 + p.rat) = 0 ∧ xM (0 + p.rat + q.rat) = 0 ∧ xM (0 + p.rat + r.rat) = 0 := by
 have hE0 : p.d * q.d * r.d ≠ 0 := Nat.mul_ne_zero (Nat.mul_ne_zero (Nat.ne_of_gt (Raw.d_pos _)) (Nat.ne_of_gt (Raw.d_pos _))) (Nat.ne_of_gt (Raw.d_pos _))
 have hE : p.d * q.d * r.d ≤ 2 ^ 256 * 2 ^ 256 * 2 ^ 256 := Nat.mul_le_mul (Nat.mul_le_mul (hp.d lp) (hq.d lq)) (hr.d lr)
 have d1 := (hp.db lp).dvd (E := p.d * q.d * r.d) ⟨q.d * r.d,by rw [Nat.mul_assoc]⟩ hE0
 have d2 := (hq.db lq).dvd (E := p.d * q.d * r.d) ⟨p.d * r.d,by rw [Nat.mul_comm p.d q.d,Nat.mul_assoc]⟩ hE0
 have d3 := (hr.db lr).dvd (E := p.d * q.d * r.d) ⟨p.d * q.d,by rw [Nat.mul_comm]⟩ hE0
 have hD : p.d * q.d * r.d < xL := Nat.lt_of_le_of_lt hE (by decide)
 have hb : 2 ^ 256 * (p.d * q.d * r.d) ≤ 2 ^ 256 * (2 ^ 256 * 2 ^ 256 * 2 ^ 256) := Nat.mul_le_mul_left _ hE
 rw [Rat.zero_add]
 exact ⟨d1.fit hD (Nat.lt_of_le_of_lt hb (by decide)),(DB.add hE0 d1 d2).fit hD (Nat.lt_of_le_of_lt (Nat.add_le_add hb hb) (by decide)),(DB.add hE0 d1 d3).fit hD (Nat.lt_of_le_of_lt (Nat.add_le_add hb hb) (by decide))⟩
theorem qBl {p : Rat} {r : Raw} (hp : xM p = 0) (hr : r.chk = 0) (h : xM (p + r.rat) = 0) : kH (Raw.of p) r = some (Raw.of (p + r.rat),0) := by
 unfold kH
 rw [Raw.of_rat,(nL (sQ hp).1 hr h).1,(nL (sQ hp).1 hr h).2]
theorem zCn {x : zO} (hc : qF x = some 0) (g : zFe x) (l : List Int) : yN x l = some (if inS 0 ((x.advisories.length : Int) - 1) l = true then 0 else 8) := by
 have h1 := g.a1
 have h2 := g.a2
 unfold yN
 rw [jB hc,if_neg (by decide),jE (by omega) (by omega),aL,Option.bind_some]
 cases inS 0 ((x.advisories.length : Int) - 1) l <;> simp
theorem zZi {x : zO} (hl : bT x) (hq : zUt x) (f : zIt x) {a b : Int} (ha : 0 ≤ a ∧ a < (x.advisories.length : Int)) (hb : 0 ≤ b ∧ b < (x.advisories.length : Int)) : ((wB x a b).bind fun y => some (y,(0 : Int))) = yE x a b := by
 obtain ⟨hc,g⟩ := f.good hl
 have hk : inS 0 ((x.advisories.length : Int) - 1) [a,b] = true := rO.2 fun z hz => by
  rcases List.mem_cons.1 hz with rfl | hz
  ·omega
  ·rw [List.mem_singleton.1 hz]; omega
 obtain ⟨i,rfl⟩ := Int.eq_ofNat_of_zero_le ha.1
 obtain ⟨j,rfl⟩ := Int.eq_ofNat_of_zero_le hb.1
 obtain ⟨A,hA⟩ : ∃ A,ix x.advisories (i : Int) = some A := ⟨_,ixT (k := i) rfl (List.getElem?_eq_getElem (by omega))⟩
 obtain ⟨B,hB⟩ : ∃ B,ix x.advisories (j : Int) = some B := ⟨_,ixT (k := j) rfl (List.getElem?_eq_getElem (by omega))⟩
 obtain ⟨f0,f1,f2⟩ := zSd f.c1.1 f.c2.1 f.c3.1 hq.a hq.s hq.r
 have zf : xM (0 : Rat) = 0 := by decide
 have S0 : yM Raw.zero x.alert = some (Raw.of (0 + x.alert.rat)) := by rw [← of0]; exact zDv zf f.c1.1.chk
 have S1 := zDv f0 f.c2.1.chk
 have S2 := zDv f0 f.c3.1.chk
 have A0 : kH Raw.zero x.alert = some (Raw.of (0 + x.alert.rat),0) := by rw [← of0]; exact qBl zf f.c1.1.chk f0
 have A1 := qBl f0 f.c2.1.chk f1
 have A2 := qBl f0 f.c3.1.chk f2
 unfold wB yE
 rw [zCn hc g,Option.bind_some,if_pos hk,if_neg z0,hA,hB]
 simp only [lt,Option.bind_some]
 by_cases b0 : ((j : Int) != 0) = true
 ·simp only [b0,if_true,S0,A0,Option.bind_some]
  by_cases a0 : ((i : Int) != 0) = true
  ·simp only [a0,if_true]
   by_cases hs : (A.sense == B.sense) = true
   ·have hs' : (A.sense != B.sense) = false := by simpa using hs
    have e1 : (A.lo == B.lo) = (B.lo == A.lo) := Bool.eq_iff_iff.2 ⟨fun h => by simpa using (by simpa using h : A.lo = B.lo).symm,fun h => by simpa using (by simpa using h : B.lo = A.lo).symm⟩
    have e2 : (A.hi == B.hi) = (B.hi == A.hi) := Bool.eq_iff_iff.2 ⟨fun h => by simpa using (by simpa using h : A.hi = B.hi).symm,fun h => by simpa using (by simpa using h : B.hi = A.hi).symm⟩
    have e3 : (B.lo != A.lo) = !(B.lo == A.lo) := rfl
    have e4 : (B.hi != A.hi) = !(B.hi == A.hi) := rfl
    rw [e1,e2,e3,e4]
    generalize (B.lo == A.lo) = p
    generalize (B.hi == A.hi) = q
    by_cases c1 : B.lo ≥ A.lo
    ·by_cases c2 : B.hi ≤ A.hi
     ·cases p <;> cases q <;> simp [hs,hs',c1,c2,S1,A1]
     ·simp [hs,hs',c1,c2]
    ·simp [hs,hs',c1]
   ·have hs' : (A.sense != B.sense) = true := by simpa using hs
    simp [hs,hs',S2,A2]
  ·simp only [a0]
   simp
 ·simp only [b0]
  by_cases a0 : ((i : Int) != 0) = true
  ·simp only [a0,if_true]
   simp
  ·simp only [a0]
   simp
end Go.Proofs.YtjnbipmlmafahaaGreat
namespace Go.Gv
open Go.RowKit IntKind
section
variable {N : Nat} {a b w : World}
theorem Ov.cellsI (h : Ov N a b) {p : Addr} {kd : IntKind} {t : Int} {vs : List Value} (k : yX a p (.int kd t :: vs)) (hv : vs.all zPe = true) : ∃ t',yX b p (.int kd t' :: vs) := by
 obtain ⟨t',ht⟩ := h.ints _ _ _ (k 0 _ rfl)
 refine ⟨t',fun j v hj => ?_⟩
 cases j with
 | zero => cases hj; exact ht
 | succ j => exact h.keep _ _ (k (j + 1) v hj) (List.all_eq_true.1 hv v (List.mem_of_getElem? hj))
def OC (w : World) (N : Nat) (ad : Option Addr) (len : Nat) : Prop := ∀ j,j < len → ∃ blk off t s a1 a2 a3 a4 a5 a6,ad = Option.some ⟨blk,off,none⟩ ∧ yX w ⟨blk,off + j * 4,none⟩ [.int .i64 t,.bool s,.slice a1 a2 a3,.slice a4 a5 a6] ∧ UC .u32 w N a1 a2 ∧ UC .u32 w N a4 a5 ∧ a2 ≤ 9223372036854775807 ∧ a5 ≤ 9223372036854775807
theorem OC.up {ad : Option Addr} {len : Nat} (h : OC a N ad len) (k : Ov N a b) : OC b N ad len := fun j hj => by
 obtain ⟨blk,off,t,s,a1,a2,a3,a4,a5,a6,e,h1,h2,h3,h4⟩ := h j hj
 obtain ⟨t',h1'⟩ := k.cellsI h1 rfl
 exact ⟨blk,off,t',s,a1,a2,a3,a4,a5,a6,e,h1',h2.up k,h3.up k,h4⟩
theorem vN.oc {ad : Option Addr} {len cap : Nat} {l : List Out} (h : vN (rd w (fun k _ => k < N)) ad len cap l) : OC w N ad len := fun j hj => by
 obtain ⟨blk,off,x,e,_,a1,a2,a3,a4,a5,a6,h1,h2,h3⟩ := SlR.cell h hj
 exact ⟨blk,off,_,_,a1,a2,a3,a4,a5,a6,e,h1.cells,h2.uc,h3.uc,Nat.le_trans h2.hcap h2.hbig,Nat.le_trans h3.hcap h3.hbig⟩
def AC (w : World) (N : Nat) (ad : Option Addr) (len : Nat) : Prop := ∀ j,j < len → ∃ blk off s a1 a2 a3 a4 a5 a6 a7 a8 a9,ad = Option.some ⟨blk,off,none⟩ ∧ yX w ⟨blk,off + j * 4,none⟩ [.bool s,.slice a1 a2 a3,.slice a4 a5 a6,.slice a7 a8 a9] ∧ UC .u32 w N a1 a2 ∧ UC .u32 w N a4 a5 ∧ OC w N a7 a8 ∧ a2 ≤ 9223372036854775807 ∧ a5 ≤ 9223372036854775807 ∧ a8 ≤ 9223372036854775807
theorem AC.up {ad : Option Addr} {len : Nat} (h : AC a N ad len) (k : Ov N a b) : AC b N ad len := fun j hj => by
 obtain ⟨blk,off,s,a1,a2,a3,a4,a5,a6,a7,a8,a9,e,h1,h2,h3,h4,h5⟩ := h j hj
 exact ⟨blk,off,s,a1,a2,a3,a4,a5,a6,a7,a8,a9,e,k.cells h1 rfl,h2.up k,h3.up k,h4.up k,h5⟩
theorem zAv.ac {ad : Option Addr} {len cap : Nat} {l : List rU} (h : zAv (rd w (fun k _ => k < N)) ad len cap l) : AC w N ad len := fun j hj => by
 obtain ⟨blk,off,x,e,_,a1,a2,a3,a4,a5,a6,a7,a8,a9,h1,h2,h3,h4⟩ := SlR.cell h hj
 exact ⟨blk,off,_,a1,a2,a3,a4,a5,a6,a7,a8,a9,e,h1.cells,h2.uc,h3.uc,h4.oc,Nat.le_trans h2.hcap h2.hbig,Nat.le_trans h3.hcap h3.hbig,Nat.le_trans (SlR.hcap h4) (SlR.hbig h4)⟩
def TC (w : World) (N : Nat) (ad : Option Addr) (len : Nat) : Prop := ∀ j,j < len → ∃ blk off a1 a2 a3,ad = Option.some ⟨blk,off,none⟩ ∧ yX w ⟨blk,off + j,none⟩ [.slice a1 a2 a3] ∧ AC w N a1 a2 ∧ a2 ≤ 9223372036854775807
theorem TC.up {ad : Option Addr} {len : Nat} (h : TC a N ad len) (k : Ov N a b) : TC b N ad len := fun j hj => by
 obtain ⟨blk,off,a1,a2,a3,e,h1,h2,h3⟩ := h j hj
 exact ⟨blk,off,a1,a2,a3,e,k.cells h1 rfl,h2.up k,h3⟩
end
end Go.Gv
namespace Go.Proofs.YtjnbipmlmafahaaGreat
open Go Go.Gv Go.RowKit IntKind
set_option maxRecDepth 100000
set_option maxHeartbeats 1000000
theorem zNn (w : World) (N : Nat) (hN : N ≤ w.heap.size) (ad : Option Addr) (len cap : Nat) (h : UC .u32 w N ad len) (hb : len ≤ 9223372036854775807) : Calls Tryz.prog 104 #[.slice ad len cap] w (fun e w' => ∃ v,e = .returned v ∧ (v = .tuple #[] ∧ Ov N w w')) := by
 refine zen Tryz.func104 ?_
 have C0 : St E0 w X0 w X0 [] := St.start (zM _)
 refine zz 6 <| zlp Tryz.f104 [] [1,0] (fun (k : Nat) => [(0,.slice ad len cap),(2,.int .i64 (k : Int))]) (fun (k : Nat) w1 => Ov N w w1 ∧ k ≤ len) (fun k => len - k) 0 ⟨Ov.refl _ _,Nat.zero_le _⟩ ?_
 rintro k w2 K2 H2 ⟨hO2,hkl⟩
 refine zz 9 <| zt 6 (p := (k : Int) < (len : Int)) (fun Q3 => ?_) (fun Q3 => ?_)
 obtain ⟨blk,off,x,rfl,hNb,hc,hf⟩ := (h.up hO2) k (by omega)
 refine zz 8 <| zi (b := blk) (off := off) (len := len) (cap := cap) (kd := .i64) (i := (k : Int)) 1 (off + k) <| zst (y := .int .u32 77) hc hf <| zz 6 <| zw 8 (x := (k : Int) + 1) <| zz 2 <| zP (fun a h => H2 (k + 1) _ a h ⟨hO2.trans (Ov.set hc hNb),by omega⟩ ?_)
 first | omega | (simp <;> omega)
 refine zz 5 <| zr' (v := .tuple #[]) ?_
 exact ⟨_,rfl,rfl,hO2⟩
theorem zKo (w : World) (N : Nat) (hN : N ≤ w.heap.size) (ad : Option Addr) (len cap : Nat) (h : UC .u32 w N ad len) (hb : len ≤ 9223372036854775807) : Calls Tryz.prog 73 #[.slice ad len cap] w (fun e w' => ∃ v,e = .returned v ∧ (v = .tuple #[] ∧ Ov N w w')) := by
 refine zen Tryz.func73 ?_
 have C0 : St E0 w X0 w X0 [] := St.start (zM _)
 refine zz 2 <| zcF (zNn _ N hN ad len cap h hb) ?_
 rintro v3 w3 ⟨rfl,hO3⟩
 refine zz 1 <| zr' (v := .tuple #[]) ?_
 exact ⟨_,rfl,rfl,hO3⟩
theorem zJx (w : World) (N : Nat) (hN : N ≤ w.heap.size) (sb : Bool) (a1 : Option Addr) (a2 a3 : Nat) (a4 : Option Addr) (a5 a6 : Nat) (h1 : UC .u32 w N a1 a2) (h2 : UC .u32 w N a4 a5) (hb1 : a2 ≤ 9223372036854775807) (hb2 : a5 ≤ 9223372036854775807) : Calls Tryz.prog 26 #[.agg #[.bool sb,.slice a1 a2 a3,.slice a4 a5 a6]] w (fun e w' => ∃ v,e = .returned v ∧ (v = .tuple #[] ∧ Ov N w w')) := by
 refine zen Tryz.func26 ?_
 have C0 : St E0 w X0 w X0 [] := St.start (zM _)
 refine zz 2 <| zn pn (.cells #[.bool sb,.slice a1 a2 a3,.slice a4 a5 a6] 28 (0,0)) C0 fun b3 w3 Y3 C3 B3 V3 => zz 5 <| zo 0 C3 ?_
 have hO0 := Ov.upd V3 hN
 refine zcF (zKo _ N (Nat.le_trans hN hO0.size) a1 a2 a3 (h1.up hO0) hb1) ?_
 rintro v5 w5 ⟨rfl,hO5⟩
 have hOa := hO0.trans hO5
 refine zz 4 <| zl (hO5.cells (C3.cells (off := 2) (vs := [.slice a4 a5 a6]) 0 rfl rfl) rfl) <| zcF (zKo _ N (Nat.le_trans hN hOa.size) a4 a5 a6 (h2.up hOa) hb2) ?_
 rintro v7 w7 ⟨rfl,hO7⟩
 refine zz 1 <| zr' (v := .tuple #[]) ?_
 exact ⟨_,rfl,rfl,(hOa.trans hO7)⟩
set_option maxHeartbeats 1000000
theorem zIw (w : World) (N : Nat) (hN : N ≤ w.heap.size) (t : Int) (sb : Bool) (a1 : Option Addr) (a2 a3 : Nat) (a4 : Option Addr) (a5 a6 : Nat) (h1 : UC .u32 w N a1 a2) (h2 : UC .u32 w N a4 a5) (hb1 : a2 ≤ 9223372036854775807) (hb2 : a5 ≤ 9223372036854775807) : Calls Tryz.prog 74 #[.agg #[.int .i64 t,.bool sb,.slice a1 a2 a3,.slice a4 a5 a6]] w (fun e w' => ∃ v,e = .returned v ∧ (v = .tuple #[] ∧ Ov N w w')) := by
 refine zen Tryz.func74 ?_
 have C0 : St E0 w X0 w X0 [] := St.start (zM _)
 refine zz 2 <| zn pn (.cells #[.int .i64 t,.bool sb,.slice a1 a2 a3,.slice a4 a5 a6] 80 (0,0)) C0 fun b3 w3 Y3 C3 B3 V3 => zz 4 <| zo 0 C3 ?_
 have hO0 := Ov.upd V3 hN
 refine zcF (zJx _ N (Nat.le_trans hN hO0.size) sb a1 a2 a3 a4 a5 a6 (h1.up hO0) (h2.up hO0) hb1 hb2) ?_
 rintro v5 w5 ⟨rfl,hO5⟩
 have hOa0 := hO0.trans hO5
 refine zz 1 <| zr' (v := .tuple #[]) ?_
 exact ⟨_,rfl,rfl,hOa0⟩
theorem zGy (w : World) (N : Nat) (hN : N ≤ w.heap.size) (ad : Option Addr) (len cap : Nat) (h : OC w N ad len) (hb : len ≤ 9223372036854775807) : Calls Tryz.prog 27 #[.slice ad len cap] w (fun e w' => ∃ v,e = .returned v ∧ (v = .tuple #[] ∧ Ov N w w')) := by
 refine zen Tryz.func27 ?_
 have C0 : St E0 w X0 w X0 [] := St.start (zM _)
 refine zz 6 <| zlp Tryz.f27 [] [1,0] (fun (k : Nat) => [(0,.slice ad len cap),(2,.int .i64 (k : Int))]) (fun (k : Nat) w1 => Ov N w w1 ∧ k ≤ len) (fun k => len - k) 0 ⟨Ov.refl _ _,Nat.zero_le _⟩ ?_
 rintro k w2 K2 H2 ⟨hO2,hkl⟩
 refine zz 9 <| zt 6 (p := (k : Int) < (len : Int)) (fun Q3 => ?_) (fun Q3 => ?_)
 obtain ⟨blk,off,t,sb,a1,a2,a3,a4,a5,a6,rfl,hcs,h1,h2,h3,h4⟩ := (h.up hO2) k (by omega)
 refine zz 8 <| zi (b := blk) (off := off) (len := len) (cap := cap) (kd := .i64) (i := (k : Int)) 4 (off + k * 4) <| zl hcs <| zcF (zIw _ N (Nat.le_trans hN hO2.size) t sb a1 a2 a3 a4 a5 a6 h1 h2 h3 h4) ?_
 rintro v5 w5 ⟨rfl,hO5⟩
 refine zz 6 <| zw 8 (x := (k : Int) + 1) <| zz 2 <| zP (fun a h => H2 (k + 1) _ a h ⟨hO2.trans hO5,by omega⟩ ?_)
 first | omega | (simp <;> omega)
 refine zz 5 <| zr' (v := .tuple #[]) ?_
 exact ⟨_,rfl,rfl,hO2⟩
section
variable (w : World) (X : Hid) (hX : ∀ k o,X k o → k < w.heap.size)
set_option maxHeartbeats 1000000
noncomputable def qU (J2 : (List qJ) → Option ((List qJ))) : List qJ → (List qJ) → Option ((List qJ))
 | [],v5_0 => J2 v5_0
 | x5 :: r5,v5_0 => grd ((v5_0.length + 1) * 24 ≤ 140737488355328) <| qU J2 r5 (v5_0 ++ [x5])
noncomputable def kP (p0 : List qJ) : Option ((List qJ)) :=
 lt (fun (v2_0 : List qJ) => some v2_0) fun J2 => qU J2 (p0.drop 0)  ([] : List qJ)
include hX in
theorem gD (p0 : List qJ) (vp0 : Value) (hp0 : SV wC (rd w X) vp0 p0) (y : (List qJ)) (hp : kP p0 = some y) : Calls Tryz.prog 44 #[vp0] w (Ret E0 w fun w' v => SV wC (rd w' (old w)) v y) := by
 obtain ⟨D1,D2,rfl,p0a_h0⟩ := hp0
 unfold kP at hp
 refine zen Tryz.func44 ?_
 have C0 : St E0 w X w X [] := St.start hX
 refine zz 10 ?_
 have C := rQ hp
 obtain ⟨J2,hJ2,hp⟩ := C
 refine yT (fun ((v2_0,rb2_0,ad2_0,m2_0,cap2_0) : (List qJ) × (List (Nat × Obj)) × (Option Addr) × Nat × Nat) => [(3,.slice ad2_0 m2_0 cap2_0)]) (fun (v2_0,rb2_0,ad2_0,m2_0,cap2_0) w1 => ∃ Y1 : Hid,St E0 w X w1 Y1 (rb2_0) ∧ Le (rd w X) (rd w1 Y1) ∧ jX gZ 96 3 (rd w1 (orN Y1 w.heap.size)) rb2_0 ad2_0 m2_0 cap2_0 v2_0 ∧ J2 v2_0 = some y) ?_ ?_
 rintro ⟨v2_0,rb2_0,ad2_0,m2_0,cap2_0⟩ w2 ⟨Y2,C2,B2,P2_0_0,hp⟩
 have hp := (hJ2 _).symm.trans hp
 refine zz 7 <| zr' (v := .slice ad2_0 m2_0 cap2_0) ?_
 have C := St.pubGRN (A := []) (B := []) (fun rb => (rb)) C2 (fun _ => by simp only [List.append_assoc,List.cons_append,List.nil_append,List.append_nil]) P2_0_0 (Nat.le_refl _) gZ.at
 obtain ⟨Y3,hSx3,B3,hRx3⟩ := C
 have C3 : St E0 w X w2 Y3 [] := hSx3
 have C := hRx3.hlen
 subst C
 have hR3 : wC (rd w2 (orN Y3 w.heap.size)) ad2_0 v2_0.length cap2_0 v2_0 := hRx3
 cases hp
 exact ⟨C3.upd,_,rfl,⟨_,_,rfl,((hR3.mono (Le.or (Le.refl _) _))).mono Le.orr⟩⟩
 intro K4 H4
 refine zz 6 ?_
 have hb5 : (p0.length : Int) ≤ 9223372036854775807 := rR (p0a_h0).hcap (p0a_h0).hbig
 refine zlp Tryz.f44 [K4] [1,1,9,1,0] (fun ((v5_0,k5,rb5_0,ad5_0,m5_0,cap5_0) : (List qJ) × Nat × (List (Nat × Obj)) × (Option Addr) × Nat × Nat) => [(0,.slice D1 p0.length D2),(3,.slice ad5_0 m5_0 cap5_0),(4,.int .i64 (k5 : Int))]) (fun (v5_0,k5,rb5_0,ad5_0,m5_0,cap5_0) w1 => ∃ Y1 : Hid,St E0 w X w1 Y1 (rb5_0) ∧ Le (rd w X) (rd w1 Y1) ∧ jX gZ 96 3 (rd w1 (orN Y1 w.heap.size)) rb5_0 ad5_0 m5_0 cap5_0 v5_0 ∧ qU J2 (p0.drop k5)  v5_0 = some y) (fun (v5_0,k5,rb5_0,ad5_0,m5_0,cap5_0) => p0.length - k5) (([] : List qJ),0,[],none,0,0) ?_ ?_
 exact ⟨_,C0,Le.refl _,jX.nil,hp⟩
 rintro ⟨v5_0,k5,rb5_0,ad5_0,m5_0,cap5_0⟩ w5 K5 H5 ⟨Y5,C5,B5,P5_0_0,hp⟩
 refine zz 9 <| zt 8 (p := (k5 : Int) < (p0.length : Int)) (fun Q6 => ?_) (fun Q6 => ?_)
 have C := xK (l := p0) (k := k5) (qR Q6)
 obtain ⟨x5,O5⟩ := C
 rw [wG O5,qU] at hp
 have L5 : (0 : Int) ≤ (k5 : Int) := Int.natCast_nonneg _
 refine zz 9 ?_
 have C := p0a_h0.opn O5
 obtain ⟨be7,oe7,rfl,B7,hEe7⟩ := C
 have e7_at : At (rd w X) ⟨be7,oe7 + k5 * 3,none⟩ [.int .u8 x5.sense,.int .i64 x5.lo,.int .i64 x5.hi] := hEe7
 refine zi (b := be7) (off := oe7) (len := p0.length) (cap := D2) (kd := .i64) (i := (k5 : Int)) 3 (oe7 + k5 * 3) ?_ (h0 := L5) (h1 := (jS L5 B7))
 refine zl ((e7_at.mono B5)).cells <| zn (fun b => .slice (some ⟨b,0,none⟩) 1 1) (.cells #[.int .u8 x5.sense,.int .i64 x5.lo,.int .i64 x5.hi] 96 (0,0)) C5 fun b9 w9 Y9 C9 B9 V9 => ?_
 have C := nC hp
 obtain ⟨hg11,hp⟩ := C
 have hln12 : m5_0 = v5_0.length := jX.len P5_0_0
 have C := (P5_0_0.mono (Le.or B9 _))
 obtain ⟨es12,hr12,hq12,hk12,hm12⟩ := C
 refine zop (at1 [K4,K5] Tryz.f44 [1,1,9,1,0,0,1,0,0]) 6 (fun a10 _ G10 hz10 => tK (b := 24) (m := 1) (c := 1) (ad := ⟨b9,0,none⟩) (news := [.int .u8 x5.sense,.int .i64 x5.lo,.int .i64 x5.hi]) (i0 := Tryz.t96) (rb := rb5_0) (R1 := []) 1 G10 C9 rfl hr12 (C9.cells 0 rfl rfl) (lY hg11 hln12 rfl) (lX hg11 hln12) ?_)
 intro rb13 ad13 cap13 w13 Y13 F13 C13 B13 a14 G14
 have hg13 : jX gZ 96 3 (rd w13 (orN Y13 w.heap.size)) rb13 ad13 (m5_0 + 1) cap13 (v5_0 ++ [x5]) := jX.snoc F13 hq12 hk12 hm12 (Le.or B13 _) ⟨rfl,fun r2 h2 => rfl⟩
 refine hz10 G14 <| zz 7 <| zs 10 (v := .int .i64 (i64.wrap ((k5 : Int) + 1))) (v' := .int .i64 ((k5 : Int) + 1)) (zR (jE (wk0 k5) (wk1 Q6 hb5))) <| zz 2 <| zP (fun a h => H5 ((v5_0 ++ [x5]),k5 + 1,rb13,ad13,(m5_0 + 1),cap13) _ a h ⟨_,C13.tail,(Le3 B5 B9 B13),hg13,hp⟩ ?_)
 exact vK Q6
 rw [List.drop_eq_nil_of_le (qI Q6),qU] at hp
 refine zz 5 ?_
 exact zP (fun a h => H4 (v5_0,rb5_0,ad5_0,m5_0,cap5_0) _ a h ⟨_,C5,B5,P5_0_0,hp⟩)
noncomputable def jR (J2 : (List zV) → Option ((List zV))) : List zV → (List zV) → Option ((List zV))
 | [],v5_0 => J2 v5_0
 | x5 :: r5,v5_0 => (wJ x5).bind fun y9 => grd ((v5_0.length + 1) * 64 ≤ 140737488355328) <| jR J2 r5 (v5_0 ++ [y9])
noncomputable def kS (p0 : List zV) : Option ((List zV)) :=
 lt (fun (v2_0 : List zV) => some v2_0) fun J2 => jR J2 (p0.drop 0)  ([] : List zV)
include hX in
theorem nI (p0 : List zV) (vp0 : Value) (hp0 : SV kQ (rd w X) vp0 p0) (y : (List zV)) (hp : kS p0 = some y) : Calls Tryz.prog 45 #[vp0] w (Ret E0 w fun w' v => SV kQ (rd w' X) v y) := by
 obtain ⟨D1,D2,rfl,p0a_h0⟩ := hp0
 unfold kS at hp
 refine zen Tryz.func45 ?_
 have C0 : St E0 w X w X [] := St.start hX
 refine zz 10 ?_
 have C := rQ hp
 obtain ⟨J2,hJ2,hp⟩ := C
 refine yT (fun ((v2_0,rb2_0,ad2_0,m2_0,cap2_0) : (List zV) × (List (Nat × Obj)) × (Option Addr) × Nat × Nat) => [(3,.slice ad2_0 m2_0 cap2_0)]) (fun (v2_0,rb2_0,ad2_0,m2_0,cap2_0) w1 => ∃ Y1 : Hid,St E0 w X w1 Y1 (rb2_0) ∧ Le (rd w X) (rd w1 Y1) ∧ jX bH 76 4 (rd w1 Y1) rb2_0 ad2_0 m2_0 cap2_0 v2_0 ∧ J2 v2_0 = some y) ?_ ?_
 rintro ⟨v2_0,rb2_0,ad2_0,m2_0,cap2_0⟩ w2 ⟨Y2,C2,B2,P2_0_0,hp⟩
 have hp := (hJ2 _).symm.trans hp
 refine zz 7 <| zr' (v := .slice ad2_0 m2_0 cap2_0) ?_
 have C := St.pubGR (A := []) (B := []) (fun rb => (rb)) C2 (fun _ => by simp only [List.append_assoc,List.cons_append,List.nil_append,List.append_nil]) P2_0_0 bH.at
 obtain ⟨Y3,hSx3,B3,hRx3⟩ := C
 have C3 : St E0 w X w2 Y3 [] := hSx3
 have C := hRx3.hlen
 subst C
 have hR3 : kQ (rd w2 Y3) ad2_0 v2_0.length cap2_0 v2_0 := hRx3
 cases hp
 exact ⟨C3.upd,_,rfl,⟨_,_,rfl,(hR3).mono C3.le⟩⟩
 intro K4 H4
 refine zz 6 ?_
 have hb5 : (p0.length : Int) ≤ 9223372036854775807 := rR (p0a_h0).hcap (p0a_h0).hbig
 refine zlp Tryz.f45 [K4] [1,1,9,1,0] (fun ((v5_0,k5,rb5_0,ad5_0,m5_0,cap5_0) : (List zV) × Nat × (List (Nat × Obj)) × (Option Addr) × Nat × Nat) => [(0,.slice D1 p0.length D2),(3,.slice ad5_0 m5_0 cap5_0),(4,.int .i64 (k5 : Int))]) (fun (v5_0,k5,rb5_0,ad5_0,m5_0,cap5_0) w1 => ∃ Y1 : Hid,St E0 w X w1 Y1 (rb5_0) ∧ Le (rd w X) (rd w1 Y1) ∧ jX bH 76 4 (rd w1 Y1) rb5_0 ad5_0 m5_0 cap5_0 v5_0 ∧ jR J2 (p0.drop k5)  v5_0 = some y) (fun (v5_0,k5,rb5_0,ad5_0,m5_0,cap5_0) => p0.length - k5) (([] : List zV),0,[],none,0,0) ?_ ?_
 exact ⟨_,C0,Le.refl _,jX.nil,hp⟩
 rintro ⟨v5_0,k5,rb5_0,ad5_0,m5_0,cap5_0⟩ w5 K5 H5 ⟨Y5,C5,B5,P5_0_0,hp⟩
 refine zz 9 <| zt 8 (p := (k5 : Int) < (p0.length : Int)) (fun Q6 => ?_) (fun Q6 => ?_)
 have C := xK (l := p0) (k := k5) (qR Q6)
 obtain ⟨x5,O5⟩ := C
 rw [wG O5,jR] at hp
 have L5 : (0 : Int) ≤ (k5 : Int) := Int.natCast_nonneg _
 refine zz 9 ?_
 have C := p0a_h0.opn O5
 obtain ⟨be7,oe7,rfl,B7,hEe7⟩ := C
 obtain ⟨e71,e72,e73,e74,e7_at,e7_h0,e7_h1⟩ := hEe7
 refine zi (b := be7) (off := oe7) (len := p0.length) (cap := D2) (kd := .i64) (i := (k5 : Int)) 4 (oe7 + k5 * 4) ?_ (h0 := L5) (h1 := (jS L5 B7))
 refine zl ((e7_at.mono B5)).cells <| zQ hp fun y9 hy9 hp => zc C5 (cK _ _ C5.lt x5 _ ⟨_,_,_,_,rfl,(e7_h0.mono B5),(e7_h1.mono B5)⟩ y9 hy9) ?_
 rintro v10 w10 C10 B10 V10 ⟨u10_0_1,u10_0_2,u10_0_3,u10_0_4,rfl,u10_0__h0,u10_0__h1⟩
 refine zn (fun b => .slice (some ⟨b,0,none⟩) 1 1) (.cells #[.int .i64 y9.delta,.bool y9.p.neg,.slice u10_0_1 y9.p.ln.length u10_0_2,.slice u10_0_3 y9.p.ld.length u10_0_4] 76 (0,0)) C10 fun b12 w12 Y12 C12 B12 V12 => ?_
 have C := nC hp
 obtain ⟨hg14,hp⟩ := C
 have hln15 : m5_0 = v5_0.length := jX.len P5_0_0
 have C := (P5_0_0.mono (Le2 B10 B12))
 obtain ⟨es15,hr15,hq15,hk15,hm15⟩ := C
 refine zop (at1 [K4,K5] Tryz.f45 [1,1,9,1,0,0,1,0,0]) 7 (fun a13 _ G13 hz13 => tK (b := 64) (m := 1) (c := 1) (ad := ⟨b12,0,none⟩) (news := [.int .i64 y9.delta,.bool y9.p.neg,.slice u10_0_1 y9.p.ln.length u10_0_2,.slice u10_0_3 y9.p.ld.length u10_0_4]) (i0 := Tryz.t76) (rb := rb5_0) (R1 := []) 1 G13 C12 rfl hr15 (C12.cells 0 rfl rfl) (lY hg14 hln15 rfl) (lX hg14 hln15) ?_)
 intro rb16 ad16 cap16 w16 Y16 F16 C16 B16 a17 G17
 have hg16 : jX bH 76 4 (rd w16 Y16) rb16 ad16 (m5_0 + 1) cap16 (v5_0 ++ [y9]) := jX.snoc F16 hq15 hk15 hm15 B16 ⟨rfl,fun r2 h2 => ⟨_,_,_,_,rfl,((u10_0__h0.mono (Le2 B12 B16)).mono h2),((u10_0__h1.mono (Le2 B12 B16)).mono h2)⟩⟩
 refine hz13 G17 <| zz 7 <| zs 10 (v := .int .i64 (i64.wrap ((k5 : Int) + 1))) (v' := .int .i64 ((k5 : Int) + 1)) (zR (jE (wk0 k5) (wk1 Q6 hb5))) <| zz 2 ?_
 have T1_ := (Le3 B5 B10 B12).trans B16
 refine zP (fun a h => H5 ((v5_0 ++ [y9]),k5 + 1,rb16,ad16,(m5_0 + 1),cap16) _ a h ⟨_,C16.tail,T1_,hg16,hp⟩ ?_)
 exact vK Q6
 rw [List.drop_eq_nil_of_le (qI Q6),jR] at hp
 refine zz 5 ?_
 exact zP (fun a h => H4 (v5_0,rb5_0,ad5_0,m5_0,cap5_0) _ a h ⟨_,C5,B5,P5_0_0,hp⟩)
noncomputable def vE (p0 : zO) : Option (zO) :=
 (kJ p0.height).bind fun y7 => (kJ p0.own).bind fun y10 => (kJ p0.other).bind fun y13 => (kP p0.advisories).bind fun y16 => (kS p0.ownNoise).bind fun y19 => (kS p0.otherNoise).bind fun y22 => (kV p0.alert).bind fun y25 => (kV p0.strengthen).bind fun y28 => (kV p0.reversal).bind fun y31 => some (zO.mk y7 y10 y13 y16 p0.pull p0.near p0.steps y19 y22 y25 y28 y31)
include hX in
theorem dP (p0 : zO) (vp0 : Value) (hp0 : zW (rd w X) vp0 p0) (y : zO) (hp : vE p0 = some y) : Calls Tryz.prog 8 #[vp0] w (Ret E0 w fun w' v => zW (rd w' X) v y) := by
 have hVp0 := hp0
 refine zW.op hp0 fun D1 D2 D3 D4 D5 D6 D7 D8 D9 D10 D11 D12 D13 D14 D15 D16 D17 D18 D19 D20 D21 D22 D23 D24 hv9 p0a_h0 p0a_h1 p0a_h2 p0a_h3 p0a_h4 p0a_h5 p0a_h6 p0a_h7 p0a_h8 p0a_h9 p0a_h10 p0a_h11 => ?_
 subst hv9
 unfold vE at hp
 refine zen Tryz.func8 ?_
 have C0 : St E0 w X w X [] := St.start hX
 refine zz 2 <| zn pn (.cells (qDr p0 D1 D2 D3 D4 D5 D6 D7 D8 D9 D10 D11 D12 D13 D14 D15 D16 D17 D18 D19 D20 D21 D22 D23 D24) 30 (0,0)) C0 fun b3 w3 Y3 C3 B3 V3 => zn pn (.cells #[.slice none 0 0,.slice none 0 0,.slice none 0 0,.slice none 0 0,.int .i64 0,.int .i64 0,.int .i64 0,.slice none 0 0,.slice none 0 0,.bool false,.slice none 0 0,.slice none 0 0,.bool false,.slice none 0 0,.slice none 0 0,.bool false,.slice none 0 0,.slice none 0 0] 30 (0,0)) C3 fun b5 w5 Y5 C5 B5 V5 => zz 3 <| zdr C5 <| gz [0] <| gw 1 1 <| gz [3] <| gw 4 1 ?_
 refine gz [6] <| gw 7 1 <| gz [9] <| gw 10 1 <| gz [12] <| gw 13 1 <| gz [14] <| gw 15 1 <| gz [16] ?_
 refine gw 17 1 <| gz [18] <| gw 19 1 <| gz [21] <| gw 22 1 <| gz [24] <| gw 25 1 <| gz [27] <| gw 28 1 ?_
 refine gz [30] <| gw 31 1 <| zQ hp fun y7 hy7 hp => gC 2 (fun w6 Y6 _ C6 B6 => (sU _ X0 (zM _) p0.height _ ⟨_,_,rfl,((p0a_h0.mono (Le3 B3 B5 B6)).mono Le.x0)⟩ y7 hy7)) ?_
 rintro v8 w6 Y8 w8 C6 B8 ⟨u8_0_1,u8_0_2,rfl,u8_0__h0⟩
 have T1_ := (Le2 B3 B5).trans B8
 refine zQ hp fun y10 hy10 hp => gC 5 (fun w9 Y9 _ C9 B9 => (sU _ X0 (zM _) p0.own _ ⟨_,_,rfl,((p0a_h1.mono (T1_.trans B9)).mono Le.x0)⟩ y10 hy10)) ?_
 rintro v11 w9 Y11 w11 C9 B11 ⟨u11_0_1,u11_0_2,rfl,u11_0__h0⟩
 have T2_ := T1_.trans B11
 refine zQ hp fun y13 hy13 hp => gC 8 (fun w12 Y12 _ C12 B12 => (sU _ X0 (zM _) p0.other _ ⟨_,_,rfl,((p0a_h2.mono (T2_.trans B12)).mono Le.x0)⟩ y13 hy13)) ?_
 rintro v14 w12 Y14 w14 C12 B14 ⟨u14_0_1,u14_0_2,rfl,u14_0__h0⟩
 have T3_ := T2_.trans B14
 refine zQ hp fun y16 hy16 hp => gC 11 (fun w15 Y15 _ C15 B15 => (gD _ X0 (zM _) p0.advisories _ ⟨_,_,rfl,((p0a_h3.mono (T3_.trans B15)).mono Le.x0)⟩ y16 hy16)) ?_
 rintro v17 w15 Y17 w17 C15 B17 ⟨u17_0_1,u17_0_2,rfl,u17_0__h0⟩
 have T4_ := T3_.trans B17
 refine zQ hp fun y19 hy19 hp => gC 20 (fun w18 Y18 _ C18 B18 => (nI _ _ C18.lt p0.ownNoise _ ⟨_,_,rfl,(p0a_h4.mono (T4_.trans B18))⟩ y19 hy19)) ?_
 rintro v20 w18 Y20 w20 C18 B20 ⟨u20_0_1,u20_0_2,rfl,u20_0__h0⟩
 have T5_ := T4_.trans B20
 refine zQ hp fun y22 hy22 hp => gC 23 (fun w21 Y21 _ C21 B21 => (nI _ _ C21.lt p0.otherNoise _ ⟨_,_,rfl,(p0a_h5.mono (T5_.trans B21))⟩ y22 hy22)) ?_
 rintro v23 w21 Y23 w23 C21 B23 ⟨u23_0_1,u23_0_2,rfl,u23_0__h0⟩
 have T6_ := T5_.trans B23
 refine zQ hp fun y25 hy25 hp => gC 26 (fun w24 Y24 _ C24 B24 => (wW _ _ C24.lt p0.alert _ ⟨_,_,_,_,_,_,rfl,(p0a_h6.mono (T6_.trans B24)),(p0a_h7.mono (T6_.trans B24))⟩ y25 hy25)) ?_
 rintro v26 w24 Y26 w26 C24 B26 ⟨u26_0_1,u26_0_2,u26_0_3,u26_0_4,u26_0_5,u26_0_6,rfl,u26_0__h0,u26_0__h1⟩
 have C := u26_0__h0.hlen
 subst C
 have C := u26_0__h1.hlen
 subst C
 have T7_ := T6_.trans B26
 refine zQ hp fun y28 hy28 hp => gC 29 (fun w27 Y27 _ C27 B27 => (wW _ _ C27.lt p0.strengthen _ ⟨_,_,_,_,_,_,rfl,(p0a_h8.mono (T7_.trans B27)),(p0a_h9.mono (T7_.trans B27))⟩ y28 hy28)) ?_
 rintro v29 w27 Y29 w29 C27 B29 ⟨u29_0_1,u29_0_2,u29_0_3,u29_0_4,u29_0_5,u29_0_6,rfl,u29_0__h0,u29_0__h1⟩
 have C := u29_0__h0.hlen
 subst C
 have C := u29_0__h1.hlen
 subst C
 have T8_ := T7_.trans B29
 refine zQ hp fun y31 hy31 hp => gC 32 (fun w30 Y30 _ C30 B30 => (wW _ _ C30.lt p0.reversal _ ⟨_,_,_,_,_,_,rfl,(p0a_h10.mono (T8_.trans B30)),(p0a_h11.mono (T8_.trans B30))⟩ y31 hy31)) ?_
 rintro v32 w30 Y32 w32 C30 B32 ⟨u32_0_1,u32_0_2,u32_0_3,u32_0_4,u32_0_5,u32_0_6,rfl,u32_0__h0,u32_0__h1⟩
 have C := u32_0__h0.hlen
 subst C
 have C := u32_0__h1.hlen
 subst C
 refine gz [33] <| gX 34 0 #[.slice u8_0_1 y7.length u8_0_2,.slice u11_0_1 y10.length u11_0_2,.slice u14_0_1 y13.length u14_0_2,.slice u17_0_1 y16.length u17_0_2,.int .i64 p0.pull,.int .i64 p0.near,.int .i64 p0.steps,.slice u20_0_1 y19.length u20_0_2,.slice u23_0_1 y22.length u23_0_2,.bool y25.neg,.slice u26_0_1 y25.ln.length u26_0_3,.slice u26_0_4 y25.ld.length u26_0_6,.bool y28.neg,.slice u29_0_1 y28.ln.length u29_0_3,.slice u29_0_4 y28.ld.length u29_0_6,.bool y31.neg,.slice u32_0_1 y31.ln.length u32_0_3,.slice u32_0_4 y31.ld.length u32_0_6] fun w33 Y33 B33 => ?_
 refine yO (fun w34 Y34 C34 B34 => ?_)
 refine zz 2 <| zrS [.cell 2 30] (v := .agg #[.slice u8_0_1 y7.length u8_0_2,.slice u11_0_1 y10.length u11_0_2,.slice u14_0_1 y13.length u14_0_2,.slice u17_0_1 y16.length u17_0_2,.int .i64 p0.pull,.int .i64 p0.near,.int .i64 p0.steps,.slice u20_0_1 y19.length u20_0_2,.slice u23_0_1 y22.length u23_0_2,.bool y25.neg,.slice u26_0_1 y25.ln.length u26_0_3,.slice u26_0_4 y25.ld.length u26_0_6,.bool y28.neg,.slice u29_0_1 y28.ln.length u29_0_3,.slice u29_0_4 y28.ld.length u29_0_6,.bool y31.neg,.slice u32_0_1 y31.ln.length u32_0_3,.slice u32_0_4 y31.ld.length u32_0_6]) (Res.cM C34 0 Res.nil) ?_
 cases hp
 have T9_ := (Le9 B11 B14 B17 B20 B23 B26 B29 B32 B33).trans B34
 have T10_ := (Le8 B14 B17 B20 B23 B26 B29 B32 B33).trans B34
 have T11_ := (Le7 B17 B20 B23 B26 B29 B32 B33).trans B34
 have T12_ := (Le6 B20 B23 B26 B29 B32 B33).trans B34
 have T13_ := (Le5 B23 B26 B29 B32 B33).trans B34
 have T14_ := (Le4 B26 B29 B32 B33).trans B34
 have T15_ := (Le3 B29 B32 B33).trans B34
 exact ⟨C34.upd,_,rfl,⟨_,_,_,_,_,_,_,_,_,_,_,_,_,_,_,_,_,_,_,_,_,_,_,_,rfl,(((u8_0__h0.mono (Le.new C6.lt)).mono T9_)).mono C34.le,(((u11_0__h0.mono (Le.new C9.lt)).mono T10_)).mono C34.le,(((u14_0__h0.mono (Le.new C12.lt)).mono T11_)).mono C34.le,(((u17_0__h0.mono (Le.new C15.lt)).mono T12_)).mono C34.le,((u20_0__h0.mono T13_)).mono C34.le,((u23_0__h0.mono T14_)).mono C34.le,((u26_0__h0.mono T15_)).mono C34.le,((u26_0__h1.mono T15_)).mono C34.le,((u29_0__h0.mono (Le3 B32 B33 B34))).mono C34.le,((u29_0__h1.mono (Le3 B32 B33 B34))).mono C34.le,((u32_0__h0.mono (Le2 B33 B34))).mono C34.le,((u32_0__h1.mono (Le2 B33 B34))).mono C34.le⟩⟩
noncomputable def yA (p1 : List Int) (J3 : Option (Bool)) : List Int → Nat → Option (Bool)
 | [],k5 => J3
 | x5 :: r5,k5 => (ix p1 (k5 : Int)).bind fun x8 => if ((x5) != x8) = true then (some false) else (yA p1 J3 r5 (k5 + 1))
noncomputable def kD (p0 : List Int) (p1 : List Int) : Option (Bool) :=
 if ((p0.length : Int) != (p1.length : Int)) = true then (some false) else (lt (some true) fun J3 => yA p1 J3 (p0.drop 0) 0)
include hX in
theorem sJ (p0 : List Int) (vp0 : Value) (hp0 : SV wK (rd w X) vp0 p0) (p1 : List Int) (vp1 : Value) (hp1 : SV wK (rd w X) vp1 p1) (y : Bool) (hp : kD p0 p1 = some y) : Calls Tryz.prog 70 #[vp0,vp1] w (Ret E0 w fun _ v => v = .bool y) := by
 obtain ⟨D1,D2,rfl,p0a_h0⟩ := hp0
 obtain ⟨p1a1,p1a2,rfl,p1a_h0⟩ := hp1
 unfold kD at hp
 refine zen Tryz.func70 ?_
 have C0 : St E0 w X w X [] := St.start hX
 refine zz 15 <| zb 10 (b := ((p0.length : Int) != (p1.length : Int))) (fun T2 => ?_) (fun T2 => ?_)
 have hp := ipb T2 hp
 refine zz 8 <| zr' (v := .bool false) ?_
 cases hp
 exact ⟨C0.upd,_,rfl,rfl⟩
 have hp := iqb T2 hp
 refine zz 3 ?_
 have C := fG hp
 obtain ⟨J3,hJ3,hp⟩ := C
 refine yT (fun (_ : Unit) => []) (fun _ w1 => ∃ Y1 : Hid,St E0 w X w1 Y1 [] ∧ Le (rd w X) (rd w1 Y1) ∧ J3 = some y) ?_ ?_
 rintro _ w3 ⟨Y3,C3,B3,hp⟩
 have hp := hJ3.symm.trans hp
 refine zz 6 <| zr' (v := .bool true) ?_
 cases hp
 exact ⟨C3.upd,_,rfl,rfl⟩
 intro K4 H4
 refine zz 6 ?_
 have hb5 : (p0.length : Int) ≤ 9223372036854775807 := rR (p0a_h0).hcap (p0a_h0).hbig
 refine zlp Tryz.f70 [K4] [1,1,9,1,0] (fun (k5 : Nat) => [(0,.slice D1 p0.length D2),(1,.slice p1a1 p1.length p1a2),(5,.int .i64 (k5 : Int))]) (fun k5 w1 => ∃ Y1 : Hid,St E0 w X w1 Y1 [] ∧ Le (rd w X) (rd w1 Y1) ∧ yA p1 J3 (p0.drop k5) k5 = some y) (fun k5 => p0.length - k5) 0 ?_ ?_
 exact ⟨_,C0,Le.refl _,hp⟩
 rintro k5 w5 K5 H5 ⟨Y5,C5,B5,hp⟩
 refine zz 9 <| zt 14 (p := (k5 : Int) < (p0.length : Int)) (fun Q6 => ?_) (fun Q6 => ?_)
 have C := xK (l := p0) (k := k5) (qR Q6)
 obtain ⟨x5,O5⟩ := C
 rw [wG O5,yA] at hp
 have L5 : (0 : Int) ≤ (k5 : Int) := Int.natCast_nonneg _
 refine zz 6 <| zdr C5 ?_
 have C := p0a_h0.opn O5
 obtain ⟨be7,oe7,rfl,B7,hEe7⟩ := C
 have hAe7 : At (rd w X) ⟨be7,oe7 + k5 * 1,none⟩ [.int .i64 x5] := hEe7
 refine gz [0,1] <| gi 2 (b := be7) (off := oe7) (len := p0.length) (cap := D2) (kd := .i64) (i := (k5 : Int)) 1 (oe7 + k5 * 1) ?_ (h0 := L5) (h1 := (jS L5 B7))
 refine gl 3 ((hAe7.mono B5)) <| zQ hp fun x8 hx8 hp => ?_
 have C := jU hx8
 obtain ⟨L8,O8⟩ := C
 have hwx8 : p1[k5]? = some x8 := O8
 have C := p1a_h0.opn hwx8
 obtain ⟨be9,oe9,rfl,B9,hEe9⟩ := C
 have hAe9 : At (rd w X) ⟨be9,oe9 + k5 * 1,none⟩ [.int .i64 x8] := hEe9
 refine gz [4,5] <| gi 6 (b := be9) (off := oe9) (len := p1.length) (cap := p1a2) (kd := .i64) (i := (k5 : Int)) 1 (oe9 + k5 * 1) ?_ (h0 := L8) (h1 := (jS L8 B9))
 refine gl 7 ((hAe9.mono B5)) <| gz [8] ?_
 refine yO (fun w10 Y10 C10 B10 => ?_)
 refine zz 1 <| zb 25 (b := ((x5) != x8)) (fun T11 => ?_) (fun T11 => ?_)
 have hp := ipb T11 hp
 refine zz 12 <| zr' (v := .bool false) ?_
 cases hp
 exact ⟨C10.upd,_,rfl,rfl⟩
 have hp := iqb T11 hp
 refine zz 7 <| zs 16 (v := .int .i64 (i64.wrap ((k5 : Int) + 1))) (v' := .int .i64 ((k5 : Int) + 1)) (zR (jE (wk0 k5) (wk1 Q6 hb5))) <| zz 2 <| zP (fun a h => H5 (k5 + 1) _ a h ⟨_,C10,(Le2 B5 B10),hp⟩ ?_)
 exact vK Q6
 rw [List.drop_eq_nil_of_le (qI Q6),yA] at hp
 refine zz 5 ?_
 exact zP (fun a h => H4 () _ a h ⟨_,C5,B5,hp⟩)
noncomputable def qQ (p1 : List qJ) (J3 : Option (Bool)) : List qJ → Nat → Option (Bool)
 | [],k5 => J3
 | x5 :: r5,k5 => (ix p1 (k5 : Int)).bind fun x8 => if (!((x5.sense == x8.sense) && ((x5.lo == x8.lo) && (x5.hi == x8.hi)))) = true then (some false) else (qQ p1 J3 r5 (k5 + 1))
noncomputable def kF (p0 : List qJ) (p1 : List qJ) : Option (Bool) :=
 if ((p0.length : Int) != (p1.length : Int)) = true then (some false) else (lt (some true) fun J3 => qQ p1 J3 (p0.drop 0) 0)
include hX in
theorem lU (p0 : List qJ) (vp0 : Value) (hp0 : SV wC (rd w X) vp0 p0) (p1 : List qJ) (vp1 : Value) (hp1 : SV wC (rd w X) vp1 p1) (y : Bool) (hp : kF p0 p1 = some y) : Calls Tryz.prog 71 #[vp0,vp1] w (Ret E0 w fun _ v => v = .bool y) := by
 obtain ⟨D1,D2,rfl,p0a_h0⟩ := hp0
 obtain ⟨p1a1,p1a2,rfl,p1a_h0⟩ := hp1
 unfold kF at hp
 refine zen Tryz.func71 ?_
 have C0 : St E0 w X w X [] := St.start hX
 refine zz 15 <| zb 10 (b := ((p0.length : Int) != (p1.length : Int))) (fun T2 => ?_) (fun T2 => ?_)
 have hp := ipb T2 hp
 refine zz 8 <| zr' (v := .bool false) ?_
 cases hp
 exact ⟨C0.upd,_,rfl,rfl⟩
 have hp := iqb T2 hp
 refine zz 3 ?_
 have C := fG hp
 obtain ⟨J3,hJ3,hp⟩ := C
 refine yT (fun (_ : Unit) => []) (fun _ w1 => ∃ Y1 : Hid,St E0 w X w1 Y1 [] ∧ Le (rd w X) (rd w1 Y1) ∧ J3 = some y) ?_ ?_
 rintro _ w3 ⟨Y3,C3,B3,hp⟩
 have hp := hJ3.symm.trans hp
 refine zz 6 <| zr' (v := .bool true) ?_
 cases hp
 exact ⟨C3.upd,_,rfl,rfl⟩
 intro K4 H4
 refine zz 6 ?_
 have hb5 : (p0.length : Int) ≤ 9223372036854775807 := rR (p0a_h0).hcap (p0a_h0).hbig
 refine zlp Tryz.f71 [K4] [1,1,9,1,0] (fun (k5 : Nat) => [(0,.slice D1 p0.length D2),(1,.slice p1a1 p1.length p1a2),(5,.int .i64 (k5 : Int))]) (fun k5 w1 => ∃ Y1 : Hid,St E0 w X w1 Y1 [] ∧ Le (rd w X) (rd w1 Y1) ∧ qQ p1 J3 (p0.drop k5) k5 = some y) (fun k5 => p0.length - k5) 0 ?_ ?_
 exact ⟨_,C0,Le.refl _,hp⟩
 rintro k5 w5 K5 H5 ⟨Y5,C5,B5,hp⟩
 refine zz 9 <| zt 14 (p := (k5 : Int) < (p0.length : Int)) (fun Q6 => ?_) (fun Q6 => ?_)
 have C := xK (l := p0) (k := k5) (qR Q6)
 obtain ⟨x5,O5⟩ := C
 rw [wG O5,qQ] at hp
 have L5 : (0 : Int) ≤ (k5 : Int) := Int.natCast_nonneg _
 refine zz 6 <| zdr C5 ?_
 have C := p0a_h0.opn O5
 obtain ⟨be7,oe7,rfl,B7,hEe7⟩ := C
 have e7_at : At (rd w X) ⟨be7,oe7 + k5 * 3,none⟩ [.int .u8 x5.sense,.int .i64 x5.lo,.int .i64 x5.hi] := hEe7
 refine gz [0,1] <| gi 2 (b := be7) (off := oe7) (len := p0.length) (cap := D2) (kd := .i64) (i := (k5 : Int)) 3 (oe7 + k5 * 3) ?_ (h0 := L5) (h1 := (jS L5 B7))
 refine gl 3 ((e7_at.mono B5)) <| zQ hp fun x8 hx8 hp => ?_
 have C := jU hx8
 obtain ⟨L8,O8⟩ := C
 have hwx8 : p1[k5]? = some x8 := O8
 have C := p1a_h0.opn hwx8
 obtain ⟨be9,oe9,rfl,B9,hEe9⟩ := C
 have e9_at : At (rd w X) ⟨be9,oe9 + k5 * 3,none⟩ [.int .u8 x8.sense,.int .i64 x8.lo,.int .i64 x8.hi] := hEe9
 refine gz [4,5] <| gi 6 (b := be9) (off := oe9) (len := p1.length) (cap := p1a2) (kd := .i64) (i := (k5 : Int)) 3 (oe9 + k5 * 3) ?_ (h0 := L8) (h1 := (jS L8 B9))
 refine gl 7 ((e9_at.mono B5)) <| gH (v := .bool (!((x5.sense == x8.sense) && ((x5.lo == x8.lo) && (x5.hi == x8.hi))))) 8 (fun w => zJg (k1 := .u8) (k2 := .i64) (k3 := .i64) (a1 := x5.sense) (a2 := x5.lo) (a3 := x5.hi) (b1 := x8.sense) (b2 := x8.lo) (b3 := x8.hi) 96 96) ?_
 refine yO (fun w10 Y10 C10 B10 => ?_)
 refine zz 1 <| zb 25 (b := !((x5.sense == x8.sense) && ((x5.lo == x8.lo) && (x5.hi == x8.hi)))) (fun T11 => ?_) (fun T11 => ?_)
 have hp := ipb T11 hp
 refine zz 12 <| zr' (v := .bool false) ?_
 cases hp
 exact ⟨C10.upd,_,rfl,rfl⟩
 have hp := iqb T11 hp
 refine zz 7 <| zs 16 (v := .int .i64 (i64.wrap ((k5 : Int) + 1))) (v' := .int .i64 ((k5 : Int) + 1)) (zR (jE (wk0 k5) (wk1 Q6 hb5))) <| zz 2 <| zP (fun a h => H5 (k5 + 1) _ a h ⟨_,C10,(Le2 B5 B10),hp⟩ ?_)
 exact vK Q6
 rw [List.drop_eq_nil_of_le (qI Q6),qQ] at hp
 refine zz 5 ?_
 exact zP (fun a h => H4 () _ a h ⟨_,C5,B5,hp⟩)
noncomputable def vY (p0 : zV) (p1 : zV) : Option (Bool) :=
 if ((p0.delta) == p1.delta) = true then ((zY p0.p p1.p).bind fun y8 => some y8) else (some false)
include hX in
theorem dI (p0 : zV) (vp0 : Value) (hp0 : bN (rd w X) vp0 p0) (p1 : zV) (vp1 : Value) (hp1 : bN (rd w X) vp1 p1) (y : Bool) (hp : vY p0 p1 = some y) : Calls Tryz.prog 103 #[vp0,vp1] w (Ret E0 w fun _ v => v = .bool y) := by
 have hVp0 := hp0
 obtain ⟨D1,D2,D3,D4,rfl,p0a_h0,p0a_h1⟩ := hp0
 have hVp1 := hp1
 obtain ⟨p1a1,p1a2,p1a3,p1a4,rfl,p1a_h0,p1a_h1⟩ := hp1
 unfold vY at hp
 refine zen Tryz.func103 ?_
 have C0 : St E0 w X w X [] := St.start hX
 refine zz 2 <| zn pn (.cells #[.int .i64 p0.delta,.bool p0.p.neg,.slice D1 p0.p.ln.length D2,.slice D3 p0.p.ld.length D4] 76 (0,0)) C0 fun b3 w3 Y3 C3 B3 V3 => zn pn (.cells #[.int .i64 p1.delta,.bool p1.p.neg,.slice p1a1 p1.p.ln.length p1a2,.slice p1a3 p1.p.ld.length p1a4] 76 (0,0)) C3 fun b5 w5 Y5 C5 B5 V5 => zz 6 <| zo 1 C5 <| zz 1 <| zo 0 C5 <| zz 2 <| zb 10 (b := ((p0.delta) == p1.delta)) (fun T6 => ?_) (fun T6 => ?_)
 have hp := ipb T6 hp
 refine zz 1 <| zo 1 C5 <| zz 1 <| zo 0 C5 <| zQ hp fun y8 hy8 hp => zc C5 (qB _ X0 (zM _) p0.p _ ⟨_,_,_,_,_,_,rfl,((p0a_h0.mono (Le2 B3 B5)).mono Le.x0),((p0a_h1.mono (Le2 B3 B5)).mono Le.x0)⟩ p1.p _ ⟨_,_,_,_,_,_,rfl,((p1a_h0.mono (Le2 B3 B5)).mono Le.x0),((p1a_h1.mono (Le2 B3 B5)).mono Le.x0)⟩ y8 hy8) ?_
 rintro v9 w9 C9 B9 V9 rfl
 refine zz 5 <| zr' (v := .bool y8) ?_
 cases hp
 exact ⟨C9.upd,_,rfl,rfl⟩
 have hp := iqb T6 hp
 refine zz 10 <| zr' (v := .bool false) ?_
 cases hp
 exact ⟨C5.upd,_,rfl,rfl⟩
noncomputable def jN (p1 : List zV) (J3 : Option (Bool)) : List zV → Nat → Option (Bool)
 | [],k5 => J3
 | x5 :: r5,k5 => (ix p1 (k5 : Int)).bind fun x8 => (vY x5 x8).bind fun y11 => if (!y11) = true then (some false) else (jN p1 J3 r5 (k5 + 1))
noncomputable def kI (p0 : List zV) (p1 : List zV) : Option (Bool) :=
 if ((p0.length : Int) != (p1.length : Int)) = true then (some false) else (lt (some true) fun J3 => jN p1 J3 (p0.drop 0) 0)
include hX in
theorem pG (p0 : List zV) (vp0 : Value) (hp0 : SV kQ (rd w X) vp0 p0) (p1 : List zV) (vp1 : Value) (hp1 : SV kQ (rd w X) vp1 p1) (y : Bool) (hp : kI p0 p1 = some y) : Calls Tryz.prog 72 #[vp0,vp1] w (Ret E0 w fun _ v => v = .bool y) := by
 obtain ⟨D1,D2,rfl,p0a_h0⟩ := hp0
 obtain ⟨p1a1,p1a2,rfl,p1a_h0⟩ := hp1
 unfold kI at hp
 refine zen Tryz.func72 ?_
 have C0 : St E0 w X w X [] := St.start hX
 refine zz 15 <| zb 10 (b := ((p0.length : Int) != (p1.length : Int))) (fun T2 => ?_) (fun T2 => ?_)
 have hp := ipb T2 hp
 refine zz 8 <| zr' (v := .bool false) ?_
 cases hp
 exact ⟨C0.upd,_,rfl,rfl⟩
 have hp := iqb T2 hp
 refine zz 3 ?_
 have C := fG hp
 obtain ⟨J3,hJ3,hp⟩ := C
 refine yT (fun (_ : Unit) => []) (fun _ w1 => ∃ Y1 : Hid,St E0 w X w1 Y1 [] ∧ Le (rd w X) (rd w1 Y1) ∧ J3 = some y) ?_ ?_
 rintro _ w3 ⟨Y3,C3,B3,hp⟩
 have hp := hJ3.symm.trans hp
 refine zz 6 <| zr' (v := .bool true) ?_
 cases hp
 exact ⟨C3.upd,_,rfl,rfl⟩
 intro K4 H4
 refine zz 6 ?_
 have hb5 : (p0.length : Int) ≤ 9223372036854775807 := rR (p0a_h0).hcap (p0a_h0).hbig
 refine zlp Tryz.f72 [K4] [1,1,9,1,0] (fun (k5 : Nat) => [(0,.slice D1 p0.length D2),(1,.slice p1a1 p1.length p1a2),(5,.int .i64 (k5 : Int))]) (fun k5 w1 => ∃ Y1 : Hid,St E0 w X w1 Y1 [] ∧ Le (rd w X) (rd w1 Y1) ∧ jN p1 J3 (p0.drop k5) k5 = some y) (fun k5 => p0.length - k5) 0 ?_ ?_
 exact ⟨_,C0,Le.refl _,hp⟩
 rintro k5 w5 K5 H5 ⟨Y5,C5,B5,hp⟩
 refine zz 9 <| zt 14 (p := (k5 : Int) < (p0.length : Int)) (fun Q6 => ?_) (fun Q6 => ?_)
 have C := xK (l := p0) (k := k5) (qR Q6)
 obtain ⟨x5,O5⟩ := C
 rw [wG O5,jN] at hp
 have L5 : (0 : Int) ≤ (k5 : Int) := Int.natCast_nonneg _
 refine zz 6 <| zdr C5 ?_
 have C := p0a_h0.opn O5
 obtain ⟨be7,oe7,rfl,B7,hEe7⟩ := C
 obtain ⟨e71,e72,e73,e74,e7_at,e7_h0,e7_h1⟩ := hEe7
 refine gz [0,1] <| gi 2 (b := be7) (off := oe7) (len := p0.length) (cap := D2) (kd := .i64) (i := (k5 : Int)) 4 (oe7 + k5 * 4) ?_ (h0 := L5) (h1 := (jS L5 B7))
 refine gl 3 ((e7_at.mono B5)) <| zQ hp fun x8 hx8 hp => ?_
 have C := jU hx8
 obtain ⟨L8,O8⟩ := C
 have hwx8 : p1[k5]? = some x8 := O8
 have C := p1a_h0.opn hwx8
 obtain ⟨be9,oe9,rfl,B9,hEe9⟩ := C
 obtain ⟨e91,e92,e93,e94,e9_at,e9_h0,e9_h1⟩ := hEe9
 refine gz [4,5] <| gi 6 (b := be9) (off := oe9) (len := p1.length) (cap := p1a2) (kd := .i64) (i := (k5 : Int)) 4 (oe9 + k5 * 4) ?_ (h0 := L8) (h1 := (jS L8 B9))
 refine gl 7 ((e9_at.mono B5)) <| zQ hp fun y11 hy11 hp => gC 8 (fun w10 Y10 _ C10 B10 => (dI _ X0 (zM _) x5 _ ⟨_,_,_,_,rfl,((e7_h0.mono (Le2 B5 B10)).mono Le.x0),((e7_h1.mono (Le2 B5 B10)).mono Le.x0)⟩ x8 _ ⟨_,_,_,_,rfl,((e9_h0.mono (Le2 B5 B10)).mono Le.x0),((e9_h1.mono (Le2 B5 B10)).mono Le.x0)⟩ y11 hy11)) ?_
 rintro v12 w10 Y12 w12 C10 B12 rfl
 refine gz [9] ?_
 refine yO (fun w13 Y13 C13 B13 => ?_)
 refine zz 1 <| zb 26 (b := !y11) (fun T14 => ?_) (fun T14 => ?_)
 have hp := ipb T14 hp
 refine zz 12 <| zr' (v := .bool false) ?_
 cases hp
 exact ⟨C13.upd,_,rfl,rfl⟩
 have hp := iqb T14 hp
 refine zz 7 <| zs 16 (v := .int .i64 (i64.wrap ((k5 : Int) + 1))) (v' := .int .i64 ((k5 : Int) + 1)) (zR (jE (wk0 k5) (wk1 Q6 hb5))) <| zz 2 <| zP (fun a h => H5 (k5 + 1) _ a h ⟨_,C13,(Le3 B5 B12 B13),hp⟩ ?_)
 exact vK Q6
 rw [List.drop_eq_nil_of_le (qI Q6),jN] at hp
 refine zz 5 ?_
 exact zP (fun a h => H4 () _ a h ⟨_,C5,B5,hp⟩)
noncomputable def xW (p0 : zO) (p1 : zO) : Option (Bool) :=
 (kD p0.height p1.height).bind fun y7 => if (!y7) = true then (some false) else ((kD p0.own p1.own).bind fun y11 => if (!y11) = true then (some false) else ((kD p0.other p1.other).bind fun y15 => if (!y15) = true then (some false) else ((kF p0.advisories p1.advisories).bind fun y19 => if (!y19) = true then (some false) else (if ((p0.pull) != p1.pull) = true then (some false) else (if ((p0.near) != p1.near) = true then (some false) else (if ((p0.steps) != p1.steps) = true then (some false) else ((kI p0.ownNoise p1.ownNoise).bind fun y26 => if (!y26) = true then (some false) else ((kI p0.otherNoise p1.otherNoise).bind fun y30 => if (!y30) = true then (some false) else ((zY p0.alert p1.alert).bind fun y34 => if y34 = true then ((zY p0.strengthen p1.strengthen).bind fun y38 => if y38 = true then ((zY p0.reversal p1.reversal).bind fun y42 => some y42) else (some false)) else (some false))))))))))
include hX in
theorem dH (p0 : zO) (vp0 : Value) (hp0 : zW (rd w X) vp0 p0) (p1 : zO) (vp1 : Value) (hp1 : zW (rd w X) vp1 p1) (y : Bool) (hp : xW p0 p1 = some y) : Calls Tryz.prog 25 #[vp0,vp1] w (Ret E0 w fun _ v => v = .bool y) := by
 have hVp0 := hp0
 refine zW.op hp0 fun D1 D2 D3 D4 D5 D6 D7 D8 D9 D10 D11 D12 D13 D14 D15 D16 D17 D18 D19 D20 D21 D22 D23 D24 hv9 p0a_h0 p0a_h1 p0a_h2 p0a_h3 p0a_h4 p0a_h5 p0a_h6 p0a_h7 p0a_h8 p0a_h9 p0a_h10 p0a_h11 => ?_
 subst hv9
 have hVp1 := hp1
 refine zW.op hp1 fun p1a1 p1a2 p1a3 p1a4 p1a5 p1a6 p1a7 p1a8 p1a9 p1a10 p1a11 p1a12 p1a13 p1a14 p1a15 p1a16 p1a17 p1a18 p1a19 p1a20 p1a21 p1a22 p1a23 p1a24 hv9 p1a_h0 p1a_h1 p1a_h2 p1a_h3 p1a_h4 p1a_h5 p1a_h6 p1a_h7 p1a_h8 p1a_h9 p1a_h10 p1a_h11 => ?_
 subst hv9
 unfold xW at hp
 refine zen Tryz.func25 ?_
 have C0 : St E0 w X w X [] := St.start hX
 refine zz 2 <| zn pn (.cells (qDr p0 D1 D2 D3 D4 D5 D6 D7 D8 D9 D10 D11 D12 D13 D14 D15 D16 D17 D18 D19 D20 D21 D22 D23 D24) 30 (0,0)) C0 fun b3 w3 Y3 C3 B3 V3 => zn pn (.cells (qDr p1 p1a1 p1a2 p1a3 p1a4 p1a5 p1a6 p1a7 p1a8 p1a9 p1a10 p1a11 p1a12 p1a13 p1a14 p1a15 p1a16 p1a17 p1a18 p1a19 p1a20 p1a21 p1a22 p1a23 p1a24) 30 (0,0)) C3 fun b5 w5 Y5 C5 B5 V5 => zz 7 <| zo 1 C5 <| zz 1 <| zo 0 C5 <| zQ hp fun y7 hy7 hp => zc C5 (sJ _ X0 (zM _) p0.height _ ⟨_,_,rfl,((p0a_h0.mono (Le2 B3 B5)).mono Le.x0)⟩ p1.height _ ⟨_,_,rfl,((p1a_h0.mono (Le2 B3 B5)).mono Le.x0)⟩ y7 hy7) ?_
 rintro v8 w8 C8 B8 V8 rfl
 refine zz 2 <| zb 11 (b := !y7) (fun T9 => ?_) (fun T9 => ?_)
 have hp := ipb T9 hp
 refine zz 33 <| zr' (v := .bool false) ?_
 cases hp
 exact ⟨C8.upd,_,rfl,rfl⟩
 have hp := iqb T9 hp
 refine zz 1 <| zo 1 C8 <| zz 1 <| zo 0 C8 <| zQ hp fun y11 hy11 hp => zc C8 (sJ _ X0 (zM _) p0.own _ ⟨_,_,rfl,((p0a_h1.mono (Le3 B3 B5 B8)).mono Le.x0)⟩ p1.own _ ⟨_,_,rfl,((p1a_h1.mono (Le3 B3 B5 B8)).mono Le.x0)⟩ y11 hy11) ?_
 rintro v12 w12 C12 B12 V12 rfl
 refine zz 3 <| zb 19 (b := !y11) (fun T13 => ?_) (fun T13 => ?_)
 have hp := ipb T13 hp
 refine zz 25 <| zr' (v := .bool false) ?_
 cases hp
 exact ⟨C12.upd,_,rfl,rfl⟩
 have hp := iqb T13 hp
 refine zz 1 <| zo 1 C12 <| zz 1 <| zo 0 C12 ?_
 have T1_ := (Le3 B3 B5 B8).trans B12
 refine zQ hp fun y15 hy15 hp => zc C12 (sJ _ X0 (zM _) p0.other _ ⟨_,_,rfl,((p0a_h2.mono T1_).mono Le.x0)⟩ p1.other _ ⟨_,_,rfl,((p1a_h2.mono T1_).mono Le.x0)⟩ y15 hy15) ?_
 rintro v16 w16 C16 B16 V16 rfl
 refine zz 3 <| zb 27 (b := !y15) (fun T17 => ?_) (fun T17 => ?_)
 have hp := ipb T17 hp
 refine zz 17 <| zr' (v := .bool false) ?_
 cases hp
 exact ⟨C16.upd,_,rfl,rfl⟩
 have hp := iqb T17 hp
 refine zz 1 <| zo 1 C16 <| zz 1 <| zo 0 C16 ?_
 have T2_ := T1_.trans B16
 refine zQ hp fun y19 hy19 hp => zc C16 (lU _ X0 (zM _) p0.advisories _ ⟨_,_,rfl,((p0a_h3.mono T2_).mono Le.x0)⟩ p1.advisories _ ⟨_,_,rfl,((p1a_h3.mono T2_).mono Le.x0)⟩ y19 hy19) ?_
 rintro v20 w20 C20 B20 V20 rfl
 refine zz 4 <| zb 34 (b := !y19) (fun T21 => ?_) (fun T21 => ?_)
 have hp := ipb T21 hp
 refine zz 8 <| zr' (v := .bool false) ?_
 cases hp
 exact ⟨C20.upd,_,rfl,rfl⟩
 have hp := iqb T21 hp
 refine zz 7 <| zo 1 C20 <| zz 1 <| zo 0 C20 <| zz 2 <| zb 40 (b := ((p0.pull) != p1.pull)) (fun T22 => ?_) (fun T22 => ?_)
 have hp := ipb T22 hp
 refine zz 39 <| zr' (v := .bool false) ?_
 cases hp
 exact ⟨C20.upd,_,rfl,rfl⟩
 have hp := iqb T22 hp
 refine zz 1 <| zo 1 C20 <| zz 1 <| zo 0 C20 <| zz 3 <| zb 47 (b := ((p0.near) != p1.near)) (fun T23 => ?_) (fun T23 => ?_)
 have hp := ipb T23 hp
 refine zz 32 <| zr' (v := .bool false) ?_
 cases hp
 exact ⟨C20.upd,_,rfl,rfl⟩
 have hp := iqb T23 hp
 refine zz 1 <| zo 1 C20 <| zz 1 <| zo 0 C20 <| zz 3 <| zb 54 (b := ((p0.steps) != p1.steps)) (fun T24 => ?_) (fun T24 => ?_)
 have hp := ipb T24 hp
 refine zz 25 <| zr' (v := .bool false) ?_
 cases hp
 exact ⟨C20.upd,_,rfl,rfl⟩
 have hp := iqb T24 hp
 refine zz 1 <| zo 1 C20 <| zz 1 <| zo 0 C20 ?_
 have T3_ := T2_.trans B20
 refine zQ hp fun y26 hy26 hp => zc C20 (pG _ X0 (zM _) p0.ownNoise _ ⟨_,_,rfl,((p0a_h4.mono T3_).mono Le.x0)⟩ p1.ownNoise _ ⟨_,_,rfl,((p1a_h4.mono T3_).mono Le.x0)⟩ y26 hy26) ?_
 rintro v27 w27 C27 B27 V27 rfl
 refine zz 3 <| zb 62 (b := !y26) (fun T28 => ?_) (fun T28 => ?_)
 have hp := ipb T28 hp
 refine zz 17 <| zr' (v := .bool false) ?_
 cases hp
 exact ⟨C27.upd,_,rfl,rfl⟩
 have hp := iqb T28 hp
 refine zz 1 <| zo 1 C27 <| zz 1 <| zo 0 C27 ?_
 have T4_ := T3_.trans B27
 refine zQ hp fun y30 hy30 hp => zc C27 (pG _ X0 (zM _) p0.otherNoise _ ⟨_,_,rfl,((p0a_h5.mono T4_).mono Le.x0)⟩ p1.otherNoise _ ⟨_,_,rfl,((p1a_h5.mono T4_).mono Le.x0)⟩ y30 hy30) ?_
 rintro v31 w31 C31 B31 V31 rfl
 refine zz 4 <| zb 69 (b := !y30) (fun T32 => ?_) (fun T32 => ?_)
 have hp := ipb T32 hp
 refine zz 8 <| zr' (v := .bool false) ?_
 cases hp
 exact ⟨C31.upd,_,rfl,rfl⟩
 have hp := iqb T32 hp
 refine zz 6 <| zo 1 C31 <| zz 1 <| zo 0 C31 ?_
 have T5_ := T4_.trans B31
 refine zQ hp fun y34 hy34 hp => zc C31 (qB _ X0 (zM _) p0.alert _ ⟨_,_,_,_,_,_,rfl,((p0a_h6.mono T5_).mono Le.x0),((p0a_h7.mono T5_).mono Le.x0)⟩ p1.alert _ ⟨_,_,_,_,_,_,rfl,((p1a_h6.mono T5_).mono Le.x0),((p1a_h7.mono T5_).mono Le.x0)⟩ y34 hy34) ?_
 rintro v35 w35 C35 B35 V35 rfl
 refine zz 1 <| zb 75 (b := y34) (fun T36 => ?_) (fun T36 => ?_)
 have hp := ipb T36 hp
 refine zz 1 <| zo 1 C35 <| zz 1 <| zo 0 C35 ?_
 have T6_ := T5_.trans B35
 refine zQ hp fun y38 hy38 hp => zc C35 (qB _ X0 (zM _) p0.strengthen _ ⟨_,_,_,_,_,_,rfl,((p0a_h8.mono T6_).mono Le.x0),((p0a_h9.mono T6_).mono Le.x0)⟩ p1.strengthen _ ⟨_,_,_,_,_,_,rfl,((p1a_h8.mono T6_).mono Le.x0),((p1a_h9.mono T6_).mono Le.x0)⟩ y38 hy38) ?_
 rintro v39 w39 C39 B39 V39 rfl
 refine zz 2 <| zb 82 (b := y38) (fun T40 => ?_) (fun T40 => ?_)
 have hp := ipb T40 hp
 refine zz 1 <| zo 1 C39 <| zz 1 <| zo 0 C39 ?_
 have T7_ := T6_.trans B39
 refine zQ hp fun y42 hy42 hp => zc C39 (qB _ X0 (zM _) p0.reversal _ ⟨_,_,_,_,_,_,rfl,((p0a_h10.mono T7_).mono Le.x0),((p0a_h11.mono T7_).mono Le.x0)⟩ p1.reversal _ ⟨_,_,_,_,_,_,rfl,((p1a_h10.mono T7_).mono Le.x0),((p1a_h11.mono T7_).mono Le.x0)⟩ y42 hy42) ?_
 rintro v43 w43 C43 B43 V43 rfl
 refine zz 5 <| zr' (v := .bool y42) ?_
 cases hp
 exact ⟨C43.upd,_,rfl,rfl⟩
 have hp := iqb T40 hp
 refine zz 10 <| zr' (v := .bool false) ?_
 cases hp
 exact ⟨C39.upd,_,rfl,rfl⟩
 have hp := iqb T36 hp
 refine zz 17 <| zr' (v := .bool false) ?_
 cases hp
 exact ⟨C35.upd,_,rfl,rfl⟩
end
end Go.Proofs.YtjnbipmlmafahaaGreat

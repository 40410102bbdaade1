import Derived.OrdersIn
import Derived.LoopNIn
import Derived.Test.YtjnbipmlmafahaaGreatBaseA
import Derived.Test.YtjnbipmlmafahaaGreatBaseB
import Derived.Test.YtjnbipmlmafahaaGreatBaseC
import Derived.Test.YtjnbipmlmafahaaGreatBaseD
set_option linter.unusedVariables false
set_option linter.unusedSimpArgs false
set_option linter.unnecessarySimpa false
namespace Go.Proofs.YtjnbipmlmafahaaGreat
open Go Go.Gv Go.RowKit IntKind
set_option maxRecDepth 100000
section
variable (w : World) (X : Hid) (hX : ∀ k o,X k o → k < w.heap.size)
set_option maxHeartbeats 1000000
noncomputable def yY (p0 : zO) (p4 : Int) (y42 : Raw × Int) (Jx72 : (List (Int × Raw)) → Option ((List Out) × Int)) : List zU → (List (Int × Raw)) → Option ((List Out) × Int)
 | [],v72_1 => Jx72 v72_1
 | x72 :: r72,v72_1 => (rE y42.1 x72.w).bind fun y79 => (some (tY (i64.wrap ((i64.wrap ((x72.vertex) * (p0.advisories.length : Int))) + p4)) Raw.zero v72_1)).bind fun x87 => (kH x87 y79.1).bind fun y89 => grd (-9223372036854775808 ≤ (i64.wrap ((i64.wrap ((x72.vertex) * (p0.advisories.length : Int))) + p4)) ∧ (i64.wrap ((i64.wrap ((x72.vertex) * (p0.advisories.length : Int))) + p4)) ≤ 9223372036854775807) <| yY p0 p4 y42 Jx72 r72 (zBs (i64.wrap ((i64.wrap ((x72.vertex) * (p0.advisories.length : Int))) + p4)) y89.1 v72_1)
noncomputable def yZ (p0 : zO) (p1 : Int) (p2 : Int) (p3 : Int) (p4 : Int) (x27 : zV) (J29 : (List (Int × Raw)) → Option ((List Out) × Int)) : List zV → (List (Int × Raw)) → Option ((List Out) × Int)
 | [],v35_1 => J29 v35_1
 | x35 :: r35,v35_1 => (rE x27.p x35.p).bind fun y42 => (vO p0).bind fun y56 => (jJ p0 (p2) (p4)).bind fun y59 => (wQ y56 ([i64.wrap ((i64.wrap ((p1) + p3)) - p2),i64.wrap ((y59) + x27.delta),i64.wrap ((p3) + x35.delta)])).bind fun y63 => if ((y63.2) != 0) = true then (some (([] : List Out),y63.2)) else (lt (fun (v72_1 : List (Int × Raw)) => yZ p0 p1 p2 p3 p4 x27 J29 r35 v72_1) fun Jx72 => yY p0 p4 y42 Jx72 (y63.1.drop 0) v35_1)
noncomputable def kG (v27_1 : List (Int × Raw)) (J104 : (List Out) → Option ((List Out) × Int)) : List Int → (List Out) → Option ((List Out) × Int)
 | [],v117_0 => J104 v117_0
 | x117 :: r117,v117_0 => (some (tY (x117) Raw.zero v27_1)).bind fun x123 => grd ((v117_0.length + 1) * 64 ≤ 140737488355328) <| kG v27_1 J104 r117 (v117_0 ++ [(Out.mk x117 x123)])
noncomputable def jT (p0 : zO) (p1 : Int) (p2 : Int) (p3 : Int) (p4 : Int) : List zV → (List (Int × Raw)) → Option ((List Out) × Int)
 | [],v27_1 => if (v27_1.length : Int) > 64 then (some (([] : List Out),10)) else (lt (fun (v104_0 : List Out) => some (v104_0,0)) fun J104 => grd (v27_1.length * 8 ≤ 140737488355328) <| (some (dN (v27_1.map Prod.fst))).bind fun y115 => kG v27_1 J104 (y115.drop 0) ([] : List Out))
 | x27 :: r27,v27_1 => lt (fun (v29_0 : List (Int × Raw)) => jT p0 p1 p2 p3 p4 r27 v29_0) fun J29 => yZ p0 p1 p2 p3 p4 x27 J29 (p0.otherNoise.drop 0) v27_1
noncomputable def tJ (p0 : zO) (p1 : Int) (p2 : Int) (p3 : Int) (p4 : Int) : Option ((List Out) × Int) :=
 jT p0 p1 p2 p3 p4 (p0.ownNoise.drop 0)  ([] : List (Int × Raw))
include hX in
theorem zCw (p0 : zO) (vp0 : Value) (hp0 : zW (rd w X) vp0 p0) (p1 : Int) (p2 : Int) (p3 : Int) (p4 : Int) (y : (List Out) × Int) (hp : tJ p0 p1 p2 p3 p4 = some y) : Calls Tryz.prog 58 #[vp0,.int .i64 p1,.int .i64 p2,.int .i64 p3,.int .i64 p4] w (Ret E0 w fun w' v => ∃ uu0,v = .tuple #[uu0,.int .i64 y.2] ∧ SV vN (rd w' (old w)) uu0 y.1) := by
 have hVp0 := hp0
 refine zW.op hp0 fun D1 D2 D3 D4 D5 D6 D7 D8 D9 D10 D11 D12 D13 D14 D15 D16 D17 D18 D19 D20 D21 D22 D23 D24 hv9 p0a_h0 p0a_h1 p0a_h2 p0a_h3 p0a_h4 p0a_h5 p0a_h6 p0a_h7 p0a_h8 p0a_h9 p0a_h10 p0a_h11 => ?_
 subst hv9
 unfold tJ at hp
 refine zenM Tryz.func58 ?_
 have C0 : St E0 w X w X [] := St.start hX
 refine zz 2 <| zn pn (.cells (qDr p0 D1 D2 D3 D4 D5 D6 D7 D8 D9 D10 D11 D12 D13 D14 D15 D16 D17 D18 D19 D20 D21 D22 D23 D24) 30 (0,0)) C0 fun b3 w3 Y3 C3 B3 V3 => zn pn (.cells #[.int .i64 p1] 3 (0,0)) C3 fun b5 w5 Y5 C5 B5 V5 => zn pn (.cells #[.int .i64 p2] 3 (0,0)) C5 fun b7 w7 Y7 C7 B7 V7 => zn pn (.cells #[.int .i64 p3] 3 (0,0)) C7 fun b9 w9 Y9 C9 B9 V9 => zn pn (.cells #[.int .i64 p4] 3 (0,0)) C9 fun b11 w11 Y11 C11 B11 V11 => zn pn (.cells #[.slice none 0 0] 42 (0,0)) C11 fun b13 w13 Y13 C13 B13 V13 => zn pn (.cells #[.int .i64 0] 34 (0,0)) C13 fun b15 w15 Y15 C15 B15 V15 => zz 4 ?_
 refine zop (at1 [] Tryz.f58 [1,0]) 0 (fun a16 _ G16 hz16 => fC (d := 25) (fun b => .map (some b)) (pJ []) G16 kr C15 kw ?_)
 intro b17 w17 Y17 C17 B17 V17 a18 G18
 refine hz16 G18 <| zn pn (.cells #[.map none] 128 (0,0)) C17 fun b20 w20 Y20 C20 B20 V20 => zx 0 #[.map (some b17)] C20 fun w21 C21 B21 => zz 5 <| zo 8 C21 <| zci (vs := #[.agg (qDr p0 D1 D2 D3 D4 D5 D6 D7 D8 D9 D10 D11 D12 D13 D14 D15 D16 D17 D18 D19 D20 D21 D22 D23 D24)]) Tryz.func93 (fun R22 hR22 => ?_)
 refine zz 2 <| zn pn (.cells (qDr p0 D1 D2 D3 D4 D5 D6 D7 D8 D9 D10 D11 D12 D13 D14 D15 D16 D17 D18 D19 D20 D21 D22 D23 D24) 30 (0,0)) C21 fun b24 w24 Y24 C24 B24 V24 => zz 10 <| zr' (v := .func (.func 132) #[] #[.pointer (some ⟨b24,0,none⟩)]) ?_
 refine hR22 _ _ <| zz 3 <| zrng (caps := #[.pointer (some ⟨b24,0,none⟩)]) C24 (fun a25 rec25 l25 b25 w25 Y25 hFa25 hr25 C25 B25 V25 => ?_) (hcall := fun args w => Tryz.call132 args w)
 refine zen Tryz.func132 <| zz 3 <| zo 2 C25 <| zz 5 ?_
 have T1_ := (Le3 B20 B21 B24).trans B25
 have hb27 : (p0.ownNoise.length : Int) ≤ 9223372036854775807 := rR (p0a_h4).hcap (p0a_h4).hbig
 refine zlp Tryz.f132 [] [1,0] (fun ((k27,v27_1,es27_1) : Nat × (List (Int × Raw)) × (List (Int × Value))) => [(0,.func (.yield l25) #[] #[]),(1,.pointer (some ⟨b24,0,none⟩)),(10,.slice D9 p0.ownNoise.length D10),(11,.int .i64 (p0.ownNoise.length : Int)),(12,.int .i64 (k27 : Int))]) (fun (k27,v27_1,es27_1) w1 => ∃ Y1 : Hid,St E0 w X w1 Y1 [(l25,.loop rec25),(b25,.deferred (some [])),(b24,.cells (qDr p0 D1 D2 D3 D4 D5 D6 D7 D8 D9 D10 D11 D12 D13 D14 D15 D16 D17 D18 D19 D20 D21 D22 D23 D24) 30 (0,0)),(b20,.cells #[.map (some b17)] 128 (0,0)),(b17,pJ es27_1),(b15,.cells #[.int .i64 0] 34 (0,0)),(b13,.cells #[.slice none 0 0] 42 (0,0)),(b11,.cells #[.int .i64 p4] 3 (0,0)),(b9,.cells #[.int .i64 p3] 3 (0,0)),(b7,.cells #[.int .i64 p2] 3 (0,0)),(b5,.cells #[.int .i64 p1] 3 (0,0)),(b3,.cells (qDr p0 D1 D2 D3 D4 D5 D6 D7 D8 D9 D10 D11 D12 D13 D14 D15 D16 D17 D18 D19 D20 D21 D22 D23 D24) 30 (0,0))] ∧ Le (rd w25 Y25) (rd w1 Y1) ∧ pF vJ (rd w1 (orN Y1 w.heap.size)) es27_1 v27_1 ∧ jT p0 p1 p2 p3 p4 (p0.ownNoise.drop k27)  v27_1 = some y) (fun (k27,v27_1,es27_1) => p0.ownNoise.length - k27) (0,([] : List (Int × Raw)),[]) ?_ ?_
 exact ⟨_,C25,Le.refl _,(pF.mono (V := vJ) (fun h k => vJ.mono h k) pF.nil (Le.or T1_ _)),hp⟩
 rintro ⟨k27,v27_1,es27_1⟩ w27 K27 H27 ⟨Y27,C27,B27,P27_1_0,hp⟩
 refine zz 6 <| zt 13 (p := (k27 : Int) < (p0.ownNoise.length : Int)) (fun Q28 => ?_) (fun Q28 => ?_)
 have C := xK (l := p0.ownNoise) (k := k27) (qR Q28)
 obtain ⟨x27,O27⟩ := C
 rw [wG O27,jT] at hp
 have L27 : (0 : Int) ≤ (k27 : Int) := Int.natCast_nonneg _
 refine zz 3 ?_
 have C := rQ hp
 obtain ⟨J29,hJ29,hp⟩ := C
 refine yT (fun ((v29_0,es29_0) : (List (Int × Raw)) × (List (Int × Value))) => [(0,.func (.yield l25) #[] #[]),(1,.pointer (some ⟨b24,0,none⟩)),(10,.slice D9 p0.ownNoise.length D10),(11,.int .i64 (p0.ownNoise.length : Int)),(12,.int .i64 (k27 : Int))]) (fun (v29_0,es29_0) w1 => ∃ Y1 : Hid,St E0 w X w1 Y1 [(l25,.loop rec25),(b25,.deferred (some [])),(b24,.cells (qDr p0 D1 D2 D3 D4 D5 D6 D7 D8 D9 D10 D11 D12 D13 D14 D15 D16 D17 D18 D19 D20 D21 D22 D23 D24) 30 (0,0)),(b20,.cells #[.map (some b17)] 128 (0,0)),(b17,pJ es29_0),(b15,.cells #[.int .i64 0] 34 (0,0)),(b13,.cells #[.slice none 0 0] 42 (0,0)),(b11,.cells #[.int .i64 p4] 3 (0,0)),(b9,.cells #[.int .i64 p3] 3 (0,0)),(b7,.cells #[.int .i64 p2] 3 (0,0)),(b5,.cells #[.int .i64 p1] 3 (0,0)),(b3,.cells (qDr p0 D1 D2 D3 D4 D5 D6 D7 D8 D9 D10 D11 D12 D13 D14 D15 D16 D17 D18 D19 D20 D21 D22 D23 D24) 30 (0,0))] ∧ Le (rd w27 Y27) (rd w1 Y1) ∧ pF vJ (rd w1 (orN Y1 w.heap.size)) es29_0 v29_0 ∧ J29 v29_0 = some y) ?_ ?_
 rintro ⟨v29_0,es29_0⟩ w29 ⟨Y29,C29,B29,P29_0_0,hp⟩
 have hp := (hJ29 _).symm.trans hp
 refine zz 2 <| zs 41 (v := .int .i64 (i64.wrap ((k27 : Int) + 1))) (v' := .int .i64 ((k27 : Int) + 1)) (zR (jE (wk0 k27) (wk1 Q28 hb27))) <| zz 2 <| zP (fun a h => H27 (k27 + 1,v29_0,es29_0) _ a h ⟨_,C29,(Le2 B27 B29),P29_0_0,hp⟩ ?_)
 exact vK Q28
 intro K30 H30
 refine zz 3 ?_
 have C := p0a_h4.opn O27
 obtain ⟨be31,oe31,rfl,B31,hEe31⟩ := C
 obtain ⟨e311,e312,e313,e314,e31_at,e31_h0,e31_h1⟩ := hEe31
 refine zi (b := be31) (off := oe31) (len := p0.ownNoise.length) (cap := D10) (kd := .i64) (i := (k27 : Int)) 4 (oe31 + k27 * 4) ?_ (h0 := L27) (h1 := (jS L27 B31))
 have T2_ := (zWm B3 B5 B7 B9 B11 B13 B15 B17 B20 B21 B24 B25).trans B27
 refine zl ((e31_at.mono T2_)).cells <| zn pn (.cells #[.int .i64 0,.bool false,.slice none 0 0,.slice none 0 0] 76 (0,0)) C27 fun b33 w33 Y33 C33 B33 V33 => zx 0 #[.int .i64 x27.delta,.bool x27.p.neg,.slice e311 x27.p.ln.length e312,.slice e313 x27.p.ld.length e314] C33 fun w34 C34 B34 => zz 5 <| zo 3 C34 <| zz 5 ?_
 have hb35 : (p0.otherNoise.length : Int) ≤ 9223372036854775807 := rR (p0a_h5).hcap (p0a_h5).hbig
 refine zlp Tryz.f132 [K27,K30] [1,0,0,1,1,9,0,1,1,0] (fun ((k35,v35_1,es35_1) : Nat × (List (Int × Raw)) × (List (Int × Value))) => [(0,.func (.yield l25) #[] #[]),(1,.pointer (some ⟨b24,0,none⟩)),(4,.pointer (some ⟨b33,0,none⟩)),(10,.slice (some ⟨be31,oe31,none⟩) p0.ownNoise.length D10),(11,.int .i64 (p0.ownNoise.length : Int)),(12,.int .i64 (k27 : Int)),(17,.slice D11 p0.otherNoise.length D12),(18,.int .i64 (p0.otherNoise.length : Int)),(19,.int .i64 (k35 : Int))]) (fun (k35,v35_1,es35_1) w1 => ∃ Y1 : Hid,St E0 w X w1 Y1 [(b33,.cells #[.int .i64 x27.delta,.bool x27.p.neg,.slice e311 x27.p.ln.length e312,.slice e313 x27.p.ld.length e314] 76 (0,0)),(l25,.loop rec25),(b25,.deferred (some [])),(b24,.cells (qDr p0 D1 D2 D3 D4 D5 D6 D7 D8 (some ⟨be31,oe31,none⟩) D10 D11 D12 D13 D14 D15 D16 D17 D18 D19 D20 D21 D22 D23 D24) 30 (0,0)),(b20,.cells #[.map (some b17)] 128 (0,0)),(b17,pJ es35_1),(b15,.cells #[.int .i64 0] 34 (0,0)),(b13,.cells #[.slice none 0 0] 42 (0,0)),(b11,.cells #[.int .i64 p4] 3 (0,0)),(b9,.cells #[.int .i64 p3] 3 (0,0)),(b7,.cells #[.int .i64 p2] 3 (0,0)),(b5,.cells #[.int .i64 p1] 3 (0,0)),(b3,.cells (qDr p0 D1 D2 D3 D4 D5 D6 D7 D8 (some ⟨be31,oe31,none⟩) D10 D11 D12 D13 D14 D15 D16 D17 D18 D19 D20 D21 D22 D23 D24) 30 (0,0))] ∧ Le (rd w34 Y33) (rd w1 Y1) ∧ pF vJ (rd w1 (orN Y1 w.heap.size)) es35_1 v35_1 ∧ yZ p0 p1 p2 p3 p4 x27 J29 (p0.otherNoise.drop k35)  v35_1 = some y) (fun (k35,v35_1,es35_1) => p0.otherNoise.length - k35) (0,v27_1,es27_1) ?_ ?_
 exact ⟨_,C34,Le.refl _,(pF.mono (V := vJ) (fun h k => vJ.mono h k) P27_1_0 (Le.or (Le2 B33 B34) _)),hp⟩
 rintro ⟨k35,v35_1,es35_1⟩ w35 K35 H35 ⟨Y35,C35,B35,P35_1_0,hp⟩
 refine zz 6 <| zt 20 (p := (k35 : Int) < (p0.otherNoise.length : Int)) (fun Q36 => ?_) (fun Q36 => ?_)
 have C := xK (l := p0.otherNoise) (k := k35) (qR Q36)
 obtain ⟨x35,O35⟩ := C
 rw [wG O35,yZ] at hp
 have L35 : (0 : Int) ≤ (k35 : Int) := Int.natCast_nonneg _
 refine zz 7 ?_
 have C := p0a_h5.opn O35
 obtain ⟨be37,oe37,rfl,B37,hEe37⟩ := C
 obtain ⟨e371,e372,e373,e374,e37_at,e37_h0,e37_h1⟩ := hEe37
 refine zi (b := be37) (off := oe37) (len := p0.otherNoise.length) (cap := D12) (kd := .i64) (i := (k35 : Int)) 4 (oe37 + k35 * 4) ?_ (h0 := L35) (h1 := (jS L35 B37))
 have T3_ := ((T2_.trans B33).trans B34).trans B35
 refine zl ((e37_at.mono T3_)).cells <| zn pn (.cells #[.int .i64 0,.bool false,.slice none 0 0,.slice none 0 0] 76 (0,0)) C35 fun b39 w39 Y39 C39 B39 V39 => zx 0 #[.int .i64 x35.delta,.bool x35.p.neg,.slice e371 x35.p.ln.length e372,.slice e373 x35.p.ld.length e374] C39 fun w40 C40 B40 => zz 5 <| zo 1 C40 <| zz 1 <| zo 0 C40 ?_
 have T4_ := (T3_.trans B39).trans B40
 refine zQ hp fun y42 hy42 hp => zc C40 (zFd _ X0 (zM _) x27.p _ ⟨_,_,_,_,_,_,rfl,((e31_h0.mono T4_).mono Le.x0),((e31_h1.mono T4_).mono Le.x0)⟩ x35.p _ ⟨_,_,_,_,_,_,rfl,((e37_h0.mono T4_).mono Le.x0),((e37_h1.mono T4_).mono Le.x0)⟩ y42 hy42) ?_
 rintro v43 w43 C43 B43 V43 ⟨uu43_0,rfl,⟨u43_0_1,u43_0_2,u43_0_3,u43_0_4,u43_0_5,u43_0_6,rfl,u43_0__h0,u43_0__h1⟩⟩
 have C := u43_0__h0.hlen
 subst C
 have C := u43_0__h1.hlen
 subst C
 refine zz 3 <| zn pn (.cells #[.bool false,.slice none 0 0,.slice none 0 0] 28 (0,0)) C43 fun b45 w45 Y45 C45 B45 V45 => zx 0 #[.bool y42.1.neg,.slice u43_0_1 y42.1.ln.length u43_0_3,.slice u43_0_4 y42.1.ld.length u43_0_6] C45 fun w46 C46 B46 => zz 7 <| zo 2 C46 <| zz 1 <| zo 1 C46 <| zz 1 <| zo 0 C46 ?_
 refine zyld (l := l25) (vs := #[.agg #[.int .i64 x27.delta,.int .i64 x35.delta],.agg #[.bool y42.1.neg,.slice u43_0_1 y42.1.ln.length u43_0_3,.slice u43_0_4 y42.1.ld.length u43_0_6]]) (fun R47 hR47 => ?_)
 refine zXw 3 hr25 hFa25 C46 <| zz 2 <| zn pn (.cells #[.int .i64 0,.int .i64 0] 132 (0,0)) C46 fun b49 w49 Y49 C49 B49 V49 => zx 0 #[.int .i64 x27.delta,.int .i64 x35.delta] C49 fun w50 C50 B50 => zz 3 <| zn pn (.cells #[.bool false,.slice none 0 0,.slice none 0 0] 28 (0,0)) C50 fun b52 w52 Y52 C52 B52 V52 => zx 0 #[.bool y42.1.neg,.slice u43_0_1 y42.1.ln.length u43_0_3,.slice u43_0_4 y42.1.ld.length u43_0_6] C52 fun w53 C53 B53 => zz 1 ?_
 refine qCp 5 hr25 C53 (fun w54 C54 B54 => ?_)
 refine zz 2 <| zN ⟨.code (at1 [] Tryz.f58 [1,1,0,1,0,1,0,0]),at2 [] Tryz.f58 [1,1,0,1,0,1,0,0],[(5,.pointer (some ⟨b3,0,none⟩)),(6,.pointer (some ⟨b5,0,none⟩)),(7,.pointer (some ⟨b7,0,none⟩)),(8,.pointer (some ⟨b9,0,none⟩)),(9,.pointer (some ⟨b11,0,none⟩)),(10,.pointer (some ⟨b13,0,none⟩)),(11,.pointer (some ⟨b15,0,none⟩)),(12,.pointer (some ⟨b20,0,none⟩)),(13,.pointer (some ⟨b49,0,none⟩)),(14,.pointer (some ⟨b52,0,none⟩))]⟩ <| zEb [0,1,2,3,4,7,8,10,11,12,13,14,15,16] C54 <| gw 0 13 <| gw 2 12 <| gw 3 10 <| gz [4] <| gw 5 11 <| gz [6] ?_
 refine gw 7 13 <| gw 8 11 <| gw 9 9 <| gH (v := .pointer (some ⟨b49,0,none⟩)) 11 (fun w => zDa (e := 3) (nn := 2) (b := b49) (off := 0) (kd := .i64) (i := 0) (g := false) (m := 1) (off' := 0) rfl kr kr kr kr (by decide) (by decide) (by decide)) <| gw 12 1 <| gw 14 10 <| gH (v := .pointer (some ⟨b49,1,none⟩)) 15 (fun w => zDa (e := 3) (nn := 2) (b := b49) (off := 0) (kd := .i64) (i := 1) (g := false) (m := 1) (off' := 1) rfl kr kr kr kr (by decide) (by decide) (by decide)) <| gw 16 1 <| gz [17] ?_
 have T5_ := (((((((T4_.trans B43).trans B45).trans B46).trans B49).trans B50).trans B52).trans B53).trans B54
 refine zQ hp fun y56 hy56 hp => gC 1 (fun w55 Y55 _ C55 B55 => (aH _ _ C55.lt p0 _ (hVp0.mono (T5_.trans B55)) y56 hy56)) ?_
 rintro v57 w55 Y57 w57 C55 B57 ⟨u57_0_1,u57_0_2,rfl,u57_0__h0⟩
 have T6_ := T5_.trans B57
 refine zQ hp fun y59 hy59 hp => gC 10 (fun w58 Y58 _ C58 B58 => (fE _ X0 (zM _) p0 _ ((hVp0.mono (T6_.trans B58)).mono Le.x0) (p2) (p4) y59 hy59)) ?_
 rintro v60 w58 Y60 w60 C58 B60 rfl
 refine gz [13] <| gp1 (al 18 49 (fun b => .slice (some ⟨b,0,none⟩) 3 3) (.cells #[.int .i64 (i64.wrap ((i64.wrap ((p1) + p3)) - p2)),.int .i64 (i64.wrap ((y59) + x27.delta)),.int .i64 (i64.wrap ((p3) + x35.delta))] 3 (0,0))) (fun b61 => ?_)
 refine zQ hp fun y63 hy63 hp => gC 19 (vs := #[.slice u57_0_1 y56.length u57_0_2,.slice (some ⟨b61,0,none⟩) 3 3]) (fun w62 Y62 _ C62 B62 => (zEk _ X0 (zM _) y56 _ ⟨_,_,rfl,((u57_0__h0.mono (Le2 B60 B62)).mono Le.x0)⟩ ([i64.wrap ((i64.wrap ((p1) + p3)) - p2),i64.wrap ((y59) + x27.delta),i64.wrap ((p3) + x35.delta)]) _ ⟨_,_,rfl,(SlR.lit (El := sG) (size := 1) (n := 3) [⟨(i64.wrap ((i64.wrap ((p1) + p3)) - p2) : Int),[.int .i64 (i64.wrap ((i64.wrap ((p1) + p3)) - p2))]⟩,⟨(i64.wrap ((y59) + x27.delta) : Int),[.int .i64 (i64.wrap ((y59) + x27.delta))]⟩,⟨(i64.wrap ((p3) + x35.delta) : Int),[.int .i64 (i64.wrap ((p3) + x35.delta))]⟩] (C62.at0 0 rfl rfl) (List.forall_mem_cons.2 ⟨⟨rfl,fun r2 h2 b o h9 => h9⟩,(List.forall_mem_cons.2 ⟨⟨rfl,fun r2 h2 b o h9 => h9⟩,(List.forall_mem_cons.2 ⟨⟨rfl,fun r2 h2 b o h9 => h9⟩,(List.forall_mem_nil _)⟩)⟩)⟩) rfl (by decide))⟩ y63 hy63)) ?_
 rintro v64 w62 Y64 w64 C62 B64 ⟨uu64_0,rfl,⟨u64_0_1,u64_0_2,rfl,u64_0__h0⟩⟩
 refine gz [20,21,22,23,24] ?_
 refine yO (fun w65 Y65 C65 B65 => ?_)
 refine zz 8 <| zb 54 (b := ((y63.2) != 0)) (fun T66 => ?_) (fun T66 => ?_)
 have hp := ipb T66 hp
 refine zz 4 <| zx 12 #[.slice none 0 0] C65 fun w67 C67 B67 => zx 11 #[.int .i64 y63.2] C67 fun w68 C68 B68 => zz 5 ?_
 refine qDj 6 C68 (fun w69 C69 B69 => ?_)
 refine hR47 _ _ <| zz 13 <| zr' (v := .tuple #[]) ?_
 refine ⟨⟨_,rfl⟩,?_⟩
 refine qCe 6 b25 hFa25 C69 (fun w70 C70 B70 => ?_)
 refine zz 2 ?_
 refine qBe 7 [.cell 10 42,.cell 11 34] (v := .tuple #[.slice none 0 0,.int .i64 y63.2]) C70 (fun w71 C71 B71 => ⟨(Res.cM C71 12 (Res.cM C71 11 Res.nil)),?_⟩)
 cases hp
 exact ⟨C71.upd,_,rfl,⟨_,rfl,⟨_,_,rfl,(show vN _ none 0 0 [] from SlR.nil none (by decide))⟩⟩⟩
 have hp := iqb T66 hp
 refine zz 11 ?_
 have T7_ := (zSm B39 B40 B43 B45 B46 B49 B50 B52 B53 B54 B57 B60 B64).trans B65
 have C := rQ hp
 obtain ⟨Jx72,hJx72,hp⟩ := C
 have hb72 : (y63.1.length : Int) ≤ 9223372036854775807 := rR ((u64_0__h0.mono (Le.new C62.lt))).hcap ((u64_0__h0.mono (Le.new C62.lt))).hbig
 refine zlp Tryz.f58 [] [1,1,0,1,0,1,0,1,1,1,0] (fun ((k72,v72_1,es72_1) : Nat × (List (Int × Raw)) × (List (Int × Value))) => [(5,.pointer (some ⟨b3,0,none⟩)),(9,.pointer (some ⟨b11,0,none⟩)),(10,.pointer (some ⟨b13,0,none⟩)),(11,.pointer (some ⟨b15,0,none⟩)),(12,.pointer (some ⟨b20,0,none⟩)),(14,.pointer (some ⟨b52,0,none⟩)),(56,.slice u64_0_1 y63.1.length u64_0_2),(57,.int .i64 (y63.1.length : Int)),(58,.int .i64 (k72 : Int))]) (fun (k72,v72_1,es72_1) w1 => ∃ Y1 : Hid,St E0 w X w1 Y1 [(b61,.cells #[.int .i64 (i64.wrap ((i64.wrap ((p1) + p3)) - p2)),.int .i64 (i64.wrap ((y59) + x27.delta)),.int .i64 (i64.wrap ((p3) + x35.delta))] 3 (0,0)),(b52,.cells #[.bool y42.1.neg,.slice u43_0_1 y42.1.ln.length u43_0_3,.slice u43_0_4 y42.1.ld.length u43_0_6] 28 (0,0)),(b49,.cells #[.int .i64 x27.delta,.int .i64 x35.delta] 132 (0,0)),(b45,.cells #[.bool y42.1.neg,.slice u43_0_1 y42.1.ln.length u43_0_3,.slice u43_0_4 y42.1.ld.length u43_0_6] 28 (0,0)),(b39,.cells #[.int .i64 x35.delta,.bool x35.p.neg,.slice e371 x35.p.ln.length e372,.slice e373 x35.p.ld.length e374] 76 (0,0)),(b33,.cells #[.int .i64 x27.delta,.bool x27.p.neg,.slice e311 x27.p.ln.length e312,.slice e313 x27.p.ld.length e314] 76 (0,0)),(l25,.loop (zAx rec25)),(b25,.deferred (some [])),(b24,.cells (qDr p0 D1 D2 D3 D4 D5 D6 D7 D8 (some ⟨be31,oe31,none⟩) D10 (some ⟨be37,oe37,none⟩) D12 D13 D14 D15 D16 D17 D18 D19 D20 D21 D22 D23 D24) 30 (0,0)),(b20,.cells #[.map (some b17)] 128 (0,0)),(b17,pJ es72_1),(b15,.cells #[.int .i64 0] 34 (0,0)),(b13,.cells #[.slice none 0 0] 42 (0,0)),(b11,.cells #[.int .i64 p4] 3 (0,0)),(b9,.cells #[.int .i64 p3] 3 (0,0)),(b7,.cells #[.int .i64 p2] 3 (0,0)),(b5,.cells #[.int .i64 p1] 3 (0,0)),(b3,.cells (qDr p0 D1 D2 D3 D4 D5 D6 D7 D8 (some ⟨be31,oe31,none⟩) D10 (some ⟨be37,oe37,none⟩) D12 D13 D14 D15 D16 D17 D18 D19 D20 D21 D22 D23 D24) 30 (0,0))] ∧ Le (rd w65 Y65) (rd w1 Y1) ∧ pF vJ (rd w1 (orN Y1 w.heap.size)) es72_1 v72_1 ∧ yY p0 p4 y42 Jx72 (y63.1.drop k72)  v72_1 = some y) (fun (k72,v72_1,es72_1) => y63.1.length - k72) (0,v35_1,es35_1) ?_ ?_
 exact ⟨_,C65,Le.refl _,(pF.mono (V := vJ) (fun h k => vJ.mono h k) P35_1_0 (Le.or T7_ _)),hp⟩
 rintro ⟨k72,v72_1,es72_1⟩ w72 K72 H72 ⟨Y72,C72,B72,P72_1_0,hp⟩
 refine zz 6 <| zt 59 (p := (k72 : Int) < (y63.1.length : Int)) (fun Q73 => ?_) (fun Q73 => ?_)
 have C := xK (l := y63.1) (k := k72) (qR Q73)
 obtain ⟨x72,O72⟩ := C
 rw [wG O72,yY] at hp
 have L72 : (0 : Int) ≤ (k72 : Int) := Int.natCast_nonneg _
 refine zz 7 ?_
 have C := (u64_0__h0.mono (Le.new C62.lt)).opn O72
 obtain ⟨be74,oe74,rfl,B74,hEe74⟩ := C
 obtain ⟨e741,e742,e743,e744,e74_at,e74_h0,e74_h1⟩ := hEe74
 refine zi (b := be74) (off := oe74) (len := y63.1.length) (cap := u64_0_2) (kd := .i64) (i := (k72 : Int)) 4 (oe74 + k72 * 4) ?_ (h0 := L72) (h1 := (jS L72 B74))
 refine zl ((e74_at.mono (Le2 B65 B72))).cells <| zn pn (.cells #[.int .i64 0,.bool false,.slice none 0 0,.slice none 0 0] 124 (0,0)) C72 fun b76 w76 Y76 C76 B76 V76 => zx 0 #[.int .i64 x72.vertex,.bool x72.w.neg,.slice e741 x72.w.ln.length e742,.slice e743 x72.w.ld.length e744] C76 fun w77 C77 B77 => zz 4 <| zo 2 C77 <| zz 1 <| zo 0 C77 ?_
 have T8_ := (zSm B45 B46 B49 B50 B52 B53 B54 B57 B60 B64 B65 B72 B76).trans B77
 have T9_ := (Le3 B65 B72 B76).trans B77
 refine zQ hp fun y79 hy79 hp => zc C77 (zFd _ X0 (zM _) y42.1 _ ⟨_,_,_,_,_,_,rfl,(((u43_0__h0.mono (Le.new C40.lt)).mono T8_).mono Le.x0),(((u43_0__h1.mono (Le.new C40.lt)).mono T8_).mono Le.x0)⟩ x72.w _ ⟨_,_,_,_,_,_,rfl,((e74_h0.mono T9_).mono Le.x0),((e74_h1.mono T9_).mono Le.x0)⟩ y79 hy79) ?_
 rintro v80 w80 C80 B80 V80 ⟨uu80_0,rfl,⟨u80_0_1,u80_0_2,u80_0_3,u80_0_4,u80_0_5,u80_0_6,rfl,u80_0__h0,u80_0__h1⟩⟩
 have C := u80_0__h0.hlen
 subst C
 have C := u80_0__h1.hlen
 subst C
 refine zz 3 <| zn pn (.cells #[.bool false,.slice none 0 0,.slice none 0 0] 28 (0,0)) C80 fun b82 w82 Y82 C82 B82 V82 => zx 0 #[.bool y79.1.neg,.slice u80_0_1 y79.1.ln.length u80_0_3,.slice u80_0_4 y79.1.ld.length u80_0_6] C82 fun w83 C83 B83 => zz 6 <| zo 1 C83 <| zz 1 <| zo 19 C83 <| zz 2 <| zo 15 C83 ?_
 refine zz 4 <| zN ⟨.code (at1 [K72] Tryz.f58 [1,1,0,1,0,1,0,1,1,1,0,0,1,1,0,0,1,1,1]),at2 [K72] Tryz.f58 [1,1,0,1,0,1,0,1,1,1,0,0,1,1,0,0,1,1,1],[(5,.pointer (some ⟨b3,0,none⟩)),(9,.pointer (some ⟨b11,0,none⟩)),(10,.pointer (some ⟨b13,0,none⟩)),(11,.pointer (some ⟨b15,0,none⟩)),(12,.pointer (some ⟨b20,0,none⟩)),(14,.pointer (some ⟨b52,0,none⟩)),(19,.pointer (some ⟨b82,0,none⟩)),(21,.int .i64 (i64.wrap ((i64.wrap ((x72.vertex) * (p0.advisories.length : Int))) + p4))),(56,.slice (some ⟨be74,oe74,none⟩) y63.1.length u64_0_2),(57,.int .i64 (y63.1.length : Int)),(58,.int .i64 (k72 : Int))]⟩ <| zEb [0,1,2,3,4,5,6,7,10,11,13,14,15,16,17,18,19] C83 <| gw 0 9 <| gz [1] <| gw 2 9 <| gz [3] <| gw 5 0 <| gO 4 (fun a84 w84 Y84 G84 C84 B84 => ?_)
 have T10_ := (Le5 B76 B77 B80 B82 B83).trans B84
 refine zKl (b := b17) (es := es72_1) (d := 82) 128 3 28 (i64.wrap ((i64.wrap ((x72.vertex) * (p0.advisories.length : Int))) + p4)) (.agg #[.bool false,.slice none 0 0,.slice none 0 0]) Raw.zero 12 G84 kr C84 kr kr kr kr kr kw (fun _ _ => by kernel_rfl) kr (pF.mono (V := vJ) (fun h k => vJ.mono h k) P72_1_0 (Le.or T10_ _)) ⟨none,0,0,none,0,0,rfl,zL.nil0,zL.nil0⟩ <| zQ hp fun x87 hx87 hp => ?_
 intro v85 hv85
 rw [Option.some.inj hx87] at hv85
 obtain ⟨u85_1,u85_2,u85_3,u85_4,u85_5,u85_6,rfl,u85__h0,u85__h1⟩ := hv85
 have C := u85__h0.hlen
 subst C
 have C := u85__h1.hlen
 subst C
 intro a86 G86
 refine ⟨_,_,_,_,G86,C84,Le.refl _,.inr ⟨fun h => h,B84⟩,?_⟩
 have T11_ := (Le2 B82 B83).trans B84
 refine zQ hp fun y89 hy89 hp => gC 6 (fun w88 Y88 _ C88 B88 => (dO _ X0 (zM _) x87 _ ⟨_,_,_,_,_,_,rfl,(((u85__h0.mono Le.orl).mono B88).mono Le.x0),(((u85__h1.mono Le.orl).mono B88).mono Le.x0)⟩ y79.1 _ ⟨_,_,_,_,_,_,rfl,(((u80_0__h0.mono (Le.new C77.lt)).mono (T11_.trans B88)).mono Le.x0),(((u80_0__h1.mono (Le.new C77.lt)).mono (T11_.trans B88)).mono Le.x0)⟩ y89 hy89)) ?_
 rintro v90 w88 Y90 w90 C88 B90 ⟨uu90_0,rfl,⟨u90_0_1,u90_0_2,u90_0_3,u90_0_4,u90_0_5,u90_0_6,rfl,u90_0__h0,u90_0__h1⟩⟩
 have C := u90_0__h0.hlen
 subst C
 have C := u90_0__h1.hlen
 subst C
 refine gz [7,8,9] <| gO 10 (fun a91 w91 Y91 G91 C91 B91 => ?_)
 have C := nC hp
 obtain ⟨hg93,hp⟩ := C
 have T12_ := (T10_.trans B90).trans B91
 have hmp92 := pF.put (V := vJ) (z := (i64.wrap ((i64.wrap ((x72.vertex) * (p0.advisories.length : Int))) + p4))) (v := .agg #[.bool y89.1.neg,.slice u90_0_1 y89.1.ln.length u90_0_3,.slice u90_0_4 y89.1.ld.length u90_0_6]) (x := y89.1) (pF.mono (V := vJ) (fun h k => vJ.mono h k) P72_1_0 (Le.or T12_ _)) hg93 ⟨_,_,_,_,_,_,rfl,(u90_0__h0.mono (Le.own C88.lt C88.upd.size B91)),(u90_0__h1.mono (Le.own C88.lt C88.upd.size B91))⟩
 refine zNl (b := b17) 128 3 28 es72_1 (i64.wrap ((i64.wrap ((x72.vertex) * (p0.advisories.length : Int))) + p4)) (.agg #[.bool y89.1.neg,.slice u90_0_1 y89.1.ln.length u90_0_3,.slice u90_0_4 y89.1.ld.length u90_0_6]) 12 G91 kr C91 kr kr kr kr kr kr (fun _ _ => by kernel_rfl) kr fun es94 hes94 w94 hSx94 B94 => ?_
 have C94 : St E0 w X w94 Y91 [(b82,.cells #[.bool y79.1.neg,.slice u80_0_1 y79.1.ln.length u80_0_3,.slice u80_0_4 y79.1.ld.length u80_0_6] 28 (0,0)),(b76,.cells #[.int .i64 x72.vertex,.bool x72.w.neg,.slice e741 x72.w.ln.length e742,.slice e743 x72.w.ld.length e744] 124 (0,0)),(b61,.cells #[.int .i64 (i64.wrap ((i64.wrap ((p1) + p3)) - p2)),.int .i64 (i64.wrap ((y59) + x27.delta)),.int .i64 (i64.wrap ((p3) + x35.delta))] 3 (0,0)),(b52,.cells #[.bool y42.1.neg,.slice u43_0_1 y42.1.ln.length u43_0_3,.slice u43_0_4 y42.1.ld.length u43_0_6] 28 (0,0)),(b49,.cells #[.int .i64 x27.delta,.int .i64 x35.delta] 132 (0,0)),(b45,.cells #[.bool y42.1.neg,.slice u43_0_1 y42.1.ln.length u43_0_3,.slice u43_0_4 y42.1.ld.length u43_0_6] 28 (0,0)),(b39,.cells #[.int .i64 x35.delta,.bool x35.p.neg,.slice e371 x35.p.ln.length e372,.slice e373 x35.p.ld.length e374] 76 (0,0)),(b33,.cells #[.int .i64 x27.delta,.bool x27.p.neg,.slice e311 x27.p.ln.length e312,.slice e313 x27.p.ld.length e314] 76 (0,0)),(l25,.loop (zAx rec25)),(b25,.deferred (some [])),(b24,.cells (qDr p0 D1 D2 D3 D4 D5 D6 D7 D8 (some ⟨be31,oe31,none⟩) D10 (some ⟨be37,oe37,none⟩) D12 D13 D14 D15 D16 D17 D18 D19 D20 D21 D22 D23 D24) 30 (0,0)),(b20,.cells #[.map (some b17)] 128 (0,0)),(b17,pJ es94),(b15,.cells #[.int .i64 0] 34 (0,0)),(b13,.cells #[.slice none 0 0] 42 (0,0)),(b11,.cells #[.int .i64 p4] 3 (0,0)),(b9,.cells #[.int .i64 p3] 3 (0,0)),(b7,.cells #[.int .i64 p2] 3 (0,0)),(b5,.cells #[.int .i64 p1] 3 (0,0)),(b3,.cells (qDr p0 D1 D2 D3 D4 D5 D6 D7 D8 (some ⟨be31,oe31,none⟩) D10 (some ⟨be37,oe37,none⟩) D12 D13 D14 D15 D16 D17 D18 D19 D20 D21 D22 D23 D24) 30 (0,0))] := hSx94
 rw [← hes94] at hmp92
 have hmr94 := pF.mono (V := vJ) (fun h k => vJ.mono h k) hmp92 (Le.or B94 _)
 refine ⟨_,_,_,_,G91,C94,Le.refl _,.inr ⟨fun _ => zJb [0,1,2,3,4,5,6,7,10,11,13,14,15,16,17,18,19],(Le2 B91 B94)⟩,?_⟩
 refine yO (fun w95 Y95 C95 B95 => ?_)
 refine zz 4 <| zs 87 (v := .int .i64 (i64.wrap ((k72 : Int) + 1))) (v' := .int .i64 ((k72 : Int) + 1)) (zR (jE (wk0 k72) (wk1 Q73 hb72))) <| zz 2 ?_
 have T13_ := (qAj B72 B76 B77 B80 B82 B83 B84 B90 B91 B94).trans B95
 refine zP (fun a h => H72 (k72 + 1,(zBs (i64.wrap ((i64.wrap ((x72.vertex) * (p0.advisories.length : Int))) + p4)) y89.1 v72_1),es94) _ a h ⟨_,C95.tail.tail,T13_,(pF.mono (V := vJ) (fun h k => vJ.mono h k) hmr94 (Le.or B95 _)),hp⟩ ?_)
 exact vK Q73
 rw [List.drop_eq_nil_of_le (qI Q73),yY] at hp
 have hp := (hJx72 _).symm.trans hp
 refine zz 6 ?_
 refine qBi 6 hr25 C72 (fun w96 C96 B96 => ?_)
 refine hR47 _ _ <| zz 9 <| zs 40 (v := .int .i64 (i64.wrap ((k35 : Int) + 1))) (v' := .int .i64 ((k35 : Int) + 1)) (zR (jE (wk0 k35) (wk1 Q36 hb35))) <| zz 2 ?_
 have T14_ := (Le16 B35 B39 B40 B43 B45 B46 B49 B50 B52 B53 B54 B57 B60 B64 B65 B72).trans B96
 refine zP (fun a h => H35 (k35 + 1,v72_1,es72_1) _ a h ⟨_,C96.tail.tail.tail.tail.tail,T14_,(pF.mono (V := vJ) (fun h k => vJ.mono h k) P72_1_0 (Le.or B96 _)),hp⟩ ?_)
 exact vK Q36
 rw [List.drop_eq_nil_of_le (qI Q36),yZ] at hp
 refine zz 6 ?_
 exact zP (fun a h => H30 (v35_1,es35_1) _ a h ⟨_,C35.tail,(Le3 B33 B34 B35),P35_1_0,hp⟩)
 rw [List.drop_eq_nil_of_le (qI Q28),jT] at hp
 refine zz 5 <| zr' (v := .tuple #[]) ?_
 refine ⟨⟨_,rfl⟩,?_⟩
 refine qDb 0 b25 hr25 hFa25 C27 (fun w97 C97 B97 => ?_)
 refine zz 5 <| zo 3 C97 <| zop (at1 [] Tryz.f58 [1,1,1,0,0]) 1 (fun a98 _ G98 hz98 => zVh (b := b17) (d := 89) 128 3 28 es27_1 4 G98 kr C97 kr kr kr kr ?_)
 rw [pF.len P27_1_0]
 intro a99 G99
 refine hz98 G99 <| zz 3 <| zt 90 (p := (v27_1.length : Int) > 64) (fun Q100 => ?_) (fun Q100 => ?_)
 have hp := ip Q100 hp
 refine zz 3 <| zx 6 #[.slice none 0 0] C97 fun w101 C101 B101 => zx 5 #[.int .i64 10] C101 fun w102 C102 B102 => zz 4 ?_
 refine qBe 1 [.cell 10 42,.cell 11 34] (v := .tuple #[.slice none 0 0,.int .i64 10]) C102 (fun w103 C103 B103 => ⟨(Res.cM C103 6 (Res.cM C103 5 Res.nil)),?_⟩)
 cases hp
 exact ⟨C103.upd,_,rfl,⟨_,rfl,⟨_,_,rfl,(show vN _ none 0 0 [] from SlR.nil none (by decide))⟩⟩⟩
 have hp := iq Q100 hp
 refine zz 8 ?_
 have C := rQ hp
 obtain ⟨J104,hJ104,hp⟩ := C
 refine yT (fun ((v104_0,rb104_0,ad104_0,m104_0,cap104_0) : (List Out) × (List (Nat × Obj)) × (Option Addr) × Nat × Nat) => [(22,.slice ad104_0 m104_0 cap104_0),(10,.pointer (some ⟨b13,0,none⟩)),(11,.pointer (some ⟨b15,0,none⟩))]) (fun (v104_0,rb104_0,ad104_0,m104_0,cap104_0) w1 => ∃ Y1 : Hid,St E0 w X w1 Y1 ((l25,.loop (zEx rec25)) :: (b25,.deferred (some [])) :: (b24,.cells (qDr p0 D1 D2 D3 D4 D5 D6 D7 D8 D9 D10 D11 D12 D13 D14 D15 D16 D17 D18 D19 D20 D21 D22 D23 D24) 30 (0,0)) :: (b20,.cells #[.map (some b17)] 128 (0,0)) :: (b17,pJ es27_1) :: (b15,.cells #[.int .i64 0] 34 (0,0)) :: (b13,.cells #[.slice none 0 0] 42 (0,0)) :: (b11,.cells #[.int .i64 p4] 3 (0,0)) :: (b9,.cells #[.int .i64 p3] 3 (0,0)) :: (b7,.cells #[.int .i64 p2] 3 (0,0)) :: (b5,.cells #[.int .i64 p1] 3 (0,0)) :: (b3,.cells (qDr p0 D1 D2 D3 D4 D5 D6 D7 D8 D9 D10 D11 D12 D13 D14 D15 D16 D17 D18 D19 D20 D21 D22 D23 D24) 30 (0,0)) :: rb104_0) ∧ Le (rd w97 Y27) (rd w1 Y1) ∧ jX zBv 80 4 (rd w1 (orN Y1 w.heap.size)) rb104_0 ad104_0 m104_0 cap104_0 v104_0 ∧ J104 v104_0 = some y) ?_ ?_
 rintro ⟨v104_0,rb104_0,ad104_0,m104_0,cap104_0⟩ w104 ⟨Y104,C104,B104,P104_0_0,hp⟩
 have hp := (hJ104 _).symm.trans hp
 refine zz 3 <| zx 6 #[.slice ad104_0 m104_0 cap104_0] C104 fun w105 C105 B105 => zx 5 #[.int .i64 0] C105 fun w106 C106 B106 => zz 3 ?_
 refine qBe 1 [.cell 10 42,.cell 11 34] (v := .tuple #[.slice ad104_0 m104_0 cap104_0,.int .i64 0]) C106 (fun w107 C107 B107 => ⟨(Res.cM C107 6 (Res.cM C107 5 Res.nil)),?_⟩)
 have C := St.pubGRN (A := [(l25,.loop (zEx rec25)),(b25,.deferred none),(b24,.cells (qDr p0 D1 D2 D3 D4 D5 D6 D7 D8 D9 D10 D11 D12 D13 D14 D15 D16 D17 D18 D19 D20 D21 D22 D23 D24) 30 (0,0)),(b20,.cells #[.map (some b17)] 128 (0,0)),(b17,pJ es27_1),(b15,.cells #[.int .i64 0] 34 (0,0)),(b13,.cells #[.slice ad104_0 m104_0 cap104_0] 42 (0,0)),(b11,.cells #[.int .i64 p4] 3 (0,0)),(b9,.cells #[.int .i64 p3] 3 (0,0)),(b7,.cells #[.int .i64 p2] 3 (0,0)),(b5,.cells #[.int .i64 p1] 3 (0,0)),(b3,.cells (qDr p0 D1 D2 D3 D4 D5 D6 D7 D8 D9 D10 D11 D12 D13 D14 D15 D16 D17 D18 D19 D20 D21 D22 D23 D24) 30 (0,0))]) (B := []) (fun rb => ((l25,.loop (zEx rec25)) :: (b25,.deferred none) :: (b24,.cells (qDr p0 D1 D2 D3 D4 D5 D6 D7 D8 D9 D10 D11 D12 D13 D14 D15 D16 D17 D18 D19 D20 D21 D22 D23 D24) 30 (0,0)) :: (b20,.cells #[.map (some b17)] 128 (0,0)) :: (b17,pJ es27_1) :: (b15,.cells #[.int .i64 0] 34 (0,0)) :: (b13,.cells #[.slice ad104_0 m104_0 cap104_0] 42 (0,0)) :: (b11,.cells #[.int .i64 p4] 3 (0,0)) :: (b9,.cells #[.int .i64 p3] 3 (0,0)) :: (b7,.cells #[.int .i64 p2] 3 (0,0)) :: (b5,.cells #[.int .i64 p1] 3 (0,0)) :: (b3,.cells (qDr p0 D1 D2 D3 D4 D5 D6 D7 D8 D9 D10 D11 D12 D13 D14 D15 D16 D17 D18 D19 D20 D21 D22 D23 D24) 30 (0,0)) :: rb)) C107 (fun _ => by simp only [List.append_assoc,List.cons_append,List.nil_append,List.append_nil]) (P104_0_0.mono (Le.or (Le3 B105 B106 B107) _)) (Nat.le_refl _) zBv.at
 obtain ⟨Y108,hSx108,B108,hRx108⟩ := C
 have C108 : St E0 w X w107 Y108 [(l25,.loop (zEx rec25)),(b25,.deferred none),(b24,.cells (qDr p0 D1 D2 D3 D4 D5 D6 D7 D8 D9 D10 D11 D12 D13 D14 D15 D16 D17 D18 D19 D20 D21 D22 D23 D24) 30 (0,0)),(b20,.cells #[.map (some b17)] 128 (0,0)),(b17,pJ es27_1),(b15,.cells #[.int .i64 0] 34 (0,0)),(b13,.cells #[.slice ad104_0 m104_0 cap104_0] 42 (0,0)),(b11,.cells #[.int .i64 p4] 3 (0,0)),(b9,.cells #[.int .i64 p3] 3 (0,0)),(b7,.cells #[.int .i64 p2] 3 (0,0)),(b5,.cells #[.int .i64 p1] 3 (0,0)),(b3,.cells (qDr p0 D1 D2 D3 D4 D5 D6 D7 D8 D9 D10 D11 D12 D13 D14 D15 D16 D17 D18 D19 D20 D21 D22 D23 D24) 30 (0,0))] := hSx108
 have C := hRx108.hlen
 subst C
 have hR108 : vN (rd w107 (orN Y108 w.heap.size)) ad104_0 v104_0.length cap104_0 v104_0 := hRx108
 cases hp
 exact ⟨C108.upd,_,rfl,⟨_,rfl,⟨_,_,rfl,((hR108.mono (Le.or (Le.refl _) _))).mono Le.orr⟩⟩⟩
 intro K109 H109
 refine zz 2 <| zo 3 C97 <| zci (vs := #[.map (some b17)]) Tryz.func97 (fun R110 hR110 => ?_)
 refine zz 2 <| zn pn (.cells #[.map (some b17)] 128 (0,0)) C97 fun b112 w112 Y112 C112 B112 V112 => zz 10 <| zr' (v := .func (.func 137) #[] #[.pointer (some ⟨b112,0,none⟩)]) ?_
 refine hR110 _ _ ?_
 have C := nC hp
 obtain ⟨hg114,hp⟩ := C
 refine zQ hp fun y115 hy115 hp => zc C112 (zLe _ (C112.get 5 rfl) (C112.get 0 rfl) (pF.mono (V := vJ) (fun h k => vJ.mono h k) P27_1_0 (Le.or (Le2 B97 B112) _)) hg114 y115 hy115) ?_
 rintro v116 w116 C116 B116 V116 ⟨u116_0_1,u116_0_2,rfl,u116_0__h0⟩
 refine zz 5 ?_
 have hb117 : (y115.length : Int) ≤ 9223372036854775807 := rR ((u116_0__h0.mono (Le.new C112.lt))).hcap ((u116_0__h0.mono (Le.new C112.lt))).hbig
 refine zlp Tryz.f58 [K109] [1,1,1,1,1,9,1,0] (fun ((v117_0,k117,rb117_0,ad117_0,m117_0,cap117_0) : (List Out) × Nat × (List (Nat × Obj)) × (Option Addr) × Nat × Nat) => [(10,.pointer (some ⟨b13,0,none⟩)),(11,.pointer (some ⟨b15,0,none⟩)),(12,.pointer (some ⟨b20,0,none⟩)),(22,.slice ad117_0 m117_0 cap117_0),(93,.slice u116_0_1 y115.length u116_0_2),(94,.int .i64 (y115.length : Int)),(95,.int .i64 (k117 : Int))]) (fun (v117_0,k117,rb117_0,ad117_0,m117_0,cap117_0) w1 => ∃ Y1 : Hid,St E0 w X w1 Y1 ((b112,.cells #[.map (some b17)] 128 (0,0)) :: (l25,.loop (zEx rec25)) :: (b25,.deferred (some [])) :: (b24,.cells (qDr p0 D1 D2 D3 D4 D5 D6 D7 D8 D9 D10 D11 D12 D13 D14 D15 D16 D17 D18 D19 D20 D21 D22 D23 D24) 30 (0,0)) :: (b20,.cells #[.map (some b17)] 128 (0,0)) :: (b17,pJ es27_1) :: (b15,.cells #[.int .i64 0] 34 (0,0)) :: (b13,.cells #[.slice none 0 0] 42 (0,0)) :: (b11,.cells #[.int .i64 p4] 3 (0,0)) :: (b9,.cells #[.int .i64 p3] 3 (0,0)) :: (b7,.cells #[.int .i64 p2] 3 (0,0)) :: (b5,.cells #[.int .i64 p1] 3 (0,0)) :: (b3,.cells (qDr p0 D1 D2 D3 D4 D5 D6 D7 D8 D9 D10 D11 D12 D13 D14 D15 D16 D17 D18 D19 D20 D21 D22 D23 D24) 30 (0,0)) :: rb117_0) ∧ Le (rd w116 Y112) (rd w1 Y1) ∧ jX zBv 80 4 (rd w1 (orN Y1 w.heap.size)) rb117_0 ad117_0 m117_0 cap117_0 v117_0 ∧ kG v27_1 J104 (y115.drop k117)  v117_0 = some y) (fun (v117_0,k117,rb117_0,ad117_0,m117_0,cap117_0) => y115.length - k117) (([] : List Out),0,[],none,0,0) ?_ ?_
 exact ⟨_,C116,Le.refl _,jX.nil,hp⟩
 rintro ⟨v117_0,k117,rb117_0,ad117_0,m117_0,cap117_0⟩ w117 K117 H117 ⟨Y117,C117,B117,P117_0_0,hp⟩
 refine zz 6 <| zt 96 (p := (k117 : Int) < (y115.length : Int)) (fun Q118 => ?_) (fun Q118 => ?_)
 have C := xK (l := y115) (k := k117) (qR Q118)
 obtain ⟨x117,O117⟩ := C
 rw [wG O117,kG] at hp
 have L117 : (0 : Int) ≤ (k117 : Int) := Int.natCast_nonneg _
 refine zz 7 ?_
 have C := (u116_0__h0.mono (Le.new C112.lt)).opn O117
 obtain ⟨be119,oe119,rfl,B119,hEe119⟩ := C
 have hAe119 : At (rd w116 Y112) ⟨be119,oe119 + k117 * 1,none⟩ [.int .i64 x117] := hEe119
 refine zi (b := be119) (off := oe119) (len := y115.length) (cap := u116_0_2) (kd := .i64) (i := (k117 : Int)) 1 (oe119 + k117 * 1) ?_ (h0 := L117) (h1 := (jS L117 B119))
 refine zl ((hAe119.mono B117)).cells <| zz 6 <| zo 4 C117 <| zz 1 ?_
 have T15_ := (Le3 B97 B112 B116).trans B117
 refine zop (at1 [K109,K117] Tryz.f58 [1,1,1,1,1,9,1,0,0,1,1,0,0,1]) 4 (fun a120 _ G120 hz120 => zKl (b := b17) (es := es27_1) (d := 103) 128 3 28 (x117) (.agg #[.bool false,.slice none 0 0,.slice none 0 0]) Raw.zero 5 G120 kr C117 kr kr kr kr kr kw (fun _ _ => by kernel_rfl) kr (pF.mono (V := vJ) (fun h k => vJ.mono h k) P27_1_0 (Le.or T15_ _)) ⟨none,0,0,none,0,0,rfl,zL.nil0,zL.nil0⟩ ?_)
 refine zQ hp fun x123 hx123 hp => ?_
 intro v121 hv121
 rw [Option.some.inj hx123] at hv121
 obtain ⟨u121_1,u121_2,u121_3,u121_4,u121_5,u121_6,rfl,u121__h0,u121__h1⟩ := hv121
 have C := u121__h0.hlen
 subst C
 have C := u121__h1.hlen
 subst C
 intro a122 G122
 refine hz120 G122 <| zz 1 <| zn (fun b => .slice (some ⟨b,0,none⟩) 1 1) (.cells #[.int .i64 x117,.bool x123.neg,.slice u121_1 x123.ln.length u121_3,.slice u121_4 x123.ld.length u121_6] 80 (0,0)) C117 fun b125 w125 Y125 C125 B125 V125 => ?_
 have C := nC hp
 obtain ⟨hg127,hp⟩ := C
 have hln128 : m117_0 = v117_0.length := jX.len P117_0_0
 have C := (P117_0_0.mono (Le.or B125 _))
 obtain ⟨es128,hr128,hq128,hk128,hm128⟩ := C
 refine zop (at1 [K109,K117] Tryz.f58 [1,1,1,1,1,9,1,0,0,1,1,0,0,1]) 7 (fun a126 _ G126 hz126 => tK (b := 64) (m := 1) (c := 1) (ad := ⟨b125,0,none⟩) (news := [.int .i64 x117,.bool x123.neg,.slice u121_1 x123.ln.length u121_3,.slice u121_4 x123.ld.length u121_6]) (i0 := Tryz.t80) (rb := rb117_0) (R1 := []) 14 G126 C125 rfl hr128 (C125.cells 0 rfl rfl) (lY hg127 hln128 rfl) (lX hg127 hln128) ?_)
 intro rb129 ad129 cap129 w129 Y129 F129 C129 B129 a130 G130
 have hg129 : jX zBv 80 4 (rd w129 (orN Y129 w.heap.size)) rb129 ad129 (m117_0 + 1) cap129 (v117_0 ++ [(Out.mk x117 x123)]) := jX.snoc F129 hq128 hk128 hm128 (Le.or B129 _) ⟨rfl,fun r2 h2 => ⟨_,_,_,_,_,_,rfl,((u121__h0.mono (Le.or (Le2 B125 B129) _)).mono h2),((u121__h1.mono (Le.or (Le2 B125 B129) _)).mono h2)⟩⟩
 refine hz126 G130 <| zz 6 <| zs 107 (v := .int .i64 (i64.wrap ((k117 : Int) + 1))) (v' := .int .i64 ((k117 : Int) + 1)) (zR (jE (wk0 k117) (wk1 Q118 hb117))) <| zz 2 <| zP (fun a h => H117 ((v117_0 ++ [(Out.mk x117 x123)]),k117 + 1,rb129,ad129,(m117_0 + 1),cap129) _ a h ⟨_,C129.tail,(Le3 B117 B125 B129),hg129,hp⟩ ?_)
 exact vK Q118
 rw [List.drop_eq_nil_of_le (qI Q118),kG] at hp
 refine zz 5 ?_
 exact zP (fun a h => H109 (v117_0,rb117_0,ad117_0,m117_0,cap117_0) _ a h ⟨_,C117.tail,(Le3 B112 B116 B117),P117_0_0,hp⟩)
noncomputable def qZ (p0 : zO) (p1 : Int) (p2 : Int) (p3 : Int) (p4 : Int) : Option ((List Out) × Int) :=
 (qF p0).bind fun y5 => if ((y5) != 0) = true then (some (([] : List Out),y5)) else ((zS (100000 : Int)).bind fun y9 => (qO ([p1]) y9).bind fun y14 => if (!y14) = true then (some (([] : List Out),1)) else ((zS (100 : Int)).bind fun y18 => (qO ([p2,p3]) y18).bind fun y23 => if (!y23) = true then (some (([] : List Out),1)) else ((yN p0 ([p4])).bind fun y29 => if ((y29) != 0) = true then (some (([] : List Out),y29)) else ((tJ p0 (p1) (p2) (p3) (p4)).bind fun y33 => some (y33.1,y33.2)))))
include hX in
theorem mI (p0 : zO) (vp0 : Value) (hp0 : zW (rd w X) vp0 p0) (p1 : Int) (p2 : Int) (p3 : Int) (p4 : Int) (y : (List Out) × Int) (hp : qZ p0 p1 p2 p3 p4 = some y) : Calls Tryz.prog 20 #[vp0,.int .i64 p1,.int .i64 p2,.int .i64 p3,.int .i64 p4] w (Ret E0 w fun w' v => ∃ uu0,v = .tuple #[uu0,.int .i64 y.2] ∧ SV vN (rd w' (old w)) uu0 y.1) := by
 have hVp0 := hp0
 refine zW.op hp0 fun D1 D2 D3 D4 D5 D6 D7 D8 D9 D10 D11 D12 D13 D14 D15 D16 D17 D18 D19 D20 D21 D22 D23 D24 hv9 p0a_h0 p0a_h1 p0a_h2 p0a_h3 p0a_h4 p0a_h5 p0a_h6 p0a_h7 p0a_h8 p0a_h9 p0a_h10 p0a_h11 => ?_
 subst hv9
 unfold qZ at hp
 refine zen Tryz.func20 ?_
 have C0 : St E0 w X w X [] := St.start hX
 refine zz 2 <| zn pn (.cells (qDr p0 D1 D2 D3 D4 D5 D6 D7 D8 D9 D10 D11 D12 D13 D14 D15 D16 D17 D18 D19 D20 D21 D22 D23 D24) 30 (0,0)) C0 fun b3 w3 Y3 C3 B3 V3 => zz 7 <| zo 0 C3 <| zQ hp fun y5 hy5 hp => zc C3 (vW _ X0 (zM _) p0 _ ((hVp0.mono B3).mono Le.x0) y5 hy5) ?_
 rintro v6 w6 C6 B6 V6 rfl
 refine zz 11 <| zb 16 (b := ((y5) != 0)) (fun T7 => ?_) (fun T7 => ?_)
 have hp := ipb T7 hp
 refine zz 11 <| zr' (v := .tuple #[.slice none 0 0,.int .i64 y5]) ?_
 cases hp
 exact ⟨C6.upd,_,rfl,⟨_,rfl,⟨_,_,rfl,(show vN _ none 0 0 [] from SlR.nil none (by decide))⟩⟩⟩
 have hp := iqb T7 hp
 refine zz 3 <| zQ hp fun y9 hy9 hp => zc C6 (wI _ X0 (zM _) (100000 : Int) y9 hy9) ?_
 rintro v10 w10 C10 B10 V10 ⟨u10_0_b0,u10_0_b1,rfl,u10_0_h0,u10_0_h1⟩
 have hAu10_0_b0 : At (rd w10 Y3) ⟨u10_0_b0,0,none⟩ [.func (.func 61) #[] #[]] := (At.mono (Le.new C6.lt) u10_0_h0)
 have hAu10_0_b1 : At (rd w10 Y3) ⟨u10_0_b1,0,none⟩ [.int .i64 y9] := (At.mono (Le.new C6.lt) u10_0_h1)
 refine zz 1 <| zn (fun b => .slice (some ⟨b,0,none⟩) 1 1) (.cells #[.int .i64 p1] 3 (0,0)) C10 fun b12 w12 Y12 C12 B12 V12 => zQ hp fun y14 hy14 hp => zc C12 (kT _ X0 (zM _) ([p1]) _ ⟨_,_,rfl,(SlR.lit (El := sG) (size := 1) (n := 1) [⟨(p1 : Int),[.int .i64 p1]⟩] (C12.at0 0 rfl rfl) (List.forall_mem_cons.2 ⟨⟨rfl,fun r2 h2 b o h9 => h9⟩,(List.forall_mem_nil _)⟩) rfl (by decide))⟩ _ ((hAu10_0_b0.mono B12).mono Le.x0) y9 _ ((hAu10_0_b1.mono B12).mono Le.x0) y14 hy14) ?_ (vs := #[.slice (some ⟨b12,0,none⟩) 1 1,.pointer (some ⟨u10_0_b0,0,none⟩),.pointer (some ⟨u10_0_b1,0,none⟩)])
 rintro v15 w15 C15 B15 V15 rfl
 refine zz 2 <| zb 26 (b := !y14) (fun T16 => ?_) (fun T16 => ?_)
 have hp := ipb T16 hp
 refine zz 20 <| zr' (v := .tuple #[.slice none 0 0,.int .i64 1]) ?_
 cases hp
 exact ⟨C15.upd,_,rfl,⟨_,rfl,⟨_,_,rfl,(show vN _ none 0 0 [] from SlR.nil none (by decide))⟩⟩⟩
 have hp := iqb T16 hp
 refine zQ hp fun y18 hy18 hp => zc C15 (wI _ X0 (zM _) (100 : Int) y18 hy18) ?_
 rintro v19 w19 C19 B19 V19 ⟨u19_0_b0,u19_0_b1,rfl,u19_0_h0,u19_0_h1⟩
 have hAu19_0_b0 : At (rd w19 Y12) ⟨u19_0_b0,0,none⟩ [.func (.func 61) #[] #[]] := (At.mono (Le.new C15.lt) u19_0_h0)
 have hAu19_0_b1 : At (rd w19 Y12) ⟨u19_0_b1,0,none⟩ [.int .i64 y18] := (At.mono (Le.new C15.lt) u19_0_h1)
 refine zz 2 <| zn (fun b => .slice (some ⟨b,0,none⟩) 2 2) (.cells #[.int .i64 p2,.int .i64 p3] 3 (0,0)) C19 fun b21 w21 Y21 C21 B21 V21 => zQ hp fun y23 hy23 hp => zc C21 (kT _ X0 (zM _) ([p2,p3]) _ ⟨_,_,rfl,(SlR.lit (El := sG) (size := 1) (n := 2) [⟨(p2 : Int),[.int .i64 p2]⟩,⟨(p3 : Int),[.int .i64 p3]⟩] (C21.at0 0 rfl rfl) (List.forall_mem_cons.2 ⟨⟨rfl,fun r2 h2 b o h9 => h9⟩,(List.forall_mem_cons.2 ⟨⟨rfl,fun r2 h2 b o h9 => h9⟩,(List.forall_mem_nil _)⟩)⟩) rfl (by decide))⟩ _ ((hAu19_0_b0.mono B21).mono Le.x0) y18 _ ((hAu19_0_b1.mono B21).mono Le.x0) y23 hy23) ?_ (vs := #[.slice (some ⟨b21,0,none⟩) 2 2,.pointer (some ⟨u19_0_b0,0,none⟩),.pointer (some ⟨u19_0_b1,0,none⟩)])
 rintro v24 w24 C24 B24 V24 rfl
 refine zz 5 <| zb 20 (b := !y23) (fun T25 => ?_) (fun T25 => ?_)
 have hp := ipb T25 hp
 refine zz 10 <| zr' (v := .tuple #[.slice none 0 0,.int .i64 1]) ?_
 cases hp
 exact ⟨C24.upd,_,rfl,⟨_,rfl,⟨_,_,rfl,(show vN _ none 0 0 [] from SlR.nil none (by decide))⟩⟩⟩
 have hp := iqb T25 hp
 refine zz 7 <| zo 2 C24 <| zz 1 <| zn (fun b => .slice (some ⟨b,0,none⟩) 1 1) (.cells #[.int .i64 p4] 3 (0,0)) C24 fun b27 w27 Y27 C27 B27 V27 => ?_
 have T1_ := (Le8 B3 B6 B10 B12 B15 B19 B21 B24).trans B27
 refine zQ hp fun y29 hy29 hp => zc C27 (pE _ X0 (zM _) p0 _ ((hVp0.mono T1_).mono Le.x0) ([p4]) _ ⟨_,_,rfl,(SlR.lit (El := sG) (size := 1) (n := 1) [⟨(p4 : Int),[.int .i64 p4]⟩] (C27.at0 0 rfl rfl) (List.forall_mem_cons.2 ⟨⟨rfl,fun r2 h2 b o h9 => h9⟩,(List.forall_mem_nil _)⟩) rfl (by decide))⟩ y29 hy29) ?_ (vs := #[.agg (qDr p0 D1 D2 D3 D4 D5 D6 D7 D8 D9 D10 D11 D12 D13 D14 D15 D16 D17 D18 D19 D20 D21 D22 D23 D24),.slice (some ⟨b27,0,none⟩) 1 1])
 rintro v30 w30 C30 B30 V30 rfl
 refine zz 9 <| zb 39 (b := ((y29) != 0)) (fun T31 => ?_) (fun T31 => ?_)
 have hp := ipb T31 hp
 refine zz 10 <| zr' (v := .tuple #[.slice none 0 0,.int .i64 y29]) ?_
 cases hp
 exact ⟨C30.upd,_,rfl,⟨_,rfl,⟨_,_,rfl,(show vN _ none 0 0 [] from SlR.nil none (by decide))⟩⟩⟩
 have hp := iqb T31 hp
 refine zz 5 <| zo 3 C30 <| zz 4 ?_
 have T2_ := T1_.trans B30
 refine zQ hp fun y33 hy33 hp => zc C30 (zCw _ X0 (zM _) p0 _ ((hVp0.mono T2_).mono Le.x0) (p1) (p2) (p3) (p4) y33 hy33) ?_
 rintro v34 w34 C34 B34 V34 ⟨uu34_0,rfl,⟨u34_0_1,u34_0_2,rfl,u34_0__h0⟩⟩
 refine zz 7 <| zr' (v := .tuple #[.slice u34_0_1 y33.1.length u34_0_2,.int .i64 y33.2]) ?_
 cases hp
 exact ⟨C34.upd,_,rfl,⟨_,rfl,⟨_,_,rfl,((u34_0__h0.mono (Le.own C30.lt C30.upd.size (Le.refl _)))).mono Le.orr⟩⟩⟩
noncomputable def xP (p0 : zO) (x11 : Int) (J13 : (List Raw) → Option ((List Raw) × Int)) : Nat → (List Raw) → Option ((List Raw) × Int)
 | 0,v21_0 => J13 v21_0
 | r21 + 1,v21_0 => (some (if (i64.wrap ((0 : Int) - x11)) > x11 then i64.wrap ((0 : Int) - x11) else x11)).bind fun z26 => if (z26) < p0.near then ((vV (1 : Int)).bind fun y29 => grd ((v21_0.length + 1) * 56 ≤ 140737488355328) <| xP p0 x11 J13 r21 (v21_0 ++ [y29])) else (grd ((v21_0.length + 1) * 56 ≤ 140737488355328) <| xP p0 x11 J13 r21 (v21_0 ++ [Raw.zero]))
noncomputable def vS (p0 : zO) (J8 : (List Raw) → Option ((List Raw) × Int)) : List Int → (List Raw) → Option ((List Raw) × Int)
 | [],v11_0 => J8 v11_0
 | x11 :: r11,v11_0 => lt (fun (v13_0 : List Raw) => vS p0 J8 r11 v13_0) fun J13 => (jK p0).bind fun y17 => grd ((p0.height.length : Int) ≠ 0) <| xP p0 x11 J13 ((i64.wrap (Int.tdiv y17 (p0.height.length : Int))).toNat - 0) v11_0
noncomputable def pO (p0 : zO) : Option ((List Raw) × Int) :=
 (qF p0).bind fun y5 => if ((y5) != 0) = true then (some (([] : List Raw),y5)) else (lt (fun (v8_0 : List Raw) => some (v8_0,0)) fun J8 => vS p0 J8 (p0.height.drop 0)  ([] : List Raw))
include hX in
theorem zBt (p0 : zO) (vp0 : Value) (hp0 : zW (rd w X) vp0 p0) (y : (List Raw) × Int) (hp : pO p0 = some y) : Calls Tryz.prog 31 #[vp0] w (Ret E0 w fun w' v => ∃ uu0,v = .tuple #[uu0,.int .i64 y.2] ∧ SV nO (rd w' (old w)) uu0 y.1) := by
 have hVp0 := hp0
 refine zW.op hp0 fun D1 D2 D3 D4 D5 D6 D7 D8 D9 D10 D11 D12 D13 D14 D15 D16 D17 D18 D19 D20 D21 D22 D23 D24 hv9 p0a_h0 p0a_h1 p0a_h2 p0a_h3 p0a_h4 p0a_h5 p0a_h6 p0a_h7 p0a_h8 p0a_h9 p0a_h10 p0a_h11 => ?_
 subst hv9
 unfold pO at hp
 refine zen Tryz.func31 ?_
 have C0 : St E0 w X w X [] := St.start hX
 refine zz 2 <| zn pn (.cells (qDr p0 D1 D2 D3 D4 D5 D6 D7 D8 D9 D10 D11 D12 D13 D14 D15 D16 D17 D18 D19 D20 D21 D22 D23 D24) 30 (0,0)) C0 fun b3 w3 Y3 C3 B3 V3 => zz 7 <| zo 0 C3 <| zQ hp fun y5 hy5 hp => zc C3 (vW _ X0 (zM _) p0 _ ((hVp0.mono B3).mono Le.x0) y5 hy5) ?_
 rintro v6 w6 C6 B6 V6 rfl
 refine zz 9 <| zb 11 (b := ((y5) != 0)) (fun T7 => ?_) (fun T7 => ?_)
 have hp := ipb T7 hp
 refine zz 10 <| zr' (v := .tuple #[.slice none 0 0,.int .i64 y5]) ?_
 cases hp
 exact ⟨C6.upd,_,rfl,⟨_,rfl,⟨_,_,rfl,nO.nil0⟩⟩⟩
 have hp := iqb T7 hp
 refine zz 3 ?_
 have C := rQ hp
 obtain ⟨J8,hJ8,hp⟩ := C
 refine yT (fun ((v8_0,rb8_0,ad8_0,m8_0,cap8_0) : (List Raw) × (List (Nat × Obj)) × (Option Addr) × Nat × Nat) => [(2,.slice ad8_0 m8_0 cap8_0)]) (fun (v8_0,rb8_0,ad8_0,m8_0,cap8_0) w1 => ∃ Y1 : Hid,St E0 w X w1 Y1 ((b3,.cells (qDr p0 D1 D2 D3 D4 D5 D6 D7 D8 D9 D10 D11 D12 D13 D14 D15 D16 D17 D18 D19 D20 D21 D22 D23 D24) 30 (0,0)) :: rb8_0) ∧ Le (rd w6 Y3) (rd w1 Y1) ∧ jX gI 28 3 (rd w1 (orN Y1 w.heap.size)) rb8_0 ad8_0 m8_0 cap8_0 v8_0 ∧ J8 v8_0 = some y) ?_ ?_
 rintro ⟨v8_0,rb8_0,ad8_0,m8_0,cap8_0⟩ w8 ⟨Y8,C8,B8,P8_0_0,hp⟩
 have hp := (hJ8 _).symm.trans hp
 refine zz 8 <| zr' (v := .tuple #[.slice ad8_0 m8_0 cap8_0,.int .i64 0]) ?_
 have C := St.pubGRN (A := [(b3,.cells (qDr p0 D1 D2 D3 D4 D5 D6 D7 D8 D9 D10 D11 D12 D13 D14 D15 D16 D17 D18 D19 D20 D21 D22 D23 D24) 30 (0,0))]) (B := []) (fun rb => ((b3,.cells (qDr p0 D1 D2 D3 D4 D5 D6 D7 D8 D9 D10 D11 D12 D13 D14 D15 D16 D17 D18 D19 D20 D21 D22 D23 D24) 30 (0,0)) :: rb)) C8 (fun _ => by simp only [List.append_assoc,List.cons_append,List.nil_append,List.append_nil]) P8_0_0 (Nat.le_refl _) gI.at
 obtain ⟨Y9,hSx9,B9,hRx9⟩ := C
 have C9 : St E0 w X w8 Y9 [(b3,.cells (qDr p0 D1 D2 D3 D4 D5 D6 D7 D8 D9 D10 D11 D12 D13 D14 D15 D16 D17 D18 D19 D20 D21 D22 D23 D24) 30 (0,0))] := hSx9
 have C := hRx9.hlen
 subst C
 have hR9 : nO (rd w8 (orN Y9 w.heap.size)) ad8_0 v8_0.length cap8_0 v8_0 := nO.ofSl hRx9
 cases hp
 exact ⟨C9.upd,_,rfl,⟨_,rfl,⟨_,_,rfl,((hR9.mono (Le.or (Le.refl _) _))).mono Le.orr⟩⟩⟩
 intro K10 H10
 refine zz 3 <| zo 0 C6 <| zz 5 ?_
 have hb11 : (p0.height.length : Int) ≤ 9223372036854775807 := rR (p0a_h0).hcap (p0a_h0).hbig
 refine zlp Tryz.f31 [K10] [1,1,9,1,0] (fun ((v11_0,k11,rb11_0,ad11_0,m11_0,cap11_0) : (List Raw) × Nat × (List (Nat × Obj)) × (Option Addr) × Nat × Nat) => [(1,.pointer (some ⟨b3,0,none⟩)),(2,.slice ad11_0 m11_0 cap11_0),(14,.slice D1 p0.height.length D2),(15,.int .i64 (p0.height.length : Int)),(16,.int .i64 (k11 : Int))]) (fun (v11_0,k11,rb11_0,ad11_0,m11_0,cap11_0) w1 => ∃ Y1 : Hid,St E0 w X w1 Y1 ((b3,.cells (qDr p0 D1 D2 D3 D4 D5 D6 D7 D8 D9 D10 D11 D12 D13 D14 D15 D16 D17 D18 D19 D20 D21 D22 D23 D24) 30 (0,0)) :: rb11_0) ∧ Le (rd w6 Y3) (rd w1 Y1) ∧ jX gI 28 3 (rd w1 (orN Y1 w.heap.size)) rb11_0 ad11_0 m11_0 cap11_0 v11_0 ∧ vS p0 J8 (p0.height.drop k11)  v11_0 = some y) (fun (v11_0,k11,rb11_0,ad11_0,m11_0,cap11_0) => p0.height.length - k11) (([] : List Raw),0,[],none,0,0) ?_ ?_
 exact ⟨_,C6,Le.refl _,jX.nil,hp⟩
 rintro ⟨v11_0,k11,rb11_0,ad11_0,m11_0,cap11_0⟩ w11 K11 H11 ⟨Y11,C11,B11,P11_0_0,hp⟩
 refine zz 6 <| zt 17 (p := (k11 : Int) < (p0.height.length : Int)) (fun Q12 => ?_) (fun Q12 => ?_)
 have C := xK (l := p0.height) (k := k11) (qR Q12)
 obtain ⟨x11,O11⟩ := C
 rw [wG O11,vS] at hp
 have L11 : (0 : Int) ≤ (k11 : Int) := Int.natCast_nonneg _
 refine zz 3 ?_
 have C := rQ hp
 obtain ⟨J13,hJ13,hp⟩ := C
 refine yT (fun ((v13_0,rb13_0,ad13_0,m13_0,cap13_0) : (List Raw) × (List (Nat × Obj)) × (Option Addr) × Nat × Nat) => [(2,.slice ad13_0 m13_0 cap13_0),(1,.pointer (some ⟨b3,0,none⟩)),(14,.slice D1 p0.height.length D2),(15,.int .i64 (p0.height.length : Int)),(16,.int .i64 (k11 : Int))]) (fun (v13_0,rb13_0,ad13_0,m13_0,cap13_0) w1 => ∃ Y1 : Hid,St E0 w X w1 Y1 ((b3,.cells (qDr p0 D1 D2 D3 D4 D5 D6 D7 D8 D9 D10 D11 D12 D13 D14 D15 D16 D17 D18 D19 D20 D21 D22 D23 D24) 30 (0,0)) :: rb13_0) ∧ Le (rd w11 Y11) (rd w1 Y1) ∧ jX gI 28 3 (rd w1 (orN Y1 w.heap.size)) rb13_0 ad13_0 m13_0 cap13_0 v13_0 ∧ J13 v13_0 = some y) ?_ ?_
 rintro ⟨v13_0,rb13_0,ad13_0,m13_0,cap13_0⟩ w13 ⟨Y13,C13,B13,P13_0_0,hp⟩
 have hp := (hJ13 _).symm.trans hp
 refine zz 2 <| zs 42 (v := .int .i64 (i64.wrap ((k11 : Int) + 1))) (v' := .int .i64 ((k11 : Int) + 1)) (zR (jE (wk0 k11) (wk1 Q12 hb11))) <| zz 2 <| zP (fun a h => H11 (v13_0,k11 + 1,rb13_0,ad13_0,m13_0,cap13_0) _ a h ⟨_,C13,(Le2 B11 B13),P13_0_0,hp⟩ ?_)
 exact vK Q12
 intro K14 H14
 refine zz 3 ?_
 have C := p0a_h0.opn O11
 obtain ⟨be15,oe15,rfl,B15,hEe15⟩ := C
 have hAe15 : At (rd w X) ⟨be15,oe15 + k11 * 1,none⟩ [.int .i64 x11] := hEe15
 refine zi (b := be15) (off := oe15) (len := p0.height.length) (cap := D2) (kd := .i64) (i := (k11 : Int)) 1 (oe15 + k11 * 1) ?_ (h0 := L11) (h1 := (jS L11 B15))
 refine zl ((hAe15.mono (Le3 B3 B6 B11))).cells <| zz 4 <| zEb [0] C11 <| gw 0 0 <| gz [2] <| gw 3 0 <| gz [4,6] ?_
 have T1_ := (Le2 B3 B6).trans B11
 refine zQ hp fun y17 hy17 hp => gC 1 (fun w16 Y16 _ C16 B16 => (sZ _ X0 (zM _) p0 _ ((hVp0.mono (T1_.trans B16)).mono Le.x0) y17 hy17)) ?_
 rintro v18 w16 Y18 w18 C16 B18 rfl
 have C := nC hp
 obtain ⟨hg19,hp⟩ := C
 refine gH (v := .int .i64 (i64.wrap (Int.tdiv y17 (p0.height.length : Int)))) 5 (fun w => zAn (a := y17) (b := (p0.height.length : Int)) rfl kr kr hg19 _) ?_
 refine yO (fun w20 Y20 C20 B20 => ?_)
 refine zz 2 ?_
 have hb21 : (i64.wrap (Int.tdiv y17 (p0.height.length : Int))) ≤ 9223372036854775807 := by first | exact zLk _ | omega
 refine zlp Tryz.f31 [K10,K11,K14] [1,1,9,1,0,0,1,1,9,0,1,1,0] (fun ((v21_0,k21,rb21_0,ad21_0,m21_0,cap21_0) : (List Raw) × Nat × (List (Nat × Obj)) × (Option Addr) × Nat × Nat) => [(1,.pointer (some ⟨b3,0,none⟩)),(2,.slice ad21_0 m21_0 cap21_0),(6,.int .i64 x11),(14,.slice (some ⟨be15,oe15,none⟩) p0.height.length D2),(15,.int .i64 (p0.height.length : Int)),(16,.int .i64 (k11 : Int)),(25,.int .i64 (i64.wrap (Int.tdiv y17 (p0.height.length : Int)))),(26,.int .i64 (k21 : Int))]) (fun (v21_0,k21,rb21_0,ad21_0,m21_0,cap21_0) w1 => ∃ Y1 : Hid,St E0 w X w1 Y1 ((b3,.cells (qDr p0 (some ⟨be15,oe15,none⟩) D2 D3 D4 D5 D6 D7 D8 D9 D10 D11 D12 D13 D14 D15 D16 D17 D18 D19 D20 D21 D22 D23 D24) 30 (0,0)) :: rb21_0) ∧ Le (rd w20 Y20) (rd w1 Y1) ∧ jX gI 28 3 (rd w1 (orN Y1 w.heap.size)) rb21_0 ad21_0 m21_0 cap21_0 v21_0 ∧ xP p0 x11 J13 ((i64.wrap (Int.tdiv y17 (p0.height.length : Int))).toNat - k21)  v21_0 = some y) (fun (v21_0,k21,rb21_0,ad21_0,m21_0,cap21_0) => (i64.wrap (Int.tdiv y17 (p0.height.length : Int))).toNat - k21) (v11_0,0,rb11_0,ad11_0,m11_0,cap11_0) ?_ ?_
 exact ⟨_,C20,Le.refl _,(P11_0_0.mono (Le.or (Le2 B18 B20) _)),hp⟩
 rintro ⟨v21_0,k21,rb21_0,ad21_0,m21_0,cap21_0⟩ w21 K21 H21 ⟨Y21,C21,B21,P21_0_0,hp⟩
 refine zz 6 <| zt 27 (p := (k21 : Int) < (i64.wrap (Int.tdiv y17 (p0.height.length : Int)))) (fun Q22 => ?_) (fun Q22 => ?_)
 have C := dG (N := (i64.wrap (Int.tdiv y17 (p0.height.length : Int)))) (k := k21) Q22
 obtain ⟨r21,hm21,hn21⟩ := C
 rw [hm21,xP] at hp
 refine zz 8 <| zn pn (.cells #[.bool false,.slice none 0 0,.slice none 0 0] 28 (0,0)) C21 fun b24 w24 Y24 C24 B24 V24 => zx 0 #[.bool false,.slice none 0 0,.slice none 0 0] C24 fun w25 C25 B25 => zQ hp fun z26 hz26 hp => zz 9 <| zs 32 (v := .int .i64 (if (i64.wrap ((0 : Int) - x11)) > x11 then i64.wrap ((0 : Int) - x11) else x11)) (v' := .int .i64 z26) (zR (Option.some.inj hz26)) <| zz 1 <| zo 1 C25 <| zz 3 ?_
 refine zt 35 (p := (z26) < p0.near) (fun Q27 => ?_) (fun Q27 => ?_)
 have hp := ip Q27 hp
 refine zz 2 <| zQ hp fun y29 hy29 hp => zc C25 (lF _ X0 (zM _) (1 : Int) y29 hy29) ?_
 rintro v30 w30 C30 B30 V30 ⟨u30_0_1,u30_0_2,u30_0_3,u30_0_4,u30_0_5,u30_0_6,rfl,u30_0__h0,u30_0__h1⟩
 have C := u30_0__h0.hlen
 subst C
 have C := u30_0__h1.hlen
 subst C
 refine zx 0 #[.bool y29.neg,.slice u30_0_1 y29.ln.length u30_0_3,.slice u30_0_4 y29.ld.length u30_0_6] C30 fun w31 C31 B31 => zz 4 <| zo 0 C31 <| zn (fun b => .slice (some ⟨b,0,none⟩) 1 1) (.cells #[.bool y29.neg,.slice u30_0_1 y29.ln.length u30_0_3,.slice u30_0_4 y29.ld.length u30_0_6] 28 (0,0)) C31 fun b33 w33 Y33 C33 B33 V33 => ?_
 have C := nC hp
 obtain ⟨hg35,hp⟩ := C
 have hln36 : m21_0 = v21_0.length := jX.len P21_0_0
 have T2_ := (Le4 B24 B25 B30 B31).trans B33
 have C := (P21_0_0.mono (Le.or T2_ _))
 obtain ⟨es36,hr36,hq36,hk36,hm36⟩ := C
 refine zop (at1 [K10,K11,K14,K21] Tryz.f31 [1,1,9,1,0,0,1,1,9,0,1,1,0,0,1,1,0,0,1,1]) 3 (fun a34 _ G34 hz34 => tK (b := 56) (m := 1) (c := 1) (ad := ⟨b33,0,none⟩) (news := [.bool y29.neg,.slice u30_0_1 y29.ln.length u30_0_3,.slice u30_0_4 y29.ld.length u30_0_6]) (i0 := Tryz.t28) (rb := rb21_0) (R1 := []) 3 G34 C33 rfl hr36 (C33.cells 0 rfl rfl) (lY hg35 hln36 rfl) (lX hg35 hln36) ?_)
 intro rb37 ad37 cap37 w37 Y37 F37 C37 B37 a38 G38
 have hg37 : jX gI 28 3 (rd w37 (orN Y37 w.heap.size)) rb37 ad37 (m21_0 + 1) cap37 (v21_0 ++ [y29]) := jX.snoc F37 hq36 hk36 hm36 (Le.or B37 _) ⟨rfl,fun r2 h2 => ⟨_,_,_,_,_,_,rfl,((u30_0__h0.mono (Le.own C25.lt C25.upd.size (Le3 B31 B33 B37))).mono h2),((u30_0__h1.mono (Le.own C25.lt C25.upd.size (Le3 B31 B33 B37))).mono h2)⟩⟩
 refine hz34 G38 <| zz 6 <| zs 41 (v := .int .i64 (i64.wrap ((k21 : Int) + 1))) (v' := .int .i64 ((k21 : Int) + 1)) (zR (jE (wk0 k21) (wk1 Q22 hb21))) <| zz 2 ?_
 have T3_ := (Le6 B21 B24 B25 B30 B31 B33).trans B37
 refine zP (fun a h => H21 ((v21_0 ++ [y29]),k21 + 1,rb37,ad37,(m21_0 + 1),cap37) _ a h ⟨_,C37.tail.tail,T3_,hg37,(by rw [hn21]; exact hp)⟩ ?_)
 exact lD Q22
 have hp := iq Q27 hp
 refine zz 5 <| zo 0 C25 <| zn (fun b => .slice (some ⟨b,0,none⟩) 1 1) (.cells #[.bool false,.slice none 0 0,.slice none 0 0] 28 (0,0)) C25 fun b40 w40 Y40 C40 B40 V40 => ?_
 have C := nC hp
 obtain ⟨hg42,hp⟩ := C
 have hln43 : m21_0 = v21_0.length := jX.len P21_0_0
 have C := (P21_0_0.mono (Le.or (Le3 B24 B25 B40) _))
 obtain ⟨es43,hr43,hq43,hk43,hm43⟩ := C
 refine zop (at1 [K10,K11,K14,K21] Tryz.f31 [1,1,9,1,0,0,1,1,9,0,1,1,0,0,1,1,0,0,1,1]) 3 (fun a41 _ G41 hz41 => tK (b := 56) (m := 1) (c := 1) (ad := ⟨b40,0,none⟩) (news := [.bool false,.slice none 0 0,.slice none 0 0]) (i0 := Tryz.t28) (rb := rb21_0) (R1 := []) 3 G41 C40 rfl hr43 (C40.cells 0 rfl rfl) (lY hg42 hln43 rfl) (lX hg42 hln43) ?_)
 intro rb44 ad44 cap44 w44 Y44 F44 C44 B44 a45 G45
 have hg44 : jX gI 28 3 (rd w44 (orN Y44 w.heap.size)) rb44 ad44 (m21_0 + 1) cap44 (v21_0 ++ [Raw.zero]) := jX.snoc F44 hq43 hk43 hm43 (Le.or B44 _) ⟨rfl,fun r2 h2 => ⟨_,_,_,_,_,_,rfl,(zL.nil0.mono h2),(zL.nil0.mono h2)⟩⟩
 refine hz41 G45 <| zz 6 <| zs 41 (v := .int .i64 (i64.wrap ((k21 : Int) + 1))) (v' := .int .i64 ((k21 : Int) + 1)) (zR (jE (wk0 k21) (wk1 Q22 hb21))) <| zz 2 ?_
 have T4_ := (Le4 B21 B24 B25 B40).trans B44
 refine zP (fun a h => H21 ((v21_0 ++ [Raw.zero]),k21 + 1,rb44,ad44,(m21_0 + 1),cap44) _ a h ⟨_,C44.tail.tail,T4_,hg44,(by rw [hn21]; exact hp)⟩ ?_)
 exact lD Q22
 rw [fV (N := (i64.wrap (Int.tdiv y17 (p0.height.length : Int)))) Q22,xP] at hp
 refine zz 6 ?_
 exact zP (fun a h => H14 (v21_0,rb21_0,ad21_0,m21_0,cap21_0) _ a h ⟨_,C21,(Le3 B18 B20 B21),P21_0_0,hp⟩)
 rw [List.drop_eq_nil_of_le (qI Q12),vS] at hp
 refine zz 5 ?_
 exact zP (fun a h => H10 (v11_0,rb11_0,ad11_0,m11_0,cap11_0) _ a h ⟨_,C11,B11,P11_0_0,hp⟩)
end
section
variable (w : World) (X : Hid) (hX : ∀ k o,X k o → k < w.heap.size)
set_option maxHeartbeats 1000000
noncomputable def vG (p0 : Out) (p1 : Out) : Option (Bool) :=
 if ((p0.to) == p1.to) = true then ((zY p0.p p1.p).bind fun y8 => some y8) else (some false)
include hX in
theorem fK (p0 : Out) (vp0 : Value) (hp0 : zTn (rd w X) vp0 p0) (p1 : Out) (vp1 : Value) (hp1 : zTn (rd w X) vp1 p1) (y : Bool) (hp : vG p0 p1 = some y) : Calls Tryz.prog 69 #[vp0,vp1] w (Ret E0 w fun _ v => v = .bool y) := by
 have hVp0 := hp0
 obtain ⟨D1,D2,D3,D4,D5,D6,rfl,p0a_h0,p0a_h1⟩ := hp0
 have C := p0a_h0.hlen
 subst C
 have C := p0a_h1.hlen
 subst C
 have hVp1 := hp1
 obtain ⟨p1a1,p1a2,p1a3,p1a4,p1a5,p1a6,rfl,p1a_h0,p1a_h1⟩ := hp1
 have C := p1a_h0.hlen
 subst C
 have C := p1a_h1.hlen
 subst C
 unfold vG at hp
 refine zen Tryz.func69 ?_
 have C0 : St E0 w X w X [] := St.start hX
 refine zz 2 <| zn pn (.cells #[.int .i64 p0.to,.bool p0.p.neg,.slice D1 p0.p.ln.length D3,.slice D4 p0.p.ld.length D6] 80 (0,0)) C0 fun b3 w3 Y3 C3 B3 V3 => zn pn (.cells #[.int .i64 p1.to,.bool p1.p.neg,.slice p1a1 p1.p.ln.length p1a3,.slice p1a4 p1.p.ld.length p1a6] 80 (0,0)) C3 fun b5 w5 Y5 C5 B5 V5 => zz 6 <| zo 1 C5 <| zz 1 <| zo 0 C5 <| zz 2 <| zb 10 (b := ((p0.to) == p1.to)) (fun T6 => ?_) (fun T6 => ?_)
 have hp := ipb T6 hp
 refine zz 1 <| zo 1 C5 <| zz 1 <| zo 0 C5 <| zQ hp fun y8 hy8 hp => zc C5 (qB _ X0 (zM _) p0.p _ ⟨_,_,_,_,_,_,rfl,((p0a_h0.mono (Le2 B3 B5)).mono Le.x0),((p0a_h1.mono (Le2 B3 B5)).mono Le.x0)⟩ p1.p _ ⟨_,_,_,_,_,_,rfl,((p1a_h0.mono (Le2 B3 B5)).mono Le.x0),((p1a_h1.mono (Le2 B3 B5)).mono Le.x0)⟩ y8 hy8) ?_
 rintro v9 w9 C9 B9 V9 rfl
 refine zz 5 <| zr' (v := .bool y8) ?_
 cases hp
 exact ⟨C9.upd,_,rfl,rfl⟩
 have hp := iqb T6 hp
 refine zz 10 <| zr' (v := .bool false) ?_
 cases hp
 exact ⟨C5.upd,_,rfl,rfl⟩
noncomputable def jD (p1 : List Out) (J3 : Option (Bool)) : List Out → Nat → Option (Bool)
 | [],k5 => J3
 | x5 :: r5,k5 => (ix p1 (k5 : Int)).bind fun x8 => (vG x5 x8).bind fun y11 => if (!y11) = true then (some false) else (jD p1 J3 r5 (k5 + 1))
noncomputable def jW (p0 : List Out) (p1 : List Out) : Option (Bool) :=
 if ((p0.length : Int) != (p1.length : Int)) = true then (some false) else (lt (some true) fun J3 => jD p1 J3 (p0.drop 0) 0)
include hX in
theorem wN (p0 : List Out) (vp0 : Value) (hp0 : SV vN (rd w X) vp0 p0) (p1 : List Out) (vp1 : Value) (hp1 : SV vN (rd w X) vp1 p1) (y : Bool) (hp : jW p0 p1 = some y) : Calls Tryz.prog 24 #[vp0,vp1] w (Ret E0 w fun _ v => v = .bool y) := by
 obtain ⟨D1,D2,rfl,p0a_h0⟩ := hp0
 obtain ⟨p1a1,p1a2,rfl,p1a_h0⟩ := hp1
 unfold jW at hp
 refine zen Tryz.func24 ?_
 have C0 : St E0 w X w X [] := St.start hX
 refine zz 15 <| zb 10 (b := ((p0.length : Int) != (p1.length : Int))) (fun T2 => ?_) (fun T2 => ?_)
 have hp := ipb T2 hp
 refine zz 8 <| zr' (v := .bool false) ?_
 cases hp
 exact ⟨C0.upd,_,rfl,rfl⟩
 have hp := iqb T2 hp
 refine zz 3 ?_
 have C := fG hp
 obtain ⟨J3,hJ3,hp⟩ := C
 refine yT (fun (_ : Unit) => []) (fun _ w1 => ∃ Y1 : Hid,St E0 w X w1 Y1 [] ∧ Le (rd w X) (rd w1 Y1) ∧ J3 = some y) ?_ ?_
 rintro _ w3 ⟨Y3,C3,B3,hp⟩
 have hp := hJ3.symm.trans hp
 refine zz 6 <| zr' (v := .bool true) ?_
 cases hp
 exact ⟨C3.upd,_,rfl,rfl⟩
 intro K4 H4
 refine zz 6 ?_
 have hb5 : (p0.length : Int) ≤ 9223372036854775807 := rR (p0a_h0).hcap (p0a_h0).hbig
 refine zlp Tryz.f24 [K4] [1,1,9,1,0] (fun (k5 : Nat) => [(0,.slice D1 p0.length D2),(1,.slice p1a1 p1.length p1a2),(5,.int .i64 (k5 : Int))]) (fun k5 w1 => ∃ Y1 : Hid,St E0 w X w1 Y1 [] ∧ Le (rd w X) (rd w1 Y1) ∧ jD p1 J3 (p0.drop k5) k5 = some y) (fun k5 => p0.length - k5) 0 ?_ ?_
 exact ⟨_,C0,Le.refl _,hp⟩
 rintro k5 w5 K5 H5 ⟨Y5,C5,B5,hp⟩
 refine zz 9 <| zt 14 (p := (k5 : Int) < (p0.length : Int)) (fun Q6 => ?_) (fun Q6 => ?_)
 have C := xK (l := p0) (k := k5) (qR Q6)
 obtain ⟨x5,O5⟩ := C
 rw [wG O5,jD] at hp
 have L5 : (0 : Int) ≤ (k5 : Int) := Int.natCast_nonneg _
 refine zz 6 <| zdr C5 ?_
 have C := p0a_h0.opn O5
 obtain ⟨be7,oe7,rfl,B7,hEe7⟩ := C
 obtain ⟨e71,e72,e73,e74,e75,e76,e7_at,e7_h0,e7_h1⟩ := hEe7
 have C := e7_h0.hlen
 subst C
 have C := e7_h1.hlen
 subst C
 refine gz [0,1] <| gi 2 (b := be7) (off := oe7) (len := p0.length) (cap := D2) (kd := .i64) (i := (k5 : Int)) 4 (oe7 + k5 * 4) ?_ (h0 := L5) (h1 := (jS L5 B7))
 refine gl 3 ((e7_at.mono B5)) <| zQ hp fun x8 hx8 hp => ?_
 have C := jU hx8
 obtain ⟨L8,O8⟩ := C
 have hwx8 : p1[k5]? = some x8 := O8
 have C := p1a_h0.opn hwx8
 obtain ⟨be9,oe9,rfl,B9,hEe9⟩ := C
 obtain ⟨e91,e92,e93,e94,e95,e96,e9_at,e9_h0,e9_h1⟩ := hEe9
 have C := e9_h0.hlen
 subst C
 have C := e9_h1.hlen
 subst C
 refine gz [4,5] <| gi 6 (b := be9) (off := oe9) (len := p1.length) (cap := p1a2) (kd := .i64) (i := (k5 : Int)) 4 (oe9 + k5 * 4) ?_ (h0 := L8) (h1 := (jS L8 B9))
 refine gl 7 ((e9_at.mono B5)) <| zQ hp fun y11 hy11 hp => gC 8 (fun w10 Y10 _ C10 B10 => (fK _ X0 (zM _) x5 _ ⟨_,_,_,_,_,_,rfl,((e7_h0.mono (Le2 B5 B10)).mono Le.x0),((e7_h1.mono (Le2 B5 B10)).mono Le.x0)⟩ x8 _ ⟨_,_,_,_,_,_,rfl,((e9_h0.mono (Le2 B5 B10)).mono Le.x0),((e9_h1.mono (Le2 B5 B10)).mono Le.x0)⟩ y11 hy11)) ?_
 rintro v12 w10 Y12 w12 C10 B12 rfl
 refine gz [9] ?_
 refine yO (fun w13 Y13 C13 B13 => ?_)
 refine zz 1 <| zb 26 (b := !y11) (fun T14 => ?_) (fun T14 => ?_)
 have hp := ipb T14 hp
 refine zz 12 <| zr' (v := .bool false) ?_
 cases hp
 exact ⟨C13.upd,_,rfl,rfl⟩
 have hp := iqb T14 hp
 refine zz 7 <| zs 16 (v := .int .i64 (i64.wrap ((k5 : Int) + 1))) (v' := .int .i64 ((k5 : Int) + 1)) (zR (jE (wk0 k5) (wk1 Q6 hb5))) <| zz 2 <| zP (fun a h => H5 (k5 + 1) _ a h ⟨_,C13,(Le3 B5 B12 B13),hp⟩ ?_)
 exact vK Q6
 rw [List.drop_eq_nil_of_le (qI Q6),jD] at hp
 refine zz 5 ?_
 exact zP (fun a h => H4 () _ a h ⟨_,C5,B5,hp⟩)
noncomputable def jY (y30 : (List Raw) × Int) (J60 : Option (Bool)) : Nat → Nat → Option (Bool)
 | 0,k101 => J60
 | r101 + 1,k101 => if (k101 : Int) ≥ 4 then ((ix y30.1 (k101 : Int)).bind fun x104 => (vV (1 : Int)).bind fun y107 => (zY x104 y107).bind fun y110 => if (!((decide ((k101 : Int) ≤ 7)) == y110)) = true then (some false) else (if (k101 : Int) < 4 then ((zY x104 Raw.zero).bind fun y116 => if (!(true == y116)) = true then (some false) else (jY y30 J60 r101 (k101 + 1))) else ((zY x104 Raw.zero).bind fun y121 => if (!((decide ((k101 : Int) > 7)) == y121)) = true then (some false) else (jY y30 J60 r101 (k101 + 1))))) else ((ix y30.1 (k101 : Int)).bind fun x125 => (vV (1 : Int)).bind fun y128 => (zY x125 y128).bind fun y131 => if (!(false == y131)) = true then (some false) else (if (k101 : Int) < 4 then ((zY x125 Raw.zero).bind fun y137 => if (!(true == y137)) = true then (some false) else (jY y30 J60 r101 (k101 + 1))) else ((zY x125 Raw.zero).bind fun y142 => if (!((decide ((k101 : Int) > 7)) == y142)) = true then (some false) else (jY y30 J60 r101 (k101 + 1)))))
noncomputable def xU : Option (Bool) :=
 (yG).bind fun y3 => (xY y3).bind fun y6 => (yG).bind fun y9 => (xF y9 (0 : Int) (1 : Int)).bind fun y12 => (yG).bind fun y15 => (qZ y15 (100 : Int) (10 : Int) (0 : Int) (0 : Int)).bind fun y18 => (yG).bind fun y21 => (qZ y21 (0 : Int) (0 : Int) (0 : Int) (1 : Int)).bind fun y24 => (yG).bind fun y27 => (pO y27).bind fun y30 => (yG).bind fun y33 => (yE y33 (0 : Int) (1 : Int)).bind fun y36 => (yG).bind fun y42 => (yE y42 (1 : Int) (1 : Int)).bind fun y45 => if ((y6.1) != 12) = true then (some false) else (if ((y6.2) != 0) = true then (some false) else (if ((y12.1) != 5) = true then (some false) else (if ((y12.2) != 0) = true then (some false) else (if ((y18.2) != 0) = true then (some false) else (if ((y24.2) != 0) = true then (some false) else (if ((y30.2) != 0) = true then (some false) else (if ((y36.2) != 0) = true then (some false) else (if ((y45.2) != 0) = true then (some false) else (if ((y30.1.length : Int) != 12) = true then (some false) else (lt ((kL (1 : Int) (10 : Int)).bind fun y62 => (kL (9 : Int) (10 : Int)).bind fun y65 => (jW y18.1 ([(Out.mk 6 y62),(Out.mk 10 y65)])).bind fun y69 => if y69 = true then ((kL (1 : Int) (2 : Int)).bind fun y73 => (kL (1 : Int) (2 : Int)).bind fun y76 => (jW y24.1 ([(Out.mk 5 y73),(Out.mk 7 y76)])).bind fun y80 => if y80 = true then ((kL (1 : Int) (10 : Int)).bind fun y84 => (zY y36.1 y84).bind fun y87 => if y87 = true then ((kL (1 : Int) (10 : Int)).bind fun y91 => (zY y45.1 y91).bind fun y94 => some y94) else (some false)) else (some false)) else (some false)) fun J60 => jY y30 J60 ((12 : Int).toNat - 0) 0))))))))))
include hX in
theorem mP  (y : Bool) (hp : xU = some y) : Calls Tryz.prog 7 #[] w (Ret E0 w fun _ v => v = .bool y) := by
 unfold xU at hp
 refine zen Tryz.func7 ?_
 have C0 : St E0 w X w X [] := St.start hX
 refine zz 7 <| zQ hp fun y3 hy3 hp => zc C0 (kU _ X0 (zM _)  y3 hy3) ?_
 rintro v4 w4 C4 B4 V4 u4_0_o
 refine zW.op u4_0_o fun u4_0_1 u4_0_2 u4_0_3 u4_0_4 u4_0_5 u4_0_6 u4_0_7 u4_0_8 u4_0_9 u4_0_10 u4_0_11 u4_0_12 u4_0_13 u4_0_14 u4_0_15 u4_0_16 u4_0_17 u4_0_18 u4_0_19 u4_0_20 u4_0_21 u4_0_22 u4_0_23 u4_0_24 hv9 u4_0__h0 u4_0__h1 u4_0__h2 u4_0__h3 u4_0__h4 u4_0__h5 u4_0__h6 u4_0__h7 u4_0__h8 u4_0__h9 u4_0__h10 u4_0__h11 => ?_
 subst hv9
 refine zQ hp fun y6 hy6 hp => zc C4 (aM _ X0 (zM _) y3 _ ⟨_,_,_,_,_,_,_,_,_,_,_,_,_,_,_,_,_,_,_,_,_,_,_,_,rfl,((u4_0__h0.mono (Le.new C0.lt)).mono Le.x0),((u4_0__h1.mono (Le.new C0.lt)).mono Le.x0),((u4_0__h2.mono (Le.new C0.lt)).mono Le.x0),((u4_0__h3.mono (Le.new C0.lt)).mono Le.x0),((u4_0__h4.mono (Le.new C0.lt)).mono Le.x0),((u4_0__h5.mono (Le.new C0.lt)).mono Le.x0),((u4_0__h6.mono (Le.new C0.lt)).mono Le.x0),((u4_0__h7.mono (Le.new C0.lt)).mono Le.x0),((u4_0__h8.mono (Le.new C0.lt)).mono Le.x0),((u4_0__h9.mono (Le.new C0.lt)).mono Le.x0),((u4_0__h10.mono (Le.new C0.lt)).mono Le.x0),((u4_0__h11.mono (Le.new C0.lt)).mono Le.x0)⟩ y6 hy6) ?_
 rintro v7 w7 C7 B7 V7 rfl
 refine zz 9 <| zQ hp fun y9 hy9 hp => zc C7 (kU _ X0 (zM _)  y9 hy9) ?_
 rintro v10 w10 C10 B10 V10 u10_0_o
 refine zW.op u10_0_o fun u10_0_1 u10_0_2 u10_0_3 u10_0_4 u10_0_5 u10_0_6 u10_0_7 u10_0_8 u10_0_9 u10_0_10 u10_0_11 u10_0_12 u10_0_13 u10_0_14 u10_0_15 u10_0_16 u10_0_17 u10_0_18 u10_0_19 u10_0_20 u10_0_21 u10_0_22 u10_0_23 u10_0_24 hv9 u10_0__h0 u10_0__h1 u10_0__h2 u10_0__h3 u10_0__h4 u10_0__h5 u10_0__h6 u10_0__h7 u10_0__h8 u10_0__h9 u10_0__h10 u10_0__h11 => ?_
 subst hv9
 refine zQ hp fun y12 hy12 hp => zc C10 (fF _ X0 (zM _) y9 _ ⟨_,_,_,_,_,_,_,_,_,_,_,_,_,_,_,_,_,_,_,_,_,_,_,_,rfl,((u10_0__h0.mono (Le.new C7.lt)).mono Le.x0),((u10_0__h1.mono (Le.new C7.lt)).mono Le.x0),((u10_0__h2.mono (Le.new C7.lt)).mono Le.x0),((u10_0__h3.mono (Le.new C7.lt)).mono Le.x0),((u10_0__h4.mono (Le.new C7.lt)).mono Le.x0),((u10_0__h5.mono (Le.new C7.lt)).mono Le.x0),((u10_0__h6.mono (Le.new C7.lt)).mono Le.x0),((u10_0__h7.mono (Le.new C7.lt)).mono Le.x0),((u10_0__h8.mono (Le.new C7.lt)).mono Le.x0),((u10_0__h9.mono (Le.new C7.lt)).mono Le.x0),((u10_0__h10.mono (Le.new C7.lt)).mono Le.x0),((u10_0__h11.mono (Le.new C7.lt)).mono Le.x0)⟩ (0 : Int) (1 : Int) y12 hy12) ?_
 rintro v13 w13 C13 B13 V13 rfl
 refine zz 9 <| zQ hp fun y15 hy15 hp => zc C13 (kU _ X0 (zM _)  y15 hy15) ?_
 rintro v16 w16 C16 B16 V16 u16_0_o
 refine zW.op u16_0_o fun u16_0_1 u16_0_2 u16_0_3 u16_0_4 u16_0_5 u16_0_6 u16_0_7 u16_0_8 u16_0_9 u16_0_10 u16_0_11 u16_0_12 u16_0_13 u16_0_14 u16_0_15 u16_0_16 u16_0_17 u16_0_18 u16_0_19 u16_0_20 u16_0_21 u16_0_22 u16_0_23 u16_0_24 hv9 u16_0__h0 u16_0__h1 u16_0__h2 u16_0__h3 u16_0__h4 u16_0__h5 u16_0__h6 u16_0__h7 u16_0__h8 u16_0__h9 u16_0__h10 u16_0__h11 => ?_
 subst hv9
 refine zQ hp fun y18 hy18 hp => zc C16 (mI _ X0 (zM _) y15 _ ⟨_,_,_,_,_,_,_,_,_,_,_,_,_,_,_,_,_,_,_,_,_,_,_,_,rfl,((u16_0__h0.mono (Le.new C13.lt)).mono Le.x0),((u16_0__h1.mono (Le.new C13.lt)).mono Le.x0),((u16_0__h2.mono (Le.new C13.lt)).mono Le.x0),((u16_0__h3.mono (Le.new C13.lt)).mono Le.x0),((u16_0__h4.mono (Le.new C13.lt)).mono Le.x0),((u16_0__h5.mono (Le.new C13.lt)).mono Le.x0),((u16_0__h6.mono (Le.new C13.lt)).mono Le.x0),((u16_0__h7.mono (Le.new C13.lt)).mono Le.x0),((u16_0__h8.mono (Le.new C13.lt)).mono Le.x0),((u16_0__h9.mono (Le.new C13.lt)).mono Le.x0),((u16_0__h10.mono (Le.new C13.lt)).mono Le.x0),((u16_0__h11.mono (Le.new C13.lt)).mono Le.x0)⟩ (100 : Int) (10 : Int) (0 : Int) (0 : Int) y18 hy18) ?_
 rintro v19 w19 C19 B19 V19 ⟨uu19_0,rfl,⟨u19_0_1,u19_0_2,rfl,u19_0__h0⟩⟩
 refine zz 9 <| zQ hp fun y21 hy21 hp => zc C19 (kU _ X0 (zM _)  y21 hy21) ?_
 rintro v22 w22 C22 B22 V22 u22_0_o
 refine zW.op u22_0_o fun u22_0_1 u22_0_2 u22_0_3 u22_0_4 u22_0_5 u22_0_6 u22_0_7 u22_0_8 u22_0_9 u22_0_10 u22_0_11 u22_0_12 u22_0_13 u22_0_14 u22_0_15 u22_0_16 u22_0_17 u22_0_18 u22_0_19 u22_0_20 u22_0_21 u22_0_22 u22_0_23 u22_0_24 hv9 u22_0__h0 u22_0__h1 u22_0__h2 u22_0__h3 u22_0__h4 u22_0__h5 u22_0__h6 u22_0__h7 u22_0__h8 u22_0__h9 u22_0__h10 u22_0__h11 => ?_
 subst hv9
 refine zQ hp fun y24 hy24 hp => zc C22 (mI _ X0 (zM _) y21 _ ⟨_,_,_,_,_,_,_,_,_,_,_,_,_,_,_,_,_,_,_,_,_,_,_,_,rfl,((u22_0__h0.mono (Le.new C19.lt)).mono Le.x0),((u22_0__h1.mono (Le.new C19.lt)).mono Le.x0),((u22_0__h2.mono (Le.new C19.lt)).mono Le.x0),((u22_0__h3.mono (Le.new C19.lt)).mono Le.x0),((u22_0__h4.mono (Le.new C19.lt)).mono Le.x0),((u22_0__h5.mono (Le.new C19.lt)).mono Le.x0),((u22_0__h6.mono (Le.new C19.lt)).mono Le.x0),((u22_0__h7.mono (Le.new C19.lt)).mono Le.x0),((u22_0__h8.mono (Le.new C19.lt)).mono Le.x0),((u22_0__h9.mono (Le.new C19.lt)).mono Le.x0),((u22_0__h10.mono (Le.new C19.lt)).mono Le.x0),((u22_0__h11.mono (Le.new C19.lt)).mono Le.x0)⟩ (0 : Int) (0 : Int) (0 : Int) (1 : Int) y24 hy24) ?_
 rintro v25 w25 C25 B25 V25 ⟨uu25_0,rfl,⟨u25_0_1,u25_0_2,rfl,u25_0__h0⟩⟩
 refine zz 9 <| zQ hp fun y27 hy27 hp => zc C25 (kU _ X0 (zM _)  y27 hy27) ?_
 rintro v28 w28 C28 B28 V28 u28_0_o
 refine zW.op u28_0_o fun u28_0_1 u28_0_2 u28_0_3 u28_0_4 u28_0_5 u28_0_6 u28_0_7 u28_0_8 u28_0_9 u28_0_10 u28_0_11 u28_0_12 u28_0_13 u28_0_14 u28_0_15 u28_0_16 u28_0_17 u28_0_18 u28_0_19 u28_0_20 u28_0_21 u28_0_22 u28_0_23 u28_0_24 hv9 u28_0__h0 u28_0__h1 u28_0__h2 u28_0__h3 u28_0__h4 u28_0__h5 u28_0__h6 u28_0__h7 u28_0__h8 u28_0__h9 u28_0__h10 u28_0__h11 => ?_
 subst hv9
 refine zQ hp fun y30 hy30 hp => zc C28 (zBt _ X0 (zM _) y27 _ ⟨_,_,_,_,_,_,_,_,_,_,_,_,_,_,_,_,_,_,_,_,_,_,_,_,rfl,((u28_0__h0.mono (Le.new C25.lt)).mono Le.x0),((u28_0__h1.mono (Le.new C25.lt)).mono Le.x0),((u28_0__h2.mono (Le.new C25.lt)).mono Le.x0),((u28_0__h3.mono (Le.new C25.lt)).mono Le.x0),((u28_0__h4.mono (Le.new C25.lt)).mono Le.x0),((u28_0__h5.mono (Le.new C25.lt)).mono Le.x0),((u28_0__h6.mono (Le.new C25.lt)).mono Le.x0),((u28_0__h7.mono (Le.new C25.lt)).mono Le.x0),((u28_0__h8.mono (Le.new C25.lt)).mono Le.x0),((u28_0__h9.mono (Le.new C25.lt)).mono Le.x0),((u28_0__h10.mono (Le.new C25.lt)).mono Le.x0),((u28_0__h11.mono (Le.new C25.lt)).mono Le.x0)⟩ y30 hy30) ?_
 rintro v31 w31 C31 B31 V31 ⟨uu31_0,rfl,⟨u31_0_1,u31_0_2,rfl,u31_0__h0⟩⟩
 refine zz 9 <| zQ hp fun y33 hy33 hp => zc C31 (kU _ X0 (zM _)  y33 hy33) ?_
 rintro v34 w34 C34 B34 V34 u34_0_o
 refine zW.op u34_0_o fun u34_0_1 u34_0_2 u34_0_3 u34_0_4 u34_0_5 u34_0_6 u34_0_7 u34_0_8 u34_0_9 u34_0_10 u34_0_11 u34_0_12 u34_0_13 u34_0_14 u34_0_15 u34_0_16 u34_0_17 u34_0_18 u34_0_19 u34_0_20 u34_0_21 u34_0_22 u34_0_23 u34_0_24 hv9 u34_0__h0 u34_0__h1 u34_0__h2 u34_0__h3 u34_0__h4 u34_0__h5 u34_0__h6 u34_0__h7 u34_0__h8 u34_0__h9 u34_0__h10 u34_0__h11 => ?_
 subst hv9
 refine zQ hp fun y36 hy36 hp => zc C34 (gB _ X0 (zM _) y33 _ ⟨_,_,_,_,_,_,_,_,_,_,_,_,_,_,_,_,_,_,_,_,_,_,_,_,rfl,((u34_0__h0.mono (Le.new C31.lt)).mono Le.x0),((u34_0__h1.mono (Le.new C31.lt)).mono Le.x0),((u34_0__h2.mono (Le.new C31.lt)).mono Le.x0),((u34_0__h3.mono (Le.new C31.lt)).mono Le.x0),((u34_0__h4.mono (Le.new C31.lt)).mono Le.x0),((u34_0__h5.mono (Le.new C31.lt)).mono Le.x0),((u34_0__h6.mono (Le.new C31.lt)).mono Le.x0),((u34_0__h7.mono (Le.new C31.lt)).mono Le.x0),((u34_0__h8.mono (Le.new C31.lt)).mono Le.x0),((u34_0__h9.mono (Le.new C31.lt)).mono Le.x0),((u34_0__h10.mono (Le.new C31.lt)).mono Le.x0),((u34_0__h11.mono (Le.new C31.lt)).mono Le.x0)⟩ (0 : Int) (1 : Int) y36 hy36) ?_
 rintro v37 w37 C37 B37 V37 ⟨uu37_0,rfl,⟨u37_0_1,u37_0_2,u37_0_3,u37_0_4,u37_0_5,u37_0_6,rfl,u37_0__h0,u37_0__h1⟩⟩
 have C := u37_0__h0.hlen
 subst C
 have C := u37_0__h1.hlen
 subst C
 refine zz 3 <| zn pn (.cells #[.bool false,.slice none 0 0,.slice none 0 0] 28 (0,0)) C37 fun b39 w39 Y39 C39 B39 V39 => zx 0 #[.bool y36.1.neg,.slice u37_0_1 y36.1.ln.length u37_0_3,.slice u37_0_4 y36.1.ld.length u37_0_6] C39 fun w40 C40 B40 => zz 5 <| zQ hp fun y42 hy42 hp => zc C40 (kU _ X0 (zM _)  y42 hy42) ?_
 rintro v43 w43 C43 B43 V43 u43_0_o
 refine zW.op u43_0_o fun u43_0_1 u43_0_2 u43_0_3 u43_0_4 u43_0_5 u43_0_6 u43_0_7 u43_0_8 u43_0_9 u43_0_10 u43_0_11 u43_0_12 u43_0_13 u43_0_14 u43_0_15 u43_0_16 u43_0_17 u43_0_18 u43_0_19 u43_0_20 u43_0_21 u43_0_22 u43_0_23 u43_0_24 hv9 u43_0__h0 u43_0__h1 u43_0__h2 u43_0__h3 u43_0__h4 u43_0__h5 u43_0__h6 u43_0__h7 u43_0__h8 u43_0__h9 u43_0__h10 u43_0__h11 => ?_
 subst hv9
 refine zQ hp fun y45 hy45 hp => zc C43 (gB _ X0 (zM _) y42 _ ⟨_,_,_,_,_,_,_,_,_,_,_,_,_,_,_,_,_,_,_,_,_,_,_,_,rfl,((u43_0__h0.mono (Le.new C40.lt)).mono Le.x0),((u43_0__h1.mono (Le.new C40.lt)).mono Le.x0),((u43_0__h2.mono (Le.new C40.lt)).mono Le.x0),((u43_0__h3.mono (Le.new C40.lt)).mono Le.x0),((u43_0__h4.mono (Le.new C40.lt)).mono Le.x0),((u43_0__h5.mono (Le.new C40.lt)).mono Le.x0),((u43_0__h6.mono (Le.new C40.lt)).mono Le.x0),((u43_0__h7.mono (Le.new C40.lt)).mono Le.x0),((u43_0__h8.mono (Le.new C40.lt)).mono Le.x0),((u43_0__h9.mono (Le.new C40.lt)).mono Le.x0),((u43_0__h10.mono (Le.new C40.lt)).mono Le.x0),((u43_0__h11.mono (Le.new C40.lt)).mono Le.x0)⟩ (1 : Int) (1 : Int) y45 hy45) ?_
 rintro v46 w46 C46 B46 V46 ⟨uu46_0,rfl,⟨u46_0_1,u46_0_2,u46_0_3,u46_0_4,u46_0_5,u46_0_6,rfl,u46_0__h0,u46_0__h1⟩⟩
 have C := u46_0__h0.hlen
 subst C
 have C := u46_0__h1.hlen
 subst C
 refine zz 3 <| zn pn (.cells #[.bool false,.slice none 0 0,.slice none 0 0] 28 (0,0)) C46 fun b48 w48 Y48 C48 B48 V48 => zx 0 #[.bool y45.1.neg,.slice u46_0_1 y45.1.ln.length u46_0_3,.slice u46_0_4 y45.1.ld.length u46_0_6] C48 fun w49 C49 B49 => zz 9 <| zb 53 (b := ((y6.1) != 12)) (fun T50 => ?_) (fun T50 => ?_)
 have hp := ipb T50 hp
 refine zz 46 <| zr' (v := .bool false) ?_
 cases hp
 exact ⟨C49.upd,_,rfl,rfl⟩
 have hp := iqb T50 hp
 refine zz 4 <| zb 57 (b := ((y6.2) != 0)) (fun T51 => ?_) (fun T51 => ?_)
 have hp := ipb T51 hp
 refine zz 42 <| zr' (v := .bool false) ?_
 cases hp
 exact ⟨C49.upd,_,rfl,rfl⟩
 have hp := iqb T51 hp
 refine zz 4 <| zb 61 (b := ((y12.1) != 5)) (fun T52 => ?_) (fun T52 => ?_)
 have hp := ipb T52 hp
 refine zz 38 <| zr' (v := .bool false) ?_
 cases hp
 exact ⟨C49.upd,_,rfl,rfl⟩
 have hp := iqb T52 hp
 refine zz 4 <| zb 65 (b := ((y12.2) != 0)) (fun T53 => ?_) (fun T53 => ?_)
 have hp := ipb T53 hp
 refine zz 34 <| zr' (v := .bool false) ?_
 cases hp
 exact ⟨C49.upd,_,rfl,rfl⟩
 have hp := iqb T53 hp
 refine zz 4 <| zb 69 (b := ((y18.2) != 0)) (fun T54 => ?_) (fun T54 => ?_)
 have hp := ipb T54 hp
 refine zz 30 <| zr' (v := .bool false) ?_
 cases hp
 exact ⟨C49.upd,_,rfl,rfl⟩
 have hp := iqb T54 hp
 refine zz 4 <| zb 73 (b := ((y24.2) != 0)) (fun T55 => ?_) (fun T55 => ?_)
 have hp := ipb T55 hp
 refine zz 26 <| zr' (v := .bool false) ?_
 cases hp
 exact ⟨C49.upd,_,rfl,rfl⟩
 have hp := iqb T55 hp
 refine zz 4 <| zb 77 (b := ((y30.2) != 0)) (fun T56 => ?_) (fun T56 => ?_)
 have hp := ipb T56 hp
 refine zz 22 <| zr' (v := .bool false) ?_
 cases hp
 exact ⟨C49.upd,_,rfl,rfl⟩
 have hp := iqb T56 hp
 refine zz 4 <| zb 81 (b := ((y36.2) != 0)) (fun T57 => ?_) (fun T57 => ?_)
 have hp := ipb T57 hp
 refine zz 18 <| zr' (v := .bool false) ?_
 cases hp
 exact ⟨C49.upd,_,rfl,rfl⟩
 have hp := iqb T57 hp
 refine zz 4 <| zb 85 (b := ((y45.2) != 0)) (fun T58 => ?_) (fun T58 => ?_)
 have hp := ipb T58 hp
 refine zz 14 <| zr' (v := .bool false) ?_
 cases hp
 exact ⟨C49.upd,_,rfl,rfl⟩
 have hp := iqb T58 hp
 refine zz 6 <| zb 89 (b := ((y30.1.length : Int) != 12)) (fun T59 => ?_) (fun T59 => ?_)
 have hp := ipb T59 hp
 refine zz 8 <| zr' (v := .bool false) ?_
 cases hp
 exact ⟨C49.upd,_,rfl,rfl⟩
 have hp := iqb T59 hp
 refine zz 3 ?_
 have C := fG hp
 obtain ⟨J60,hJ60,hp⟩ := C
 refine yT (fun (_ : Unit) => [(5,.slice u19_0_1 y18.1.length u19_0_2),(7,.slice u25_0_1 y24.1.length u25_0_2),(11,.pointer (some ⟨b39,0,none⟩)),(13,.pointer (some ⟨b48,0,none⟩))]) (fun _ w1 => ∃ Y1 : Hid,St E0 w X w1 Y1 [(b48,.cells #[.bool y45.1.neg,.slice u46_0_1 y45.1.ln.length u46_0_3,.slice u46_0_4 y45.1.ld.length u46_0_6] 28 (0,0)),(b39,.cells #[.bool y36.1.neg,.slice u37_0_1 y36.1.ln.length u37_0_3,.slice u37_0_4 y36.1.ld.length u37_0_6] 28 (0,0))] ∧ Le (rd w49 Y48) (rd w1 Y1) ∧ J60 = some y) ?_ ?_
 rintro _ w60 ⟨Y60,C60,B60,hp⟩
 have hp := hJ60.symm.trans hp
 refine zz 1 <| zdr C60 <| gz [0] <| zQ hp fun y62 hy62 hp => gC 1 (fun w61 Y61 _ C61 B61 => (xZ _ X0 (zM _) (1 : Int) (10 : Int) y62 hy62)) ?_
 rintro v63 w61 Y63 w63 C61 B63 ⟨u63_0_1,u63_0_2,u63_0_3,u63_0_4,u63_0_5,u63_0_6,rfl,u63_0__h0,u63_0__h1⟩
 have C := u63_0__h0.hlen
 subst C
 have C := u63_0__h1.hlen
 subst C
 refine gz [2] <| zQ hp fun y65 hy65 hp => gC 3 (fun w64 Y64 _ C64 B64 => (xZ _ X0 (zM _) (9 : Int) (10 : Int) y65 hy65)) ?_
 rintro v66 w64 Y66 w66 C64 B66 ⟨u66_0_1,u66_0_2,u66_0_3,u66_0_4,u66_0_5,u66_0_6,rfl,u66_0__h0,u66_0__h1⟩
 have C := u66_0__h0.hlen
 subst C
 have C := u66_0__h1.hlen
 subst C
 refine gz [4] <| gp1 (al 5 127 (fun b => .slice (some ⟨b,0,none⟩) 2 2) (.cells #[.int .i64 6,.bool y62.neg,.slice u63_0_1 y62.ln.length u63_0_3,.slice u63_0_4 y62.ld.length u63_0_6,.int .i64 10,.bool y65.neg,.slice u66_0_1 y65.ln.length u66_0_3,.slice u66_0_4 y65.ld.length u66_0_6] 80 (0,0))) (fun b67 => ?_)
 have T1_ := (Le14 B22 B25 B28 B31 B34 B37 B39 B40 B43 B46 B48 B49 B60 B63).trans B66
 refine zQ hp fun y69 hy69 hp => gC 6 (vs := #[.slice u19_0_1 y18.1.length u19_0_2,.slice (some ⟨b67,0,none⟩) 2 2]) (fun w68 Y68 _ C68 B68 => (wN _ X0 (zM _) y18.1 _ ⟨_,_,rfl,(((u19_0__h0.mono (Le.new C16.lt)).mono (T1_.trans B68)).mono Le.x0)⟩ ([(Out.mk 6 y62),(Out.mk 10 y65)]) _ ⟨_,_,rfl,(SlR.lit (El := zFp) (size := 4) (n := 2) [⟨(Out.mk 6 y62),[.int .i64 6,.bool y62.neg,.slice u63_0_1 y62.ln.length u63_0_3,.slice u63_0_4 y62.ld.length u63_0_6]⟩,⟨(Out.mk 10 y65),[.int .i64 10,.bool y65.neg,.slice u66_0_1 y65.ln.length u66_0_3,.slice u66_0_4 y65.ld.length u66_0_6]⟩] (C68.at0 0 rfl rfl) (List.forall_mem_cons.2 ⟨⟨rfl,fun r2 h2 b o h9 => ⟨_,_,_,_,_,_,h9,((((u63_0__h0.mono (Le.new C61.lt)).mono (Le2 B66 B68)).mono Le.x0).mono h2),((((u63_0__h1.mono (Le.new C61.lt)).mono (Le2 B66 B68)).mono Le.x0).mono h2)⟩⟩,(List.forall_mem_cons.2 ⟨⟨rfl,fun r2 h2 b o h9 => ⟨_,_,_,_,_,_,h9,((((u66_0__h0.mono (Le.new C64.lt)).mono B68).mono Le.x0).mono h2),((((u66_0__h1.mono (Le.new C64.lt)).mono B68).mono Le.x0).mono h2)⟩⟩,(List.forall_mem_nil _)⟩)⟩) rfl (by decide))⟩ y69 hy69)) ?_
 rintro v70 w68 Y70 w70 C68 B70 rfl
 refine gz [7] <| gb 129 (b := y69) (fun T71 => ?_) (fun T71 => ?_)
 have hp := ipb T71 hp
 refine gz [8] <| zQ hp fun y73 hy73 hp => gC 9 (fun w72 Y72 _ C72 B72 => (xZ _ X0 (zM _) (1 : Int) (2 : Int) y73 hy73)) ?_
 rintro v74 w72 Y74 w74 C72 B74 ⟨u74_0_1,u74_0_2,u74_0_3,u74_0_4,u74_0_5,u74_0_6,rfl,u74_0__h0,u74_0__h1⟩
 have C := u74_0__h0.hlen
 subst C
 have C := u74_0__h1.hlen
 subst C
 refine gz [10] <| zQ hp fun y76 hy76 hp => gC 11 (fun w75 Y75 _ C75 B75 => (xZ _ X0 (zM _) (1 : Int) (2 : Int) y76 hy76)) ?_
 rintro v77 w75 Y77 w77 C75 B77 ⟨u77_0_1,u77_0_2,u77_0_3,u77_0_4,u77_0_5,u77_0_6,rfl,u77_0__h0,u77_0__h1⟩
 have C := u77_0__h0.hlen
 subst C
 have C := u77_0__h1.hlen
 subst C
 refine gz [12] <| gp1 (al 13 135 (fun b => .slice (some ⟨b,0,none⟩) 2 2) (.cells #[.int .i64 5,.bool y73.neg,.slice u74_0_1 y73.ln.length u74_0_3,.slice u74_0_4 y73.ld.length u74_0_6,.int .i64 7,.bool y76.neg,.slice u77_0_1 y76.ln.length u77_0_3,.slice u77_0_4 y76.ld.length u77_0_6] 80 (0,0))) (fun b78 => ?_)
 have T2_ := (Le15 B28 B31 B34 B37 B39 B40 B43 B46 B48 B49 B60 B63 B66 B70 B74).trans B77
 refine zQ hp fun y80 hy80 hp => gC 14 (vs := #[.slice u25_0_1 y24.1.length u25_0_2,.slice (some ⟨b78,0,none⟩) 2 2]) (fun w79 Y79 _ C79 B79 => (wN _ X0 (zM _) y24.1 _ ⟨_,_,rfl,(((u25_0__h0.mono (Le.new C22.lt)).mono (T2_.trans B79)).mono Le.x0)⟩ ([(Out.mk 5 y73),(Out.mk 7 y76)]) _ ⟨_,_,rfl,(SlR.lit (El := zFp) (size := 4) (n := 2) [⟨(Out.mk 5 y73),[.int .i64 5,.bool y73.neg,.slice u74_0_1 y73.ln.length u74_0_3,.slice u74_0_4 y73.ld.length u74_0_6]⟩,⟨(Out.mk 7 y76),[.int .i64 7,.bool y76.neg,.slice u77_0_1 y76.ln.length u77_0_3,.slice u77_0_4 y76.ld.length u77_0_6]⟩] (C79.at0 0 rfl rfl) (List.forall_mem_cons.2 ⟨⟨rfl,fun r2 h2 b o h9 => ⟨_,_,_,_,_,_,h9,((((u74_0__h0.mono (Le.new C72.lt)).mono (Le2 B77 B79)).mono Le.x0).mono h2),((((u74_0__h1.mono (Le.new C72.lt)).mono (Le2 B77 B79)).mono Le.x0).mono h2)⟩⟩,(List.forall_mem_cons.2 ⟨⟨rfl,fun r2 h2 b o h9 => ⟨_,_,_,_,_,_,h9,((((u77_0__h0.mono (Le.new C75.lt)).mono B79).mono Le.x0).mono h2),((((u77_0__h1.mono (Le.new C75.lt)).mono B79).mono Le.x0).mono h2)⟩⟩,(List.forall_mem_nil _)⟩)⟩) rfl (by decide))⟩ y80 hy80)) ?_
 rintro v81 w79 Y81 w81 C79 B81 rfl
 refine gz [15,16] <| gb 138 (b := y80) (fun T82 => ?_) (fun T82 => ?_)
 have hp := ipb T82 hp
 refine gw 17 1 <| zQ hp fun y84 hy84 hp => gC 18 (fun w83 Y83 _ C83 B83 => (xZ _ X0 (zM _) (1 : Int) (10 : Int) y84 hy84)) ?_
 rintro v85 w83 Y85 w85 C83 B85 ⟨u85_0_1,u85_0_2,u85_0_3,u85_0_4,u85_0_5,u85_0_6,rfl,u85_0__h0,u85_0__h1⟩
 have C := u85_0__h0.hlen
 subst C
 have C := u85_0__h1.hlen
 subst C
 have T3_ := (zSm B39 B40 B43 B46 B48 B49 B60 B63 B66 B70 B74 B77 B81).trans B85
 refine zQ hp fun y87 hy87 hp => gC 19 (fun w86 Y86 _ C86 B86 => (qB _ X0 (zM _) y36.1 _ ⟨_,_,_,_,_,_,rfl,(((u37_0__h0.mono (Le.new C34.lt)).mono (T3_.trans B86)).mono Le.x0),(((u37_0__h1.mono (Le.new C34.lt)).mono (T3_.trans B86)).mono Le.x0)⟩ y84 _ ⟨_,_,_,_,_,_,rfl,(((u85_0__h0.mono (Le.new C83.lt)).mono B86).mono Le.x0),(((u85_0__h1.mono (Le.new C83.lt)).mono B86).mono Le.x0)⟩ y87 hy87)) ?_
 rintro v88 w86 Y88 w88 C86 B88 rfl
 refine gz [20,21] <| gb 143 (b := y87) (fun T89 => ?_) (fun T89 => ?_)
 have hp := ipb T89 hp
 refine gw 22 0 <| zQ hp fun y91 hy91 hp => gC 23 (fun w90 Y90 _ C90 B90 => (xZ _ X0 (zM _) (1 : Int) (10 : Int) y91 hy91)) ?_
 rintro v92 w90 Y92 w92 C90 B92 ⟨u92_0_1,u92_0_2,u92_0_3,u92_0_4,u92_0_5,u92_0_6,rfl,u92_0__h0,u92_0__h1⟩
 have C := u92_0__h0.hlen
 subst C
 have C := u92_0__h1.hlen
 subst C
 have T4_ := (zNu B48 B49 B60 B63 B66 B70 B74 B77 B81 B85 B88).trans B92
 refine zQ hp fun y94 hy94 hp => gC 24 (fun w93 Y93 _ C93 B93 => (qB _ X0 (zM _) y45.1 _ ⟨_,_,_,_,_,_,rfl,(((u46_0__h0.mono (Le.new C43.lt)).mono (T4_.trans B93)).mono Le.x0),(((u46_0__h1.mono (Le.new C43.lt)).mono (T4_.trans B93)).mono Le.x0)⟩ y91 _ ⟨_,_,_,_,_,_,rfl,(((u92_0__h0.mono (Le.new C90.lt)).mono B93).mono Le.x0),(((u92_0__h1.mono (Le.new C90.lt)).mono B93).mono Le.x0)⟩ y94 hy94)) ?_
 rintro v95 w93 Y95 w95 C93 B95 rfl
 refine gz [25,26] ?_
 refine yO (fun w96 Y96 C96 B96 => ?_)
 refine zz 2 <| zr' (v := .bool y94) ?_
 cases hp
 exact ⟨C96.upd,_,rfl,rfl⟩
 have hp := iqb T89 hp
 refine gz [22,23,24,25,26] ?_
 refine yO (fun w97 Y97 C97 B97 => ?_)
 refine zz 2 <| zr' (v := .bool false) ?_
 cases hp
 exact ⟨C97.upd,_,rfl,rfl⟩
 have hp := iqb T82 hp
 refine gz [17,18,19,20,21,22,23,24,25,26] ?_
 refine yO (fun w98 Y98 C98 B98 => ?_)
 refine zz 2 <| zr' (v := .bool false) ?_
 cases hp
 exact ⟨C98.upd,_,rfl,rfl⟩
 have hp := iqb T71 hp
 refine gz [8,9,10,11,12,13,14,15,16,17,18,19,20,21,22,23,24,25,26] ?_
 refine yO (fun w99 Y99 C99 B99 => ?_)
 refine zz 2 <| zr' (v := .bool false) ?_
 cases hp
 exact ⟨C99.upd,_,rfl,rfl⟩
 intro K100 H100
 refine zz 6 <| zlp Tryz.f7 [K100] [1,1,1,1,1,1,1,1,1,9,1,0] (fun (k101 : Nat) => [(5,.slice u19_0_1 y18.1.length u19_0_2),(7,.slice u25_0_1 y24.1.length u25_0_2),(9,.slice u31_0_1 y30.1.length u31_0_2),(11,.pointer (some ⟨b39,0,none⟩)),(13,.pointer (some ⟨b48,0,none⟩)),(15,.int .i64 (k101 : Int))]) (fun (k101 : Nat) w1 => ∃ Y1 : Hid,St E0 w X w1 Y1 [(b48,.cells #[.bool y45.1.neg,.slice u46_0_1 y45.1.ln.length u46_0_3,.slice u46_0_4 y45.1.ld.length u46_0_6] 28 (0,0)),(b39,.cells #[.bool y36.1.neg,.slice u37_0_1 y36.1.ln.length u37_0_3,.slice u37_0_4 y36.1.ld.length u37_0_6] 28 (0,0))] ∧ Le (rd w49 Y48) (rd w1 Y1) ∧ jY y30 J60 ((12 : Int).toNat - k101) k101 = some y) (fun (k101 : Nat) => (12 : Int).toNat - k101) 0 ?_ ?_
 exact ⟨_,C49,Le.refl _,hp⟩
 rintro k101 w101 K101 H101 ⟨Y101,C101,B101,hp⟩
 refine zz 7 <| zt 91 (p := (k101 : Int) < 12) (fun Q102 => ?_) (fun Q102 => ?_)
 have C := dG (N := (12 : Int)) (k := k101) Q102
 obtain ⟨r101,hm101,hn101⟩ := C
 rw [hm101,jY] at hp
 refine zz 6 <| zdr C101 <| gz [0,1,2] <| gt 96 (p := (k101 : Int) ≥ 4) (fun Q103 => ?_) (fun Q103 => ?_)
 have hp := ip Q103 hp
 refine zQ hp fun x104 hx104 hp => ?_
 have C := jU hx104
 obtain ⟨L104,O104⟩ := C
 have hwx104 : y30.1[k101]? = some x104 := O104
 have C := (u31_0__h0.mono (Le.new C28.lt)).sl.opn hwx104
 obtain ⟨be105,oe105,rfl,B105,hEe105⟩ := C
 obtain ⟨e1051,e1052,e1053,e1054,e1055,e1056,e105_at,e105_h0,e105_h1⟩ := hEe105
 have C := e105_h0.hlen
 subst C
 have C := e105_h1.hlen
 subst C
 refine gz [3,4,5,6,7] <| gi 8 (b := be105) (off := oe105) (len := y30.1.length) (cap := u31_0_2) (kd := .i64) (i := (k101 : Int)) 3 (oe105 + k101 * 3) ?_ (h0 := L104) (h1 := (jS L104 B105))
 have T5_ := (Le8 B34 B37 B39 B40 B43 B46 B48 B49).trans B101
 refine gl 9 ((e105_at.mono T5_)) <| zQ hp fun y107 hy107 hp => gC 10 (fun w106 Y106 _ C106 B106 => (lF _ X0 (zM _) (1 : Int) y107 hy107)) ?_
 rintro v108 w106 Y108 w108 C106 B108 ⟨u108_0_1,u108_0_2,u108_0_3,u108_0_4,u108_0_5,u108_0_6,rfl,u108_0__h0,u108_0__h1⟩
 have C := u108_0__h0.hlen
 subst C
 have C := u108_0__h1.hlen
 subst C
 have T6_ := (Le9 B34 B37 B39 B40 B43 B46 B48 B49 B101).trans B108
 refine zQ hp fun y110 hy110 hp => gC 11 (fun w109 Y109 _ C109 B109 => (qB _ X0 (zM _) x104 _ ⟨_,_,_,_,_,_,rfl,((e105_h0.mono (T6_.trans B109)).mono Le.x0),((e105_h1.mono (T6_.trans B109)).mono Le.x0)⟩ y107 _ ⟨_,_,_,_,_,_,rfl,(((u108_0__h0.mono (Le.new C106.lt)).mono B109).mono Le.x0),(((u108_0__h1.mono (Le.new C106.lt)).mono B109).mono Le.x0)⟩ y110 hy110)) ?_
 rintro v111 w109 Y111 w111 C109 B111 rfl
 refine gz [12,13] <| gb 107 (b := !((decide ((k101 : Int) ≤ 7)) == y110)) (fun T112 => ?_) (fun T112 => ?_)
 have hp := ipb T112 hp
 refine gz [14,15,16,17,18,19,20,21,22,23,24,25,26,27] ?_
 refine yO (fun w113 Y113 C113 B113 => ?_)
 refine zz 13 <| zr' (v := .bool false) ?_
 cases hp
 exact ⟨C113.upd,_,rfl,rfl⟩
 have hp := iqb T112 hp
 refine gz [14,15,16] <| gt 110 (p := (k101 : Int) < 4) (fun Q114 => ?_) (fun Q114 => ?_)
 have hp := ip Q114 hp
 refine gz [17,18,19,20,21] <| gi 22 (b := be105) (off := oe105) (len := y30.1.length) (cap := u31_0_2) (kd := .i64) (i := (k101 : Int)) 3 (oe105 + k101 * 3) ?_ (h0 := L104) (h1 := (jS L104 B105))
 have T7_ := (Le8 B34 B37 B39 B40 B43 B46 B48 B49).trans B101
 refine gl 23 ((e105_at.mono T7_)) <| gz [24] ?_
 have T8_ := T6_.trans B111
 refine zQ hp fun y116 hy116 hp => gC 25 (vs := #[.agg #[.bool x104.neg,.slice e1051 x104.ln.length e1053,.slice e1054 x104.ld.length e1056],.agg #[.bool false,.slice none 0 0,.slice none 0 0]]) (fun w115 Y115 _ C115 B115 => (qB _ X0 (zM _) x104 _ ⟨_,_,_,_,_,_,rfl,((e105_h0.mono (T8_.trans B115)).mono Le.x0),((e105_h1.mono (T8_.trans B115)).mono Le.x0)⟩ Raw.zero _ ⟨_,_,_,_,_,_,rfl,zL.nil0,zL.nil0⟩ y116 hy116)) ?_
 rintro v117 w115 Y117 w117 C115 B117 rfl
 refine gz [26,27] ?_
 refine yO (fun w118 Y118 C118 B118 => ?_)
 refine zz 1 <| zb 121 (b := !(true == y116)) (fun T119 => ?_) (fun T119 => ?_)
 have hp := ipb T119 hp
 refine zz 12 <| zr' (v := .bool false) ?_
 cases hp
 exact ⟨C118.upd,_,rfl,rfl⟩
 have hp := iqb T119 hp
 refine zz 7 <| zs 93 (v := .int .i64 (i64.wrap ((k101 : Int) + 1))) (v' := .int .i64 ((k101 : Int) + 1)) (zR (jE (wk0 k101) (wk1 Q102 (by decide)))) <| zz 2 ?_
 have T9_ := (Le4 B101 B108 B111 B117).trans B118
 refine zP (fun a h => H101 (k101 + 1) _ a h ⟨_,C118,T9_,(by rw [hn101]; exact hp)⟩ ?_)
 exact lD Q102
 have hp := iq Q114 hp
 refine gz [17,18,19,20,21] <| gi 22 (b := be105) (off := oe105) (len := y30.1.length) (cap := u31_0_2) (kd := .i64) (i := (k101 : Int)) 3 (oe105 + k101 * 3) ?_ (h0 := L104) (h1 := (jS L104 B105))
 have T10_ := (Le8 B34 B37 B39 B40 B43 B46 B48 B49).trans B101
 refine gl 23 ((e105_at.mono T10_)) <| gz [24] ?_
 have T11_ := T6_.trans B111
 refine zQ hp fun y121 hy121 hp => gC 25 (vs := #[.agg #[.bool x104.neg,.slice e1051 x104.ln.length e1053,.slice e1054 x104.ld.length e1056],.agg #[.bool false,.slice none 0 0,.slice none 0 0]]) (fun w120 Y120 _ C120 B120 => (qB _ X0 (zM _) x104 _ ⟨_,_,_,_,_,_,rfl,((e105_h0.mono (T11_.trans B120)).mono Le.x0),((e105_h1.mono (T11_.trans B120)).mono Le.x0)⟩ Raw.zero _ ⟨_,_,_,_,_,_,rfl,zL.nil0,zL.nil0⟩ y121 hy121)) ?_
 rintro v122 w120 Y122 w122 C120 B122 rfl
 refine gz [26,27] ?_
 refine yO (fun w123 Y123 C123 B123 => ?_)
 refine zz 1 <| zb 121 (b := !((decide ((k101 : Int) > 7)) == y121)) (fun T124 => ?_) (fun T124 => ?_)
 have hp := ipb T124 hp
 refine zz 12 <| zr' (v := .bool false) ?_
 cases hp
 exact ⟨C123.upd,_,rfl,rfl⟩
 have hp := iqb T124 hp
 refine zz 7 <| zs 93 (v := .int .i64 (i64.wrap ((k101 : Int) + 1))) (v' := .int .i64 ((k101 : Int) + 1)) (zR (jE (wk0 k101) (wk1 Q102 (by decide)))) <| zz 2 ?_
 have T12_ := (Le4 B101 B108 B111 B122).trans B123
 refine zP (fun a h => H101 (k101 + 1) _ a h ⟨_,C123,T12_,(by rw [hn101]; exact hp)⟩ ?_)
 exact lD Q102
 have hp := iq Q103 hp
 refine zQ hp fun x125 hx125 hp => ?_
 have C := jU hx125
 obtain ⟨L125,O125⟩ := C
 have hwx125 : y30.1[k101]? = some x125 := O125
 have C := (u31_0__h0.mono (Le.new C28.lt)).sl.opn hwx125
 obtain ⟨be126,oe126,rfl,B126,hEe126⟩ := C
 obtain ⟨e1261,e1262,e1263,e1264,e1265,e1266,e126_at,e126_h0,e126_h1⟩ := hEe126
 have C := e126_h0.hlen
 subst C
 have C := e126_h1.hlen
 subst C
 refine gz [3,4,5,6,7] <| gi 8 (b := be126) (off := oe126) (len := y30.1.length) (cap := u31_0_2) (kd := .i64) (i := (k101 : Int)) 3 (oe126 + k101 * 3) ?_ (h0 := L125) (h1 := (jS L125 B126))
 have T13_ := (Le8 B34 B37 B39 B40 B43 B46 B48 B49).trans B101
 refine gl 9 ((e126_at.mono T13_)) <| zQ hp fun y128 hy128 hp => gC 10 (fun w127 Y127 _ C127 B127 => (lF _ X0 (zM _) (1 : Int) y128 hy128)) ?_
 rintro v129 w127 Y129 w129 C127 B129 ⟨u129_0_1,u129_0_2,u129_0_3,u129_0_4,u129_0_5,u129_0_6,rfl,u129_0__h0,u129_0__h1⟩
 have C := u129_0__h0.hlen
 subst C
 have C := u129_0__h1.hlen
 subst C
 have T14_ := (Le9 B34 B37 B39 B40 B43 B46 B48 B49 B101).trans B129
 refine zQ hp fun y131 hy131 hp => gC 11 (fun w130 Y130 _ C130 B130 => (qB _ X0 (zM _) x125 _ ⟨_,_,_,_,_,_,rfl,((e126_h0.mono (T14_.trans B130)).mono Le.x0),((e126_h1.mono (T14_.trans B130)).mono Le.x0)⟩ y128 _ ⟨_,_,_,_,_,_,rfl,(((u129_0__h0.mono (Le.new C127.lt)).mono B130).mono Le.x0),(((u129_0__h1.mono (Le.new C127.lt)).mono B130).mono Le.x0)⟩ y131 hy131)) ?_
 rintro v132 w130 Y132 w132 C130 B132 rfl
 refine gz [12,13] <| gb 107 (b := !(false == y131)) (fun T133 => ?_) (fun T133 => ?_)
 have hp := ipb T133 hp
 refine gz [14,15,16,17,18,19,20,21,22,23,24,25,26,27] ?_
 refine yO (fun w134 Y134 C134 B134 => ?_)
 refine zz 13 <| zr' (v := .bool false) ?_
 cases hp
 exact ⟨C134.upd,_,rfl,rfl⟩
 have hp := iqb T133 hp
 refine gz [14,15,16] <| gt 110 (p := (k101 : Int) < 4) (fun Q135 => ?_) (fun Q135 => ?_)
 have hp := ip Q135 hp
 refine gz [17,18,19,20,21] <| gi 22 (b := be126) (off := oe126) (len := y30.1.length) (cap := u31_0_2) (kd := .i64) (i := (k101 : Int)) 3 (oe126 + k101 * 3) ?_ (h0 := L125) (h1 := (jS L125 B126))
 have T15_ := (Le8 B34 B37 B39 B40 B43 B46 B48 B49).trans B101
 refine gl 23 ((e126_at.mono T15_)) <| gz [24] ?_
 have T16_ := T14_.trans B132
 refine zQ hp fun y137 hy137 hp => gC 25 (vs := #[.agg #[.bool x125.neg,.slice e1261 x125.ln.length e1263,.slice e1264 x125.ld.length e1266],.agg #[.bool false,.slice none 0 0,.slice none 0 0]]) (fun w136 Y136 _ C136 B136 => (qB _ X0 (zM _) x125 _ ⟨_,_,_,_,_,_,rfl,((e126_h0.mono (T16_.trans B136)).mono Le.x0),((e126_h1.mono (T16_.trans B136)).mono Le.x0)⟩ Raw.zero _ ⟨_,_,_,_,_,_,rfl,zL.nil0,zL.nil0⟩ y137 hy137)) ?_
 rintro v138 w136 Y138 w138 C136 B138 rfl
 refine gz [26,27] ?_
 refine yO (fun w139 Y139 C139 B139 => ?_)
 refine zz 1 <| zb 121 (b := !(true == y137)) (fun T140 => ?_) (fun T140 => ?_)
 have hp := ipb T140 hp
 refine zz 12 <| zr' (v := .bool false) ?_
 cases hp
 exact ⟨C139.upd,_,rfl,rfl⟩
 have hp := iqb T140 hp
 refine zz 7 <| zs 93 (v := .int .i64 (i64.wrap ((k101 : Int) + 1))) (v' := .int .i64 ((k101 : Int) + 1)) (zR (jE (wk0 k101) (wk1 Q102 (by decide)))) <| zz 2 ?_
 have T17_ := (Le4 B101 B129 B132 B138).trans B139
 refine zP (fun a h => H101 (k101 + 1) _ a h ⟨_,C139,T17_,(by rw [hn101]; exact hp)⟩ ?_)
 exact lD Q102
 have hp := iq Q135 hp
 refine gz [17,18,19,20,21] <| gi 22 (b := be126) (off := oe126) (len := y30.1.length) (cap := u31_0_2) (kd := .i64) (i := (k101 : Int)) 3 (oe126 + k101 * 3) ?_ (h0 := L125) (h1 := (jS L125 B126))
 have T18_ := (Le8 B34 B37 B39 B40 B43 B46 B48 B49).trans B101
 refine gl 23 ((e126_at.mono T18_)) <| gz [24] ?_
 have T19_ := T14_.trans B132
 refine zQ hp fun y142 hy142 hp => gC 25 (vs := #[.agg #[.bool x125.neg,.slice e1261 x125.ln.length e1263,.slice e1264 x125.ld.length e1266],.agg #[.bool false,.slice none 0 0,.slice none 0 0]]) (fun w141 Y141 _ C141 B141 => (qB _ X0 (zM _) x125 _ ⟨_,_,_,_,_,_,rfl,((e126_h0.mono (T19_.trans B141)).mono Le.x0),((e126_h1.mono (T19_.trans B141)).mono Le.x0)⟩ Raw.zero _ ⟨_,_,_,_,_,_,rfl,zL.nil0,zL.nil0⟩ y142 hy142)) ?_
 rintro v143 w141 Y143 w143 C141 B143 rfl
 refine gz [26,27] ?_
 refine yO (fun w144 Y144 C144 B144 => ?_)
 refine zz 1 <| zb 121 (b := !((decide ((k101 : Int) > 7)) == y142)) (fun T145 => ?_) (fun T145 => ?_)
 have hp := ipb T145 hp
 refine zz 12 <| zr' (v := .bool false) ?_
 cases hp
 exact ⟨C144.upd,_,rfl,rfl⟩
 have hp := iqb T145 hp
 refine zz 7 <| zs 93 (v := .int .i64 (i64.wrap ((k101 : Int) + 1))) (v' := .int .i64 ((k101 : Int) + 1)) (zR (jE (wk0 k101) (wk1 Q102 (by decide)))) <| zz 2 ?_
 have T20_ := (Le4 B101 B129 B132 B143).trans B144
 refine zP (fun a h => H101 (k101 + 1) _ a h ⟨_,C144,T20_,(by rw [hn101]; exact hp)⟩ ?_)
 exact lD Q102
 rw [fV (N := (12 : Int)) Q102,jY] at hp
 refine zz 5 ?_
 exact zP (fun a h => H100 () _ a h ⟨_,C101,B101,hp⟩)
end
end Go.Proofs.YtjnbipmlmafahaaGreat
namespace Go.Proofs.YtjnbipmlmafahaaGreat
open Go Go.Gv Go.RowKit IntKind
set_option maxRecDepth 100000
set_option maxHeartbeats 1000000
open Go.ChangeShapes IntKind
section
variable {H : Type} {enc : TypeId × Value → H} {w : World} {spare : Nat → Bool} {held : Bool}
theorem lo18 {cs : List Value} (h : cs.length = 18) : ∃ c0 c1 c2 c3 c4 c5 c6 c7 c8 c9 c10 c11 c12 c13 c14 c15 c16 c17,cs = [c0,c1,c2,c3,c4,c5,c6,c7,c8,c9,c10,c11,c12,c13,c14,c15,c16,c17] := by
 match cs,h with
 | [c0,c1,c2,c3,c4,c5,c6,c7,c8,c9,c10,c11,c12,c13,c14,c15,c16,c17],_ => exact ⟨c0,c1,c2,c3,c4,c5,c6,c7,c8,c9,c10,c11,c12,c13,c14,c15,c16,c17,rfl⟩
theorem zWg {n : Nat} {cs : List Value} {y : DataW H × List MemPlace} (h : fJ enc Tryz.prog w spare held n 22 cs y) : ∃ (ad : Option Addr) (cap : Nat) (l : List Int),cs = [.slice ad l.length cap] ∧ wK (rd w X0) ad l.length cap l := by
 obtain ⟨ad,len,cap,xs,e,hx,hl⟩ := zGe (bts := 8) Tryz.underlying22 kr (by omega) kr (zPi Tryz.underlying3) h
 obtain rfl := hx.hlen
 exact ⟨ad,cap,xs,e,hx⟩
theorem lo3 {cs : List Value} (h : cs.length = 3) : ∃ c0 c1 c2,cs = [c0,c1,c2] := by
 match cs,h with
 | [c0,c1,c2],_ => exact ⟨c0,c1,c2,rfl⟩
theorem qDc {n : Nat} {cs : List Value} {y : DataW H × List MemPlace} (h : fJ enc Tryz.prog w spare held n 96 cs y) : ∃ (x : qJ) ,cs = [.int .u8 x.sense,.int .i64 x.lo,.int .i64 x.hi] := by
 obtain ⟨c0,c1,c2,rfl⟩ := lo3 (zZm (size := 3) Tryz.underlying96 h kr)
 obtain ⟨n0,y0,h0⟩ := fld (size := 1) Tryz.underlying96 h 0 rfl kr
 obtain ⟨z0,e0,_⟩ := DataW.trod_int Tryz.underlying5 h0.1
 obtain rfl : c0 = .int .u8 z0 := by simpa using e0
 obtain ⟨n1,y1,h1⟩ := fld (size := 1) Tryz.underlying96 h 1 rfl kr
 obtain ⟨z1,e1,_⟩ := DataW.trod_int Tryz.underlying3 h1.1
 obtain rfl : c1 = .int .i64 z1 := by simpa using e1
 obtain ⟨n2,y2,h2⟩ := fld (size := 1) Tryz.underlying96 h 2 rfl kr
 obtain ⟨z2,e2,_⟩ := DataW.trod_int Tryz.underlying3 h2.1
 obtain rfl : c2 = .int .i64 z2 := by simpa using e2
 exact ⟨⟨z0,z1,z2⟩,rfl⟩
theorem qCn : zIo enc Tryz.prog w spare held 96 3 nS := fun n cs y b off h hl hat => by
 obtain ⟨x,rfl⟩ := qDc h
 exact ⟨x,hat⟩
theorem qCm {n : Nat} {cs : List Value} {y : DataW H × List MemPlace} (h : fJ enc Tryz.prog w spare held n 23 cs y) : ∃ (ad : Option Addr) (cap : Nat) (l : List qJ),cs = [.slice ad l.length cap] ∧ wC (rd w X0) ad l.length cap l := by
 obtain ⟨ad,len,cap,xs,e,hx,hl⟩ := zGe (bts := 24) Tryz.underlying23 kr (by omega) kr qCn h
 obtain rfl := hx.hlen
 exact ⟨ad,cap,xs,e,hx⟩
theorem lo4 {cs : List Value} (h : cs.length = 4) : ∃ c0 c1 c2 c3,cs = [c0,c1,c2,c3] := by
 match cs,h with
 | [c0,c1,c2,c3],_ => exact ⟨c0,c1,c2,c3,rfl⟩
theorem zZv {n : Nat} {cs : List Value} {y : DataW H × List MemPlace} (h : fJ enc Tryz.prog w spare held n 26 cs y) : ∃ (ad : Option Addr) (cap : Nat) (l : List Nat),cs = [.slice ad l.length cap] ∧ zL (rd w X0) ad l.length cap l := by
 obtain ⟨ad,len,cap,xs,e,hx,hl⟩ := zGe (bts := 4) Tryz.underlying26 kr (by omega) kr (zRv Tryz.underlying179) h
 obtain rfl := hx.hlen
 exact ⟨ad,cap,xs,e,hx.limbs⟩
theorem zPz {n : Nat} {cs : List Value} {y : DataW H × List MemPlace} (h : fJ enc Tryz.prog w spare held n 28 cs y) : ∃ (x : Raw) (a1 : Option Addr) (a2 : Nat) (a3 : Nat) (a4 : Option Addr) (a5 : Nat) (a6 : Nat),cs = [.bool x.neg,.slice a1 a2 a3,.slice a4 a5 a6] ∧ zL (rd w X0) a1 a2 a3 x.ln ∧ zL (rd w X0) a4 a5 a6 x.ld := by
 obtain ⟨c0,c1,c2,rfl⟩ := lo3 (zZm (size := 3) Tryz.underlying28 h kr)
 obtain ⟨n0,y0,h0⟩ := fld (size := 1) Tryz.underlying28 h 0 rfl kr
 obtain ⟨z0,e0,_⟩ := DataW.trod_bool Tryz.underlying4 h0.1
 obtain rfl : c0 = .bool z0 := by simpa using e0
 obtain ⟨n1,y1,h1⟩ := fld (size := 1) Tryz.underlying28 h 1 rfl kr
 obtain ⟨a1,b1,l1,e1,g1⟩ := zZv h1
 obtain rfl : c1 = .slice a1 l1.length b1 := by simpa using e1
 obtain ⟨n2,y2,h2⟩ := fld (size := 1) Tryz.underlying28 h 2 rfl kr
 obtain ⟨a2,b2,l2,e2,g2⟩ := zZv h2
 obtain rfl : c2 = .slice a2 l2.length b2 := by simpa using e2
 exact ⟨⟨z0,l1,l2⟩,a1,l1.length,b1,a2,l2.length,b2,rfl,g1,g2⟩
theorem qCu {n : Nat} {cs : List Value} {y : DataW H × List MemPlace} (h : fJ enc Tryz.prog w spare held n 76 cs y) : ∃ (x : zV) (a1 : Option Addr) (a2 : Nat) (a3 : Option Addr) (a4 : Nat),cs = [.int .i64 x.delta,.bool x.p.neg,.slice a1 x.p.ln.length a2,.slice a3 x.p.ld.length a4] ∧ zL (rd w X0) a1 x.p.ln.length a2 x.p.ln ∧ zL (rd w X0) a3 x.p.ld.length a4 x.p.ld := by
 obtain ⟨c0,c1,c2,c3,rfl⟩ := lo4 (zZm (size := 4) Tryz.underlying76 h kr)
 obtain ⟨n0,y0,h0⟩ := fld (size := 1) Tryz.underlying76 h 0 rfl kr
 obtain ⟨z0,e0,_⟩ := DataW.trod_int Tryz.underlying3 h0.1
 obtain rfl : c0 = .int .i64 z0 := by simpa using e0
 obtain ⟨n1,y1,h1⟩ := fld (size := 3) Tryz.underlying76 h 1 rfl kr
 obtain ⟨x1,x1q1,x1q2,x1q3,x1q4,x1q5,x1q6,e1,f1_0,f1_1⟩ := zPz h1
 have e1' : [c1,c2,c3] = [.bool x1.neg,.slice x1q1 x1q2 x1q3,.slice x1q4 x1q5 x1q6] := e1
 simp only [List.cons.injEq,and_true] at e1'
 obtain ⟨rfl,rfl,rfl⟩ := e1'
 obtain rfl := f1_0.hlen
 obtain rfl := f1_1.hlen
 exact ⟨⟨z0,x1⟩,x1q1,x1q3,x1q4,x1q6,rfl,f1_0,f1_1⟩
theorem qDd : zIo enc Tryz.prog w spare held 76 4 lQ := fun n cs y b off h hl hat => by
 obtain ⟨x,a1,a2,a3,a4,rfl,hh0,hh1⟩ := qCu h
 exact ⟨x,⟨a1,a2,a3,a4,hat,hh0,hh1⟩⟩
theorem zZx {n : Nat} {cs : List Value} {y : DataW H × List MemPlace} (h : fJ enc Tryz.prog w spare held n 24 cs y) : ∃ (ad : Option Addr) (cap : Nat) (l : List zV),cs = [.slice ad l.length cap] ∧ kQ (rd w X0) ad l.length cap l := by
 obtain ⟨ad,len,cap,xs,e,hx,hl⟩ := zGe (bts := 64) Tryz.underlying24 kr (by omega) kr qDd h
 obtain rfl := hx.hlen
 exact ⟨ad,cap,xs,e,hx⟩
theorem qCt {n : Nat} {cs : List Value} {y : DataW H × List MemPlace} (h : fJ enc Tryz.prog w spare held n 30 cs y) : ∃ (x : zO) (a1 : Option Addr) (a2 : Nat) (a3 : Option Addr) (a4 : Nat) (a5 : Option Addr) (a6 : Nat) (a7 : Option Addr) (a8 : Nat) (a9 : Option Addr) (a10 : Nat) (a11 : Option Addr) (a12 : Nat) (a13 : Option Addr) (a14 : Nat) (a15 : Option Addr) (a16 : Nat) (a17 : Option Addr) (a18 : Nat) (a19 : Option Addr) (a20 : Nat) (a21 : Option Addr) (a22 : Nat) (a23 : Option Addr) (a24 : Nat),cs = [.slice a1 x.height.length a2,.slice a3 x.own.length a4,.slice a5 x.other.length a6,.slice a7 x.advisories.length a8,.int .i64 x.pull,.int .i64 x.near,.int .i64 x.steps,.slice a9 x.ownNoise.length a10,.slice a11 x.otherNoise.length a12,.bool x.alert.neg,.slice a13 x.alert.ln.length a14,.slice a15 x.alert.ld.length a16,.bool x.strengthen.neg,.slice a17 x.strengthen.ln.length a18,.slice a19 x.strengthen.ld.length a20,.bool x.reversal.neg,.slice a21 x.reversal.ln.length a22,.slice a23 x.reversal.ld.length a24] ∧ wK (rd w X0) a1 x.height.length a2 x.height ∧ wK (rd w X0) a3 x.own.length a4 x.own ∧ wK (rd w X0) a5 x.other.length a6 x.other ∧ wC (rd w X0) a7 x.advisories.length a8 x.advisories ∧ kQ (rd w X0) a9 x.ownNoise.length a10 x.ownNoise ∧ kQ (rd w X0) a11 x.otherNoise.length a12 x.otherNoise ∧ zL (rd w X0) a13 x.alert.ln.length a14 x.alert.ln ∧ zL (rd w X0) a15 x.alert.ld.length a16 x.alert.ld ∧ zL (rd w X0) a17 x.strengthen.ln.length a18 x.strengthen.ln ∧ zL (rd w X0) a19 x.strengthen.ld.length a20 x.strengthen.ld ∧ zL (rd w X0) a21 x.reversal.ln.length a22 x.reversal.ln ∧ zL (rd w X0) a23 x.reversal.ld.length a24 x.reversal.ld := by
 obtain ⟨c0,c1,c2,c3,c4,c5,c6,c7,c8,c9,c10,c11,c12,c13,c14,c15,c16,c17,rfl⟩ := lo18 (zZm (size := 18) Tryz.underlying30 h kr)
 obtain ⟨n0,y0,h0⟩ := fld (size := 1) Tryz.underlying30 h 0 rfl kr
 obtain ⟨a0,b0,l0,e0,g0⟩ := zWg h0
 obtain rfl : c0 = .slice a0 l0.length b0 := by simpa using e0
 obtain ⟨n1,y1,h1⟩ := fld (size := 1) Tryz.underlying30 h 1 rfl kr
 obtain ⟨a1,b1,l1,e1,g1⟩ := zWg h1
 obtain rfl : c1 = .slice a1 l1.length b1 := by simpa using e1
 obtain ⟨n2,y2,h2⟩ := fld (size := 1) Tryz.underlying30 h 2 rfl kr
 obtain ⟨a2,b2,l2,e2,g2⟩ := zWg h2
 obtain rfl : c2 = .slice a2 l2.length b2 := by simpa using e2
 obtain ⟨n3,y3,h3⟩ := fld (size := 1) Tryz.underlying30 h 3 rfl kr
 obtain ⟨a3,b3,l3,e3,g3⟩ := qCm h3
 obtain rfl : c3 = .slice a3 l3.length b3 := by simpa using e3
 obtain ⟨n4,y4,h4⟩ := fld (size := 1) Tryz.underlying30 h 4 rfl kr
 obtain ⟨z4,e4,_⟩ := DataW.trod_int Tryz.underlying3 h4.1
 obtain rfl : c4 = .int .i64 z4 := by simpa using e4
 obtain ⟨n5,y5,h5⟩ := fld (size := 1) Tryz.underlying30 h 5 rfl kr
 obtain ⟨z5,e5,_⟩ := DataW.trod_int Tryz.underlying3 h5.1
 obtain rfl : c5 = .int .i64 z5 := by simpa using e5
 obtain ⟨n6,y6,h6⟩ := fld (size := 1) Tryz.underlying30 h 6 rfl kr
 obtain ⟨z6,e6,_⟩ := DataW.trod_int Tryz.underlying3 h6.1
 obtain rfl : c6 = .int .i64 z6 := by simpa using e6
 obtain ⟨n7,y7,h7⟩ := fld (size := 1) Tryz.underlying30 h 7 rfl kr
 obtain ⟨a7,b7,l7,e7,g7⟩ := zZx h7
 obtain rfl : c7 = .slice a7 l7.length b7 := by simpa using e7
 obtain ⟨n8,y8,h8⟩ := fld (size := 1) Tryz.underlying30 h 8 rfl kr
 obtain ⟨a8,b8,l8,e8,g8⟩ := zZx h8
 obtain rfl : c8 = .slice a8 l8.length b8 := by simpa using e8
 obtain ⟨n9,y9,h9⟩ := fld (size := 3) Tryz.underlying30 h 9 rfl kr
 obtain ⟨x9,x9q1,x9q2,x9q3,x9q4,x9q5,x9q6,e9,f9_0,f9_1⟩ := zPz h9
 have e9' : [c9,c10,c11] = [.bool x9.neg,.slice x9q1 x9q2 x9q3,.slice x9q4 x9q5 x9q6] := e9
 simp only [List.cons.injEq,and_true] at e9'
 obtain ⟨rfl,rfl,rfl⟩ := e9'
 obtain rfl := f9_0.hlen
 obtain rfl := f9_1.hlen
 obtain ⟨n10,y10,h10⟩ := fld (size := 3) Tryz.underlying30 h 10 rfl kr
 obtain ⟨x10,x10q1,x10q2,x10q3,x10q4,x10q5,x10q6,e10,f10_0,f10_1⟩ := zPz h10
 have e10' : [c12,c13,c14] = [.bool x10.neg,.slice x10q1 x10q2 x10q3,.slice x10q4 x10q5 x10q6] := e10
 simp only [List.cons.injEq,and_true] at e10'
 obtain ⟨rfl,rfl,rfl⟩ := e10'
 obtain rfl := f10_0.hlen
 obtain rfl := f10_1.hlen
 obtain ⟨n11,y11,h11⟩ := fld (size := 3) Tryz.underlying30 h 11 rfl kr
 obtain ⟨x11,x11q1,x11q2,x11q3,x11q4,x11q5,x11q6,e11,f11_0,f11_1⟩ := zPz h11
 have e11' : [c15,c16,c17] = [.bool x11.neg,.slice x11q1 x11q2 x11q3,.slice x11q4 x11q5 x11q6] := e11
 simp only [List.cons.injEq,and_true] at e11'
 obtain ⟨rfl,rfl,rfl⟩ := e11'
 obtain rfl := f11_0.hlen
 obtain rfl := f11_1.hlen
 exact ⟨⟨l0,l1,l2,l3,z4,z5,z6,l7,l8,x9,x10,x11⟩,a0,b0,a1,b1,a2,b2,a3,b3,a7,b7,a8,b8,x9q1,x9q3,x9q4,x9q6,x10q1,x10q3,x10q4,x10q6,x11q1,x11q3,x11q4,x11q6,rfl,g0,g1,g2,g3,g7,g8,f9_0,f9_1,f10_0,f10_1,f11_0,f11_1⟩
theorem zPd {v : Value} {d : DataW H} {ps : List MemPlace} {r : Reach} {base : Nat} (hok : Value.okWide Tryz.prog w r base 30 v) (h : DataW.Trod enc Tryz.prog w 0 spare held 30 v d ps) (hz : w.noneFrozen ps) (hw : ∀ n ∈ d.weights Tryz.prog 30,n ≤ 140737488351232) : ∃ x,zW (rd w X0) v x := by
 obtain ⟨⟨cs⟩,rfl,_⟩ := Go.WideShapes.okWide_struct Tryz.underlying30 hok
 obtain ⟨n,h⟩ := h
 have h : fJ enc Tryz.prog w spare held n 30 _ _ := ⟨h,hz,hw⟩
 simp only [Value.cells] at h
 obtain ⟨x,a1,a2,a3,a4,a5,a6,a7,a8,a9,a10,a11,a12,a13,a14,a15,a16,a17,a18,a19,a20,a21,a22,a23,a24,rfl,hh0,hh1,hh2,hh3,hh4,hh5,hh6,hh7,hh8,hh9,hh10,hh11⟩ := qCt h
 exact ⟨x,a1,a2,a3,a4,a5,a6,a7,a8,a9,a10,a11,a12,a13,a14,a15,a16,a17,a18,a19,a20,a21,a22,a23,a24,rfl,hh0,hh1,hh2,hh3,hh4,hh5,hh6,hh7,hh8,hh9,hh10,hh11⟩
end
open Go.ChangeShapes Go.WideShapes Go.ChangeAt IntKind
theorem zOz {H : Type} {enc : TypeId × Value → H} {w : World} {spare : Nat → Bool} {held : Bool} {P : Program} {base : Nat} {t0 t1 t2 t3 t4 t5 : TypeId} {args : Array Value} {ds : List (DataW H)} {ps : List MemPlace} (h : DataW.TrodAll enc P w base spare held [t0,t1,t2,t3,t4,t5] args.toList ds ps) : ∃ v0 v1 v2 v3 v4 v5 d0 d1 d2 d3 d4 d5 p0 p1 p2 p3 p4 p5,args = #[v0,v1,v2,v3,v4,v5] ∧ ds = [d0,d1,d2,d3,d4,d5] ∧ ps = p0 ++ p1 ++ p2 ++ p3 ++ p4 ++ p5 ∧ DataW.Trod enc P w base spare held t0 v0 d0 p0 ∧ DataW.Trod enc P w base spare held t1 v1 d1 p1 ∧ DataW.Trod enc P w base spare held t2 v2 d2 p2 ∧ DataW.Trod enc P w base spare held t3 v3 d3 p3 ∧ DataW.Trod enc P w base spare held t4 v4 d4 p4 ∧ DataW.Trod enc P w base spare held t5 v5 d5 p5 := by
 obtain ⟨v0,vs0,d0,ds0,p0,q0,hargs,rfl,rfl,hd0,h0⟩ := trodAll_cons h
 obtain ⟨v1,vs1,d1,ds1,p1,q1,rfl,rfl,rfl,hd1,h1⟩ := trodAll_cons h0
 obtain ⟨v2,vs2,d2,ds2,p2,q2,rfl,rfl,rfl,hd2,h2⟩ := trodAll_cons h1
 obtain ⟨v3,vs3,d3,ds3,p3,q3,rfl,rfl,rfl,hd3,h3⟩ := trodAll_cons h2
 obtain ⟨v4,vs4,d4,ds4,p4,q4,rfl,rfl,rfl,hd4,h4⟩ := trodAll_cons h3
 obtain ⟨v5,vs5,d5,ds5,p5,q5,rfl,rfl,rfl,hd5,h5⟩ := trodAll_cons h4
 obtain ⟨rfl,rfl,rfl⟩ := trodAll_nil h5
 exact ⟨v0,v1,v2,v3,v4,v5,d0,d1,d2,d3,d4,d5,p0,p1,p2,p3,p4,p5,by cases args; simp_all,rfl,by simp,hd0,hd1,hd2,hd3,hd4,hd5⟩
theorem zLz {H : Type} {enc : TypeId × Value → H} {w : World} {spare : Nat → Bool} {held : Bool} {P : Program} {base : Nat} {t0 t1 t2 t3 t4 t5 : TypeId} {v0 v1 v2 v3 v4 v5 : Value} {d0 d1 d2 d3 d4 d5 : DataW H} {p0 p1 p2 p3 p4 p5 : List MemPlace} (h0 : DataW.Trod enc P w base spare held t0 v0 d0 p0) (h1 : DataW.Trod enc P w base spare held t1 v1 d1 p1) (h2 : DataW.Trod enc P w base spare held t2 v2 d2 p2) (h3 : DataW.Trod enc P w base spare held t3 v3 d3 p3) (h4 : DataW.Trod enc P w base spare held t4 v4 d4 p4) (h5 : DataW.Trod enc P w base spare held t5 v5 d5 p5) : DataW.TrodAll enc P w base spare held [t0,t1,t2,t3,t4,t5] [v0,v1,v2,v3,v4,v5] [d0,d1,d2,d3,d4,d5] (p0 ++ (p1 ++ (p2 ++ (p3 ++ (p4 ++ (p5)))))) := ⟨p0,p1 ++ (p2 ++ (p3 ++ (p4 ++ (p5)))),h0,⟨p1,p2 ++ (p3 ++ (p4 ++ (p5))),h1,⟨p2,p3 ++ (p4 ++ (p5)),h2,⟨p3,p4 ++ (p5),h3,⟨p4,p5,h4,trodAll_mk1 h5,rfl⟩,rfl⟩,rfl⟩,rfl⟩,rfl⟩
end Go.Proofs.YtjnbipmlmafahaaGreat
namespace Go.Proofs.YtjnbipmlmafahaaGreat
open Go Go.Gv Go.RowKit IntKind
set_option maxRecDepth 100000
set_option maxHeartbeats 1000000
theorem zYy : xU = some true := by kernel_rfl
set_option maxHeartbeats 1000000
theorem jB {α β : Type} {o : Option α} {a : α} {f : α → Option β} (h : o = some a) : o.bind f = f a := by subst h; rfl
def Z0 (o J : Option Int) : Prop := ∃ e,o = some e ∧ (e = 0 → J = some 0)
theorem Z0.self {J : Option Int} (h : ∃ e,J = some e) : Z0 J J := h.elim fun e he => ⟨e,he,fun h => h ▸ he⟩
theorem Z0.nz {e : Int} {J : Option Int} (h : e ≠ 0) : Z0 (some e) J := ⟨e,rfl,fun h' => absurd h' h⟩
theorem Z0.trans {o J K : Option Int} (h : Z0 o J) (k : Z0 J K) : Z0 o K := by
 obtain ⟨e,h1,h2⟩ := h
 obtain ⟨f,k1,k2⟩ := k
 exact ⟨e,h1,fun h => k2 (by have := h2 h; rw [k1] at this; exact Option.some.inj this)⟩
theorem rZ {p : Prop} [Decidable p] {α : Type} {x : Option α} (h : p) : grd p x = x := if_pos h
theorem ixT {α : Type} {l : List α} {i : Int} {k : Nat} {x : α} (hi : i = (k : Int)) (h : l[k]? = some x) : ix l i = some x := by
 subst hi
 unfold ix
 rw [if_pos (Int.natCast_nonneg k)]
 simpa using h
theorem has1 (z : Int) (s : wU) : vP z s = some (decide (z < s.lo) || decide (z > s.hi)) := by
 unfold vP
 split
 ·rename_i h; simp [h]
 ·rename_i h; simp [h]
theorem idxf (s : wU) : ∀ (l : List Int) (k : Nat),∃ r,zX s (some (-1)) l k = some r ∧ (decide (r ≥ 0) = l.any fun z => decide (z < s.lo) || decide (z > s.hi))
 | [],k => ⟨-1,by simp [zX],by simp⟩
 | z :: l,k => by
  obtain ⟨r,h1,h2⟩ := idxf s l (k + 1)
  rw [zX,jB (has1 z s),List.any_cons]
  cases hz : (decide (z < s.lo) || decide (z > s.hi))
  ·exact ⟨r,by simpa using h1,by simpa using h2⟩
  ·exact ⟨k,by simp,by simp⟩
def inS (lo hi : Int) (l : List Int) : Bool := l.all fun z => decide (lo ≤ z) && decide (z ≤ hi)
theorem rO {lo hi : Int} {l : List Int} : inS lo hi l = true ↔ ∀ z ∈ l,lo ≤ z ∧ z ≤ hi := by simp [inS]
theorem aL (lo hi : Int) (l : List Int) : qL ⟨lo,hi⟩ l = some (inS lo hi l) := by
 obtain ⟨r,h1,h2⟩ := idxf ⟨lo,hi⟩ l 0
 unfold qL qY jH
 simp only [lt,List.drop_zero,h1,Option.bind_some,h2,Option.some.injEq]
 rw [List.not_any_eq_all_not,inS]
 congr 1
 funext z
 by_cases h3 : z < lo <;> by_cases h4 : z > hi <;> simp [h3,h4] <;> omega
theorem kZ (l : List Int) (m : Int) (hm : i64.wrap (0 - m) = -m) : qO l m = some (inS (-m) m l) := by
 unfold qO
 rw [hm,aL]
 rfl
theorem nR {α : Type} {l r : List α} {x : α} {k : Nat} (h : x :: r = l.drop k) : k < l.length ∧ r = l.drop (k + 1) := by
 constructor
 ·apply Classical.byContradiction
  intro hk
  rw [List.drop_eq_nil_of_le (by omega)] at h
  cases h
 ·rw [← List.tail_drop,← h]; rfl
theorem zNo (x : List Int) (J : Option Int) (hx : x.length ≤ 32) (hJ : ∃ e,J = some e) : ∀ (l : List Int) (k : Nat),l = x.drop k → Z0 (jI x J l k) J
 | [],k,_ => by rw [jI]; exact Z0.self hJ
 | z :: l,k,h => by
  obtain ⟨hk,hr⟩ := nR h
  have ih := zNo x J hx hJ l (k + 1) hr
  rw [jI]
  split
  ·exact Z0.nz (by decide)
  split
  ·exact Z0.nz (by decide)
  split
  ·rename_i h0
   obtain ⟨q,hq⟩ : ∃ q,x[k - 1]? = some q := ⟨x[k - 1]'(by omega),by simp⟩
   rw [jB (ixT (k := k - 1) (by rw [jE (by omega) (by omega)]; omega) hq)]
   split
   ·exact Z0.nz (by decide)
   ·exact ih
  ·exact ih
theorem zNq (J : Option Int) (hJ : ∃ e,J = some e) : ∀ l : List (List Int),∃ e,yD J l = some e ∧ (e = 0 → J = some 0 ∧ ∀ x ∈ l,1 ≤ x.length ∧ x.length ≤ 32)
 | [] => by
  obtain ⟨e,he⟩ := hJ
  exact ⟨e,by rw [yD]; exact he,fun h => ⟨h ▸ he,fun _ h => by cases h⟩⟩
 | x :: l => by
  obtain ⟨e,h1,h2⟩ := zNq J hJ l
  rw [yD,lt]
  split
  ·exact ⟨3,rfl,fun h => by cases h⟩
  rename_i h3
  split
  ·exact ⟨4,rfl,fun h => by cases h⟩
  rename_i h4
  have hx : x.length ≤ 32 := by omega
  have h0 : 1 ≤ x.length := by
   rcases Nat.eq_zero_or_pos x.length with h | h
   ·rw [h] at h3; exact absurd rfl h3
   ·exact h
  obtain ⟨e',h5,h6⟩ := zNo x (yD J l) hx ⟨e,h1⟩ (x.drop 0) 0 rfl
  refine ⟨e',h5,fun h => ?_⟩
  have h7 := h6 h
  rw [h1] at h7
  obtain ⟨h8,h9⟩ := h2 (Option.some.inj h7)
  exact ⟨h8,fun y hy => by
   rcases List.mem_cons.1 hy with rfl | hy
   ·exact ⟨h0,hx⟩
   ·exact h9 y hy⟩
theorem zOi (a b c : List Int) : pX [a,b,c] = some (i64.wrap (i64.wrap (i64.wrap (1 * (a.length : Int)) * (b.length : Int)) * (c.length : Int))) := by
 unfold pX lt
 simp only [List.drop_zero,sM]
theorem qBb (a b c : List Int) : ∃ e,yU [a,b,c] = some e ∧ (e = 0 → ∀ x ∈ [a,b,c],1 ≤ x.length ∧ x.length ≤ 32) := by
 unfold yU
 rw [if_neg (by simp),if_neg (by simp),lt,jB (zOi a b c)]
 have hJ : ∀ p : Prop,[Decidable p] → ∃ e,(if p then some (10 : Int) else some 0) = some e := fun p _ => by
  split
  ·exact ⟨_,rfl⟩
  ·exact ⟨_,rfl⟩
 obtain ⟨e,h1,h2⟩ := zNq _ (hJ (i64.wrap (i64.wrap (i64.wrap (1 * (a.length : Int)) * (b.length : Int)) * (c.length : Int)) > 256)) ([a,b,c].drop 0)
 exact ⟨e,h1,fun h => (h2 h).2⟩
theorem qAy (r : Raw) : ∃ e,qK r = some e := by
 unfold qK lN
 simp only [Option.bind_some]
 split
 ·exact ⟨_,rfl⟩
 split
 ·exact ⟨_,rfl⟩
 split
 ·exact ⟨_,rfl⟩
 ·exact ⟨_,rfl⟩
theorem zQt {e : Int} (h : (e != 0) = true) : e ≠ 0 := by simpa using h
theorem z_of {e : Int} (h : ¬ (e != 0) = true) : e = 0 := by simpa using h
theorem zOa (p0 : List zV) (hp : p0.length ≤ 5) (J : Raw → Option Int) (hJ : ∀ v,∃ e,J v = some e) : ∀ (l : List zV) (k : Nat) (v : Raw),l = p0.drop k → ∃ e,zT p0 J l k v = some e
 | [],k,v,_ => by rw [zT]; exact hJ v
 | x :: l,k,v,h => by
  obtain ⟨hk,hr⟩ := nR h
  rw [zT,lt]
  obtain ⟨e,he⟩ := qAy x.p
  have hA : ∃ e,(qK x.p).bind (fun y25 => if ((y25) != 0) = true then (some y25) else (if x.p.neg = true then (some 1) else (if ((x.p.ln.length : Int) == 0) = true then (some 1) else ((kH v x.p).bind fun y31 => zT p0 J l (k + 1) y31.1)))) = some e := by
   rw [jB he]
   split
   ·exact ⟨_,rfl⟩
   split
   ·exact ⟨_,rfl⟩
   split
   ·exact ⟨_,rfl⟩
   ·unfold kH
    rw [Option.bind_some]
    exact zOa p0 hp J hJ l (k + 1) _ hr
  rw [show zS (100 : Int) = some 100 from rfl,Option.bind_some,kZ _ 100 (by decide),Option.bind_some]
  split
  ·exact ⟨_,rfl⟩
  split
  ·rename_i h0
   obtain ⟨q,hq⟩ : ∃ q,p0[k - 1]? = some q := ⟨p0[k - 1]'(by omega),by simp⟩
   rw [jB (ixT (k := k - 1) (by rw [jE (by omega) (by omega)]; omega) hq)]
   split
   ·exact ⟨_,rfl⟩
   ·exact hA
  ·exact hA
theorem qBp (l : List zV) : ∃ e,yF l = some e := by
 unfold yF
 split
 ·exact ⟨_,rfl⟩
 split
 ·exact ⟨_,rfl⟩
 rename_i h5
 rw [lt]
 refine zOa l (by omega) _ (fun v => ?_) _ 0 _ rfl
 rw [show vV (1 : Int) = some (Raw.of ((1 : Int) : Rat)) from rZ (by decide),Option.bind_some]
 unfold mU
 rw [Option.bind_some]
 split
 ·exact ⟨_,rfl⟩
 ·exact ⟨_,rfl⟩
theorem c62 (x : zO) (J : Option Int) (hJ : ∃ e,J = some e) : ∀ (r k : Nat),r + k = 3 → Z0 (qA x J r k) J
 | 0,k,_ => by rw [qA]; exact Z0.self hJ
 | r + 1,k,h => by
  have ih := c62 x J hJ r (k + 1) (by omega)
  rw [qA]
  obtain ⟨q,hq⟩ : ∃ q,[x.alert,x.strengthen,x.reversal][k]? = some q := ⟨[x.alert,x.strengthen,x.reversal][k]'(by simp; omega),by simp⟩
  rw [jB (ixT (k := k) rfl hq)]
  obtain ⟨e,he⟩ := qAy q
  rw [jB he]
  split
  ·rename_i hn; exact Z0.nz (zQt hn)
  split
  ·exact Z0.nz (by decide)
  ·exact ih
theorem c78 (x : zO) (J : Option Int) (hJ : ∃ e,J = some e) : ∀ (r k : Nat),r + k = 2 → Z0 (zZ x J r k) J
 | 0,k,_ => by rw [zZ]; exact Z0.self hJ
 | r + 1,k,h => by
  have ih := c78 x J hJ r (k + 1) (by omega)
  rw [zZ]
  obtain ⟨q,hq⟩ : ∃ q,[x.ownNoise,x.otherNoise][k]? = some q := ⟨[x.ownNoise,x.otherNoise][k]'(by simp; omega),by simp⟩
  rw [jB (ixT (k := k) rfl hq)]
  obtain ⟨e,he⟩ := qBp q
  rw [jB he]
  split
  ·rename_i hn; exact Z0.nz (zQt hn)
  ·exact ih
theorem c92 (J : Option Int) (hJ : ∃ e,J = some e) : ∀ l : List qJ,∃ e,qC 100 J l = some e ∧ (e = 0 → J = some 0 ∧ ∀ y ∈ l,y.lo ≤ y.hi ∧ -100 ≤ y.lo ∧ y.lo ≤ 100 ∧ -100 ≤ y.hi ∧ y.hi ≤ 100)
 | [] => by
  obtain ⟨e,he⟩ := hJ
  exact ⟨e,by rw [qC]; exact he,fun h => ⟨h ▸ he,fun _ h => by cases h⟩⟩
 | y :: l => by
  obtain ⟨e,h1,h2⟩ := c92 J hJ l
  have key : ∀ v : Bool,∃ e,(if v = true then (some 6) else (if (y.lo) > y.hi then (some 1) else ((qO ([y.lo,y.hi]) 100).bind fun y104 => if (!y104) = true then (some 1) else (qC 100 J l)))) = some e ∧ (e = 0 → J = some 0 ∧ ∀ z ∈ y :: l,z.lo ≤ z.hi ∧ -100 ≤ z.lo ∧ z.lo ≤ 100 ∧ -100 ≤ z.hi ∧ z.hi ≤ 100) := fun v => by
   split
   ·exact ⟨6,rfl,fun h => by cases h⟩
   split
   ·exact ⟨1,rfl,fun h => by cases h⟩
   rename_i hlo
   rw [kZ _ 100 (by decide),Option.bind_some]
   split
   ·exact ⟨1,rfl,fun h => by cases h⟩
   rename_i hin
   have hin' : inS (-100) 100 [y.lo,y.hi] = true := by simpa using hin
   have h9 := rO.1 hin'
   have h10 := h9 y.lo (by simp)
   have h11 := h9 y.hi (by simp)
   refine ⟨e,h1,fun h => ⟨(h2 h).1,fun z hz => ?_⟩⟩
   rcases List.mem_cons.1 hz with rfl | hz
   ·exact ⟨by omega,h10.1,h10.2,h11.1,h11.2⟩
   ·exact (h2 h).2 z hz
  rw [qC,lt]
  split
  ·exact key _
  ·exact key _
structure zFe (x : zO) : Prop where
 h1 : 1 ≤ x.height.length
 h2 : x.height.length ≤ 32
 o1 : 1 ≤ x.own.length
 o2 : x.own.length ≤ 32
 t1 : 1 ≤ x.other.length
 t2 : x.other.length ≤ 32
 a1 : 1 ≤ x.advisories.length
 a2 : x.advisories.length ≤ 6
 p1 : 0 ≤ x.pull
 p2 : x.pull ≤ 100
 adv : ∀ y ∈ x.advisories.drop 1,y.lo ≤ y.hi ∧ -100 ≤ y.lo ∧ y.lo ≤ 100 ∧ -100 ≤ y.hi ∧ y.hi ≤ 100
theorem zFf (x : zO) : ∃ n,jK x = some n ∧ (x.height.length ≤ 32 → x.own.length ≤ 32 → x.other.length ≤ 32 → x.advisories.length ≤ 6 → n = ((x.height.length * x.own.length * x.other.length * x.advisories.length : Nat) : Int)) := by
 unfold jK
 rw [Option.bind_some]
 refine ⟨_,rfl,fun h1 h2 h3 h4 => ?_⟩
 have e1 : x.height.length * x.own.length ≤ 32 * 32 := Nat.mul_le_mul h1 h2
 have e2 : x.height.length * x.own.length * x.other.length ≤ 32 * 32 * 32 := Nat.mul_le_mul e1 h3
 have e3 : x.height.length * x.own.length * x.other.length * x.advisories.length ≤ 32 * 32 * 32 * 6 := Nat.mul_le_mul e2 h4
 have w1 : ∀ a b : Nat,a * b ≤ 196608 → i64.wrap ((a : Int) * (b : Int)) = ((a * b : Nat) : Int) := fun a b h => by
  rw [← Int.natCast_mul]
  exact jE (by omega) (by omega)
 rw [w1 _ _ (by omega),w1 _ _ (by omega),w1 _ _ (by omega)]
theorem nM (x : zO) : ∃ e,qF x = some e ∧ (e = 0 → zFe x) := by
 unfold qF
 rw [show zS (100 : Int) = some 100 from rfl,Option.bind_some,show vO x = some [x.height,x.own,x.other] from rfl,Option.bind_some]
 obtain ⟨e1,h1,g1⟩ := qBb x.height x.own x.other
 rw [jB h1]
 split
 ·rename_i hn; exact ⟨e1,rfl,fun h => absurd h (zQt hn)⟩
 rename_i hz1
 have hg := g1 (z_of hz1)
 rw [show zS (50000 : Int) = some 50000 from rfl,Option.bind_some,kZ _ 50000 (by decide),Option.bind_some]
 split
 ·exact ⟨1,rfl,fun h => by cases h⟩
 rw [kZ _ 100 (by decide),Option.bind_some]
 split
 ·exact ⟨1,rfl,fun h => by cases h⟩
 rw [kZ _ 100 (by decide),Option.bind_some]
 split
 ·exact ⟨1,rfl,fun h => by cases h⟩
 split
 ·exact ⟨3,rfl,fun h => by cases h⟩
 rename_i ha1
 split
 ·exact ⟨4,rfl,fun h => by cases h⟩
 rename_i ha2
 have ha1' : 1 ≤ x.advisories.length := by
  rcases Nat.eq_zero_or_pos x.advisories.length with h | h
  ·rw [h] at ha1; exact absurd rfl ha1
  ·exact h
 rw [lt,rZ (by omega)]
 have hJ : ∃ e,((qL (wU.mk 0 100) ([x.pull])).bind fun y38 => if (!y38) = true then (some 1) else ((qL (wU.mk 0 50000) ([x.near])).bind fun y44 => if (!y44) = true then (some 1) else ((qL (wU.mk 0 24) ([x.steps])).bind fun y50 => if (!y50) = true then (some 1) else (lt (lt ((jK x).bind fun y56 => if (y56) > 200 then (some 10) else (some 0)) fun J54 => qA x J54 ((3 : Int).toNat - 0) 0) fun J53 => zZ x J53 ((2 : Int).toNat - 0) 0)))) = some e ∧ (e = 0 → 0 ≤ x.pull ∧ x.pull ≤ 100) := by
  rw [aL,Option.bind_some]
  split
  ·exact ⟨1,rfl,fun h => by cases h⟩
  rename_i hp
  have hp' : inS 0 100 [x.pull] = true := by simpa using hp
  have hp2 := rO.1 hp' x.pull (by simp)
  rw [aL,Option.bind_some]
  split
  ·exact ⟨1,rfl,fun h => by cases h⟩
  rw [aL,Option.bind_some]
  split
  ·exact ⟨1,rfl,fun h => by cases h⟩
  obtain ⟨n,hn,_⟩ := zFf x
  rw [lt,lt,jB hn]
  have hJ0 : ∃ e,(if n > 200 then some (10 : Int) else some 0) = some e := by
   split
   ·exact ⟨_,rfl⟩
   ·exact ⟨_,rfl⟩
  obtain ⟨e6,h6,_⟩ := c62 x _ hJ0 3 0 rfl
  obtain ⟨e7,h7,_⟩ := c78 x _ ⟨e6,h6⟩ 2 0 rfl
  exact ⟨e7,h7,fun _ => hp2⟩
 obtain ⟨e2,h2,g2⟩ := hJ
 obtain ⟨e3,h3,g3⟩ := c92 _ ⟨e2,h2⟩ ((x.advisories.drop 1).drop 0)
 refine ⟨e3,h3,fun h => ?_⟩
 obtain ⟨g4,g5⟩ := g3 h
 rw [h2] at g4
 have g6 := g2 (Option.some.inj g4)
 have b1 := hg x.height (by simp)
 have b2 := hg x.own (by simp)
 have b3 := hg x.other (by simp)
 exact ⟨b1.1,b1.2,b2.1,b2.2,b3.1,b3.2,ha1',by omega,g6.1,g6.2,g5⟩
set_option maxHeartbeats 1000000
theorem zKn : ∀ l : List Raw,∃ b,yP l = some b := by
 have h : ∀ l : List Raw,∃ b,qH (some false) l = some b := by
  intro l
  induction l with
  | nil => exact ⟨false,by rw [qH]⟩
  | cons x l ih =>
   rw [qH]
   repeat' split
   all_goals first | exact ⟨_,rfl⟩ | exact ih
 intro l
 unfold yP lt
 exact h _
theorem qBq (x : zO) : ∃ b,xG x = some b := by
 have h18 : ∀ (J : Option Bool),(∃ b,J = some b) → ∀ l : List zV,∃ b,qX J l = some b := by
  intro J hJ l
  induction l with
  | nil => rw [qX]; exact hJ
  | cons x l ih =>
   rw [qX]
   obtain ⟨b,hb⟩ := zKn [x.p]
   rw [jB hb]
   split
   ·exact ⟨_,rfl⟩
   ·exact ih
 have h28 : ∀ (J : Option Bool),(∃ b,J = some b) → ∀ l : List zV,∃ b,qW J l = some b := by
  intro J hJ l
  induction l with
  | nil => rw [qW]; exact hJ
  | cons x l ih =>
   rw [qW]
   obtain ⟨b,hb⟩ := zKn [x.p]
   rw [jB hb]
   split
   ·exact ⟨_,rfl⟩
   ·exact ih
 unfold xG
 repeat' split
 all_goals try exact ⟨_,rfl⟩
 obtain ⟨b,hb⟩ := zKn [x.alert,x.strengthen,x.reversal]
 rw [lt,lt,jB hb]
 exact h28 _ (h18 _ ⟨b,rfl⟩ _) _
def nV (x : zO) : Nat := x.height.length * x.own.length * x.other.length
theorem zFe.size {x : zO} (g : zFe x) : jK x = some ((nV x * x.advisories.length : Nat) : Int) := by
 obtain ⟨n,h,k⟩ := zFf x
 rw [h,k g.h2 g.o2 g.t2 g.a2]
 rfl
theorem zFe.nV_le {x : zO} (g : zFe x) : nV x ≤ 32768 := by
 have e1 : x.height.length * x.own.length ≤ 32 * 32 := Nat.mul_le_mul g.h2 g.o2
 exact Nat.mul_le_mul e1 g.t2
theorem bU {x : zO} (hc : qF x = some 0) (g : zFe x) (z : Int) : yN x [z] = some (if 0 ≤ z ∧ z < (x.advisories.length : Int) then 0 else 8) := by
 have h1 := g.a1
 have h2 := g.a2
 unfold yN
 rw [jB hc,if_neg (by decide),jE (by omega) (by omega),aL,Option.bind_some]
 by_cases hz : 0 ≤ z ∧ z < (x.advisories.length : Int)
 ·rw [if_pos hz,if_neg]
  have : inS 0 ((x.advisories.length : Int) - 1) [z] = true := rO.2 fun y hy => by
   rw [List.mem_singleton] at hy; subst hy; omega
  simp [this]
 ·rw [if_neg hz,if_pos]
  have : inS 0 ((x.advisories.length : Int) - 1) [z] = false := by
   rw [Bool.eq_false_iff]
   intro h
   have := rO.1 h z (by simp)
   omega
  simp [this]
theorem zGt {x : zO} (g : zFe x) {u b : Int} (hb : 0 ≤ b ∧ b < (x.advisories.length : Int)) (hu : -100 ≤ u ∧ u ≤ 100) : ∃ y,ix x.advisories b = some y ∧ (b ≠ 0 → y.lo ≤ y.hi ∧ -100 ≤ y.lo ∧ y.lo ≤ 100 ∧ -100 ≤ y.hi ∧ y.hi ≤ 100) ∧
  jJ x u b = some (if b = 0 then u else if u < y.lo then (if y.lo < u + x.pull then y.lo else u + x.pull) else if u > y.hi then (if y.hi > u - x.pull then y.hi else u - x.pull) else u) := by
 have hp1 := g.p1
 have hp2 := g.p2
 obtain ⟨k,rfl⟩ := Int.eq_ofNat_of_zero_le hb.1
 have hk : k < x.advisories.length := by omega
 have hy := List.getElem?_eq_getElem hk
 have hix := ixT (i := (k : Int)) rfl hy
 refine ⟨_,hix,fun h0 => ?_,?_⟩
 ·have hk0 : k ≠ 0 := by rintro rfl; exact h0 rfl
  refine g.adv _ (List.mem_of_getElem? (i := k - 1) ?_)
  rw [List.getElem?_drop,show 1 + (k - 1) = k by omega]
  exact hy
 ·unfold jJ
  rw [jB hix,jE (x := u + x.pull) (by omega) (by omega),jE (x := u - x.pull) (by omega) (by omega)]
  by_cases hk0 : (k : Int) = 0
  ·rw [if_pos (by simpa using hk0),if_pos hk0]
  ·rw [if_neg (by simpa using hk0),if_neg hk0]
   simp only [Option.bind_some]
   repeat' split
   all_goals rfl
theorem zRx {x : zO} {e : Int} (hc : qF x = some e) (g : e = 0 → zFe x) (u b : Int) : ∃ r f,xF x u b = some (r,f) ∧ (f ≠ 0 → r = 0) ∧
  (f = 0 → e = 0 ∧ (-100 ≤ u ∧ u ≤ 100) ∧ (0 ≤ b ∧ b < (x.advisories.length : Int)) ∧ jJ x u b = some r) := by
 unfold xF
 rw [jB hc]
 split
 ·rename_i hn; exact ⟨0,e,rfl,fun _ => rfl,fun h => absurd h (zQt hn)⟩
 rename_i hz
 obtain rfl := z_of hz
 have g := g rfl
 rw [show zS (100 : Int) = some 100 from rfl,Option.bind_some,kZ _ 100 (by decide),Option.bind_some]
 split
 ·exact ⟨0,1,rfl,fun _ => rfl,fun h => by cases h⟩
 rename_i hu
 have hu' : inS (-100) 100 [u] = true := by simpa using hu
 have V2 := rO.1 hu' u (by simp)
 rw [bU hc g,Option.bind_some]
 by_cases hb : 0 ≤ b ∧ b < (x.advisories.length : Int)
 ·rw [if_pos hb,if_neg (by decide)]
  obtain ⟨y,_,_,h3⟩ := zGt g hb V2
  rw [jB h3]
  exact ⟨_,0,rfl,fun h => absurd rfl h,fun _ => ⟨rfl,V2,hb,h3⟩⟩
 ·rw [if_neg hb,if_pos (by decide)]
  exact ⟨0,8,rfl,fun _ => rfl,fun h => by cases h⟩
end Go.Proofs.YtjnbipmlmafahaaGreat
namespace Go.Gv
def DB (D B : Nat) (q : Rat) : Prop := ∃ n : Int,q = mkRat n D ∧ n.natAbs ≤ B
theorem qAq {n : Int} {d : Nat} (h1 : n.natAbs < xL) (h2 : d < xL) : xM (mkRat n d) = 0 := by
 unfold xM
 refine if_pos ⟨?_,?_⟩
 ·rw [Rat.num_mkRat]
  split
  ·exact Nat.lt_of_le_of_lt (Nat.zero_le _) h2
  ·refine Nat.lt_of_le_of_lt ?_ h1
   rw [Int.natAbs_ediv_of_dvd (Int.ofNat_dvd_left.2 (Nat.gcd_dvd_right _ _))]
   exact Nat.div_le_self _ _
 ·have hd : (mkRat n d).den ≤ d ∨ (mkRat n d).den = 1 := by
   rw [Rat.den_mkRat]
   split
   ·exact .inr rfl
   ·exact .inl (Nat.div_le_self _ _)
  unfold dK
  split
  ·exact Nat.lt_of_le_of_lt (Nat.zero_le _) h2
  ·rcases hd with h | h
   ·exact Nat.lt_of_le_of_lt h h2
   ·rename_i h9; exact absurd h h9
theorem DB.fit {D B : Nat} {q : Rat} (h : DB D B q) (hD : D < xL) (hB : B < xL) : xM q = 0 := by
 obtain ⟨n,rfl,h2⟩ := h
 exact qAq (Nat.lt_of_le_of_lt h2 hB) hD
theorem DB.mono {D B C : Nat} {q : Rat} (h : DB D B q) (k : B ≤ C) : DB D C q := by
 obtain ⟨n,h1,h2⟩ := h
 exact ⟨n,h1,Nat.le_trans h2 k⟩
theorem DB.zero {D : Nat} : DB D 0 0 := ⟨0,by simp,Nat.le_refl _⟩
theorem DB.add {D A B : Nat} {p q : Rat} (hD : D ≠ 0) (h : DB D A p) (k : DB D B q) : DB D (A + B) (p + q) := by
 obtain ⟨m,rfl,h2⟩ := h
 obtain ⟨n,rfl,k2⟩ := k
 refine ⟨m + n,?_,?_⟩
 ·rw [Rat.mkRat_add_mkRat _ _ hD hD,← Int.add_mul,Rat.mkRat_mul_right hD]
 ·have := Int.natAbs_add_le m n
  omega
theorem DB.mul {D E A B : Nat} {p q : Rat} (h : DB D A p) (k : DB E B q) : DB (D * E) (A * B) (p * q) := by
 obtain ⟨m,rfl,h2⟩ := h
 obtain ⟨n,rfl,k2⟩ := k
 refine ⟨m * n,Rat.mkRat_mul_mkRat _ _ _ _,?_⟩
 rw [Int.natAbs_mul]
 exact Nat.mul_le_mul h2 k2
theorem DB.lift {D B k : Nat} {q : Rat} (h : DB D B q) (hk : k ≠ 0) : DB (D * k) (B * k) q := by
 obtain ⟨n,rfl,h2⟩ := h
 refine ⟨n * k,?_,?_⟩
 ·rw [Rat.mkRat_mul_right hk]
 ·rw [Int.natAbs_mul,Int.natAbs_natCast]
  exact Nat.mul_le_mul_right _ h2
theorem DB.dvd {D E B : Nat} {q : Rat} (h : DB D B q) (hd : D ∣ E) (hE : E ≠ 0) : DB E (B * E) q := by
 obtain ⟨k,rfl⟩ := hd
 have hk : k ≠ 0 := fun e => hE (by rw [e,Nat.mul_zero])
 have hD : D ≠ 0 := fun e => hE (by rw [e,Nat.zero_mul])
 refine (h.lift hk).mono (Nat.mul_le_mul_left _ ?_)
 exact Nat.le_mul_of_pos_left _ (Nat.pos_of_ne_zero hD)
def gF : List Nat → Nat
 | [] => 1
 | x :: l => x * gF l
theorem gT : ∀ {l : List Nat} {x : Nat},x ∈ l → x ∣ gF l
 | y :: l,x,h => by
  rcases List.mem_cons.1 h with rfl | h
  ·exact Nat.dvd_mul_right _ _
  ·exact Nat.dvd_trans (gT h) (Nat.dvd_mul_left _ _)
theorem fA : ∀ {l : List Nat},(∀ x ∈ l,x ≠ 0) → gF l ≠ 0
 | [],_ => by decide
 | y :: l,h => Nat.mul_ne_zero (h y (by simp)) (fA fun x hx => h x (by simp [hx]))
theorem dU {K : Nat} (hK : 1 ≤ K) : ∀ {l : List Nat} {n : Nat},(∀ x ∈ l,x ≤ K) → l.length ≤ n → gF l ≤ K ^ n
 | [],n,_,_ => Nat.one_le_pow _ _ hK
 | y :: l,0,_,h => by simp at h
 | y :: l,n + 1,h,hn => by
  rw [Nat.pow_succ,Nat.mul_comm]
  exact Nat.mul_le_mul (h y (by simp)) (dU hK (fun x hx => h x (by simp [hx])) (by simpa using hn))
theorem sQ {q : Rat} (h : xM q = 0) : (Raw.of q).chk = 0 ∧ (Raw.of q).rat = q := ⟨Raw.of_chk h,Raw.of_rat q⟩
theorem nL {a b : Raw} {q : Rat} (ha : a.chk = 0) (hb : b.chk = 0) (h : xM q = 0) : opR a b q = Raw.of q ∧ opE a b q = 0 := by
 have e : opE a b q = 0 := by unfold opE; rw [ha,hb,h]; rfl
 exact ⟨if_pos e,e⟩
end Go.Gv
namespace Go.Proofs.YtjnbipmlmafahaaGreat
open Go Go.Gv Go.RowKit IntKind
set_option maxRecDepth 100000
set_option maxHeartbeats 1000000
structure wF (l : List Int) : Prop where
 ne : 1 ≤ l.length
 le : l.length ≤ 32
 asc : l.Pairwise (· < ·)
 bd : ∀ z ∈ l,-50000 ≤ z ∧ z ≤ 50000
theorem wF.lt {l : List Int} (h : wF l) {i j : Nat} {x y : Int} (hij : i < j) (hx : l[i]? = some x) (hy : l[j]? = some y) : x < y := by
 obtain ⟨hi,rfl⟩ := List.getElem?_eq_some_iff.1 hx
 obtain ⟨hj,rfl⟩ := List.getElem?_eq_some_iff.1 hy
 exact List.pairwise_iff_getElem.1 h.asc i j hi hj hij
theorem wF.bdi {l : List Int} (h : wF l) {i : Nat} {x : Int} (hx : l[i]? = some x) : -50000 ≤ x ∧ x ≤ 50000 := h.bd x (List.mem_of_getElem? hx)
def rH (a z x : Int) : Int := if (if z < x then z else x) > a then if z < x then z else x else a
def sO (l : List Int) (x : Int) : Int := rH (l.head?.getD 0) (l.getLast?.getD 0) x
theorem zMl {a z x : Int} (h : a ≤ z) : a ≤ rH a z x ∧ rH a z x ≤ z := by
 unfold rH
 split <;> split <;> omega
def wD (l : List Int) (c : Int) (S : List (Nat × Rat)) : Prop :=
 (∃ k,l[k]? = some c ∧ S = [(k,1)]) ∨ (∃ k a b,l[k]? = some a ∧ l[k + 1]? = some b ∧ a < c ∧ c < b ∧ S = [(k,mkRat (b - c) (b - a).toNat),(k + 1,mkRat (c - a) (b - a).toNat)])
def zOr (p : Nat × Rat) : yS := ⟨(p.1 : Int),Raw.of p.2⟩
def dX (p : Nat × Rat) : zU := ⟨(p.1 : Int),Raw.of p.2⟩
theorem zXg {n d : Int} (h1 : -9223372036854775808 ≤ n ∧ n ≤ 9223372036854775807) (h2 : 0 < d ∧ d ≤ 9223372036854775807) : fD n d = some (Raw.of (mkRat n d.toNat),0) := by
 unfold fD
 rw [rZ ⟨h1,⟨by omega,h2.2⟩,by omega⟩]
 have e : decide (d < 0) = false := by simp; omega
 have e2 : (!(decide (n < 0) == decide (d < 0))) = decide (n < 0) := by rw [e]; cases decide (n < 0) <;> rfl
 rw [e2,zLn]
 have e3 : d.natAbs = d.toNat := by omega
 rw [e3]
theorem zRn {l : List Int} (h : wF l) {p1 x4 x6 : Int} (h4 : l[0]? = some x4) (h6 : l[l.length - 1]? = some x6) (J : List yS → Option (List yS)) :
  ∀ (r : List Int) (k : Nat),r = l.drop k → (∀ j y,j < k → l[j]? = some y → y < rH x4 x6 p1) → ∃ S,wD l (rH x4 x6 p1) S ∧ vI l p1 x4 x6 J r k = J (S.map zOr) := by
 have hle : x4 ≤ x6 := by
  rcases Nat.eq_zero_or_pos (l.length - 1) with e | e
  ·rw [e] at h6; rw [h4] at h6; cases h6; exact Int.le_refl _
  ·exact Int.le_of_lt (h.lt e h4 h6)
 obtain ⟨c1,c2⟩ := zMl (x := p1) hle
 intro r
 induction r with
 | nil =>
  intro k hk hb
  have : l.length ≤ k := by
   have := congrArg List.length hk
   simp at this
   omega
  have hne := h.ne
  have := hb (l.length - 1) x6 (by omega) h6
  omega
 | cons x r ih =>
  intro k hk hb
  obtain ⟨hkl,hr⟩ := nR hk
  have hx : l[k]? = some x := by
   have := congrArg List.head? hk
   rw [List.head?_drop] at this
   exact this.symm
  have bx := h.bdi hx
  have b4 := h.bdi h4
  have b6 := h.bdi h6
  rw [vI]
  show ∃ S,wD l (rH x4 x6 p1) S ∧ ((some (rH x4 x6 p1 == x)).bind _) = _
  rw [Option.bind_some]
  by_cases e : rH x4 x6 p1 = x
  ·refine ⟨[(k,1)],.inl ⟨k,by rw [e]; exact hx,rfl⟩,?_⟩
   rw [if_pos (by simp [e]),jB (zXg (by omega) (by omega)),rZ (by decide)]
   rfl
  ·rw [if_neg (by simp [e])]
   show ∃ S,_ ∧ ((some (decide (rH x4 x6 p1 < x))).bind _) = _
   rw [Option.bind_some]
   by_cases e2 : rH x4 x6 p1 < x
   ·rw [if_pos (by simp [e2])]
    have hk0 : 0 < k := by
     rcases Nat.eq_zero_or_pos k with h0 | h0
     ·subst h0; rw [h4] at hx; cases hx; omega
     ·exact h0
    obtain ⟨q,hq⟩ : ∃ q,l[k - 1]? = some q := ⟨l[k - 1]'(by omega),by simp⟩
    have bq := h.bdi hq
    have hqc := hb (k - 1) q (by omega) hq
    have hk32 := h.le
    have w1 : i64.wrap ((k : Int) - 1) = ((k - 1 : Nat) : Int) := by rw [jE (by omega) (by omega)]; omega
    rw [jB (ixT (k := k - 1) w1 hq)]
    show ∃ S,_ ∧ ((some (i64.wrap (x - rH x4 x6 p1))).bind _) = _
    rw [Option.bind_some,jE (x := x - rH x4 x6 p1) (by omega) (by omega),jE (x := x - q) (by omega) (by omega),jB (zXg (by omega) (by omega)),rZ (by decide)]
    show ∃ S,_ ∧ ((some (i64.wrap (rH x4 x6 p1 - q))).bind _) = _
    rw [Option.bind_some,jE (x := rH x4 x6 p1 - q) (by omega) (by omega),jB (zXg (by omega) (by omega)),rZ (by show (1 + 1) * 64 ≤ 140737488355328; decide),w1]
    refine ⟨[(k - 1,mkRat (x - rH x4 x6 p1) (x - q).toNat),(k - 1 + 1,mkRat (rH x4 x6 p1 - q) (x - q).toNat)],.inr ⟨k - 1,q,x,hq,by rw [Nat.sub_add_cancel hk0]; exact hx,hqc,e2,rfl⟩,?_⟩
    rw [Nat.sub_add_cancel hk0]
    rfl
   ·rw [if_neg (by simp [e2])]
    exact ih (k + 1) hr fun j y hj hy => by
     rcases Nat.lt_succ_iff_lt_or_eq.1 hj with h' | h'
     ·exact hb j y h' hy
     ·subst h'; rw [hx] at hy; cases hy; omega
theorem zTb {l : List Int} {x : Int} (h : l[0]? = some x) : l.head?.getD 0 = x := by
 cases l <;> simp_all
theorem zVq {l : List Int} {x : Int} (h : l[l.length - 1]? = some x) : l.getLast?.getD 0 = x := by
 rw [List.getLast?_eq_getElem?,h]; rfl
theorem zCs {l : List Int} (h : wF l) (x : Int) : ∃ S,wD l (sO l x) S ∧ tC l x = some (S.map zOr) := by
 have hn := h.ne
 have hn2 := h.le
 obtain ⟨a,ha⟩ : ∃ a,l[0]? = some a := ⟨l[0]'(by omega),by simp⟩
 obtain ⟨z,hz⟩ : ∃ z,l[l.length - 1]? = some z := ⟨l[l.length - 1]'(by omega),by simp⟩
 obtain ⟨S,h1,h2⟩ := zRn h (p1 := x) ha hz (fun v => some v) (l.drop 0) 0 rfl (fun j y hj _ => by omega)
 refine ⟨S,?_,?_⟩
 ·rw [sO,zTb ha,zVq hz]; exact h1
 ·unfold tC
  rw [jB (ixT (l := l) (i := 0) (k := 0) rfl ha),jB (ixT (k := l.length - 1) (by rw [jE (by omega) (by omega)]; omega) hz)]
  exact h2
theorem wD.db {l : List Int} (h : wF l) {c : Int} {S : List (Nat × Rat)} (hs : wD l c S) : S.length ≤ 2 ∧ (∀ s ∈ S,s.1 < l.length) ∧ ∃ d,d ≠ 0 ∧ d ≤ 100000 ∧ ∀ s ∈ S,DB d d s.2 := by
 rcases hs with ⟨k,h1,rfl⟩ | ⟨k,a,b,h1,h2,h3,h4,rfl⟩
 ·refine ⟨by simp,fun s hs => ?_,1,by decide,by decide,fun s hs => ?_⟩
  ·rw [List.mem_singleton.1 hs]; exact (List.getElem?_eq_some_iff.1 h1).1
  ·rw [List.mem_singleton.1 hs]; exact ⟨1,rfl,Nat.le_refl _⟩
 ·have ba := h.bdi h1
  have bb := h.bdi h2
  refine ⟨by simp,fun s hs => ?_,(b - a).toNat,by omega,by omega,fun s hs => ?_⟩
  ·rcases List.mem_cons.1 hs with rfl | hs
   ·exact (List.getElem?_eq_some_iff.1 h1).1
   ·rw [List.mem_singleton.1 hs]; exact (List.getElem?_eq_some_iff.1 h2).1
  ·rcases List.mem_cons.1 hs with rfl | hs
   ·exact ⟨_,rfl,by omega⟩
   ·rw [List.mem_singleton.1 hs]; exact ⟨_,rfl,by omega⟩
def sS (len : Nat) (W S : List (Nat × Rat)) : List (Nat × Rat) := W.flatMap fun p => S.map fun s => (p.1 * len + s.1,p.2 * s.2)
theorem zJj (len : Nat) (S : List (Nat × Rat)) : sS len [] S = [] := rfl
theorem zCd (len : Nat) (p : Nat × Rat) (W S : List (Nat × Rat)) : sS len (p :: W) S = (S.map fun s => (p.1 * len + s.1,p.2 * s.2)) ++ sS len W S := by simp [sS]
theorem gP {len : Nat} {S : List (Nat × Rat)} (hs : S.length ≤ 2) : ∀ {W : List (Nat × Rat)} {n : Nat},W.length ≤ n → (sS len W S).length ≤ 2 * n
 | [],n,_ => by simp [zJj]
 | p :: W,0,h => by simp at h
 | p :: W,n + 1,h => by
  rw [zCd,List.length_append,List.length_map]
  have := gP (len := len) hs (W := W) (n := n) (by simpa using h)
  omega
theorem mE {len D B d b : Nat} {W S : List (Nat × Rat)} (hw : ∀ p ∈ W,DB D B p.2) (hs : ∀ s ∈ S,DB d b s.2) : ∀ q ∈ sS len W S,DB (D * d) (B * b) q.2 := by
 intro q hq
 obtain ⟨p,hp,hq⟩ := List.mem_flatMap.1 hq
 obtain ⟨s,h1,rfl⟩ := List.mem_map.1 hq
 exact (hw p hp).mul (hs s h1)
theorem bG {len N : Nat} {W S : List (Nat × Rat)} (hw : ∀ p ∈ W,p.1 < N) (hs : ∀ s ∈ S,s.1 < len) : ∀ q ∈ sS len W S,q.1 < N * len := by
 intro q hq
 obtain ⟨p,hp,hq⟩ := List.mem_flatMap.1 hq
 obtain ⟨s,h1,rfl⟩ := List.mem_map.1 hq
 have a := hw p hp
 have c := hs s h1
 show p.1 * len + s.1 < N * len
 calc p.1 * len + s.1 < p.1 * len + len := by omega
  _ = (p.1 + 1) * len := by rw [Nat.succ_mul]
  _ ≤ N * len := Nat.mul_le_mul_right _ a
theorem l34 {l : List Int} {p : Nat × Rat} (J : List zU → Option (List zU × Int)) (hp : xM p.2 = 0) : ∀ (S : List (Nat × Rat)) (acc : List zU),acc.length + S.length ≤ 1000 → (∀ s ∈ S,xM s.2 = 0 ∧ xM (p.2 * s.2) = 0 ∧ p.1 * l.length + s.1 < 100000) →
  xB l (dX p) J (S.map zOr) acc = J (acc ++ (S.map fun s => dX (p.1 * l.length + s.1,p.2 * s.2)))
 | [],acc,_,_ => by simp [xB]
 | s :: S,acc,hl,hs => by
  obtain ⟨h1,h2,h3⟩ := hs s (by simp)
  rw [List.map_cons,xB]
  have e : rE (dX p).w (zOr s).w = some (Raw.of (p.2 * s.2),0) := by
   unfold rE
   rw [show (dX p).w = Raw.of p.2 from rfl,show (zOr s).w = Raw.of s.2 from rfl,Raw.of_rat,Raw.of_rat,(nL (sQ hp).1 (sQ h1).1 h2).1,(nL (sQ hp).1 (sQ h1).1 h2).2]
  rw [jB e,rZ (by simp at hl; omega)]
  have w : i64.wrap (i64.wrap ((dX p).vertex * (l.length : Int)) + (zOr s).index) = ((p.1 * l.length + s.1 : Nat) : Int) := by
   show i64.wrap (i64.wrap ((p.1 : Int) * (l.length : Int)) + (s.1 : Int)) = _
   obtain ⟨t,ht⟩ : ∃ t,t = p.1 * l.length := ⟨_,rfl⟩
   rw [← ht] at h3
   rw [← Int.natCast_mul,← ht,jE (x := (t : Int)) (by omega) (by omega),jE (by omega) (by omega)]
   simp
  rw [w,l34 J hp S _ (by simp at hl ⊢; omega) fun s hs' => hs s (by simp [hs'])]
  simp [dX]
theorem l21 {l : List Int} {p1 : List Int} {k : Nat} {z : Int} {S : List (Nat × Rat)} (J : List zU → Option (List zU × Int)) (hz : p1[k]? = some z) (hS : tC l z = some (S.map zOr)) (hs : ∀ s ∈ S,xM s.2 = 0) (h2 : S.length ≤ 2) :
  ∀ (W : List (Nat × Rat)) (acc : List zU),acc.length + 2 * W.length ≤ 1000 → (∀ p ∈ W,xM p.2 = 0 ∧ ∀ s ∈ S,xM (p.2 * s.2) = 0 ∧ p.1 * l.length + s.1 < 100000) →
  xE p1 k l J (W.map dX) acc = J (acc ++ (sS l.length W S).map dX)
 | [],acc,_,_ => by simp [xE,zJj]
 | p :: W,acc,hl,hw => by
  obtain ⟨g1,g2⟩ := hw p (by simp)
  rw [List.map_cons,xE,lt,jB (ixT (k := k) rfl hz),jB hS,List.drop_zero,l34 _ g1 S acc (by simp at hl; omega) fun s h => ⟨hs s h,g2 s h⟩]
  rw [l21 J hz hS hs h2 W _ (by simp at hl ⊢; omega) fun q hq => hw q (by simp [hq]),zCd,List.map_append,List.append_assoc,List.map_map]
  rfl
theorem k128 : 1000000000000000 < xL := by
 refine Nat.lt_of_lt_of_le (show 1000000000000000 < 4294967296 ^ 2 by decide) ?_
 exact Nat.pow_le_pow_right (by decide) (by decide)
def aI (a b c : List Int) (x y z : Int) (W : List (Nat × Rat)) : Prop :=
 ∃ Sa Sb Sc,wD a (sO a x) Sa ∧ wD b (sO b y) Sb ∧ wD c (sO c z) Sc ∧ W = sS c.length (sS b.length (sS a.length [(0,1)] Sa) Sb) Sc
theorem aI.db {a b c : List Int} (ha : wF a) (hb : wF b) (hc : wF c) {x y z : Int} {W : List (Nat × Rat)} (h : aI a b c x y z W) : W.length ≤ 8 ∧ (∀ p ∈ W,p.1 < a.length * b.length * c.length) ∧ ∃ d,d ≠ 0 ∧ d ≤ 1000000000000000 ∧ ∀ p ∈ W,DB d d p.2 := by
 obtain ⟨Sa,Sb,Sc,h1,h2,h3,rfl⟩ := h
 obtain ⟨a1,a2,da,a3,a4,a5⟩ := h1.db ha
 obtain ⟨b1,b2,db,b3,b4,b5⟩ := h2.db hb
 obtain ⟨c1,c2,dc,c3,c4,c5⟩ := h3.db hc
 refine ⟨?_,?_,(1 * da) * db * dc,?_,?_,?_⟩
 ·exact gP c1 (gP b1 (gP a1 (n := 1) (by simp)))
 ·have := bG (bG (bG (N := 1) (W := [(0,1)]) (fun p hp => by rw [List.mem_singleton.1 hp]; decide) a2) b2) c2
  simpa using this
 ·exact Nat.mul_ne_zero (Nat.mul_ne_zero (Nat.mul_ne_zero (by decide) a3) b3) c3
 ·have e1 : 1 * da * db ≤ 1 * 100000 * 100000 := Nat.mul_le_mul (Nat.mul_le_mul (Nat.le_refl _) a4) b4
  exact Nat.le_trans (Nat.mul_le_mul e1 c4) (by decide)
 ·exact mE (mE (mE (D := 1) (B := 1) (fun p hp => by rw [List.mem_singleton.1 hp]; exact ⟨1,rfl,Nat.le_refl _⟩) a5) b5) c5
theorem zRr {a b c : List Int} (ha : wF a) (hb : wF b) (hc : wF c) (hck : yU [a,b,c] = some 0) (x y z : Int) : ∃ W,aI a b c x y z W ∧ wQ [a,b,c] [x,y,z] = some (W.map dX,0) := by
 obtain ⟨Sa,h1,e1⟩ := zCs ha x
 obtain ⟨Sb,h2,e2⟩ := zCs hb y
 obtain ⟨Sc,h3,e3⟩ := zCs hc z
 refine ⟨_,⟨Sa,Sb,Sc,h1,h2,h3,rfl⟩,?_⟩
 obtain ⟨a1,a2,da,a3,a4,a5⟩ := h1.db ha
 obtain ⟨b1,b2,db,b3,b4,b5⟩ := h2.db hb
 obtain ⟨c1,c2,dc,c3,c4,c5⟩ := h3.db hc
 have la := ha.le
 have lb := hb.le
 have lc := hc.le
 have w1 : ∀ p ∈ [((0 : Nat),(1 : Rat))],DB 1 1 p.2 := fun p hp => by rw [List.mem_singleton.1 hp]; exact ⟨1,rfl,Nat.le_refl _⟩
 have w2 := mE (len := a.length) w1 a5
 have w3 := mE (len := b.length) w2 b5
 have w4 := mE (len := c.length) w3 c5
 have v1 : ∀ p ∈ [((0 : Nat),(1 : Rat))],p.1 < 1 := fun p hp => by rw [List.mem_singleton.1 hp]; decide
 have v2 := bG v1 a2
 have v3 := bG v2 b2
 have v4 := bG v3 c2
 have n2 := gP (len := a.length) a1 (W := [((0 : Nat),(1 : Rat))]) (n := 1) (by simp)
 have n3 := gP (len := b.length) b1 n2
 have m1 : 1 * a.length ≤ 32 := by omega
 have m2 : 1 * a.length * b.length ≤ 32 * 32 := Nat.mul_le_mul m1 lb
 have m3 : 1 * a.length * b.length * c.length ≤ 32 * 32 * 32 := Nat.mul_le_mul m2 lc
 have d1 : 1 * da ≤ 100000 := by omega
 have d2 : 1 * da * db ≤ 100000 * 100000 := Nat.mul_le_mul d1 b4
 have d3 : 1 * da * db * dc ≤ 100000 * 100000 * 100000 := Nat.mul_le_mul d2 c4
 have kk := k128
 have fz : ∀ {d : Nat} {q : Rat},d ≤ 1000000000000000 → DB d d q → xM q = 0 := fun hd h => h.fit (Nat.lt_of_le_of_lt hd kk) (Nat.lt_of_le_of_lt hd kk)
 unfold wQ
 rw [jB hck,if_neg (by decide),if_neg (by simp),show vV (1 : Int) = some (Raw.of ((1 : Int) : Rat)) from rZ (by decide),Option.bind_some,lt]
 show yV [x,y,z] _ [a,b,c] 0 ([((0 : Nat),(1 : Rat))].map dX) = _
 rw [yV,lt,List.drop_zero,l21 _ (z := x) rfl e1 (fun s h => fz (by omega) (a5 s h)) a1 _ _ (by simp) fun p hp => ⟨fz (by omega) (w1 p hp),fun s h => ⟨fz (by omega) ((w1 p hp).mul (a5 s h)),by
  have := v2 (p.1 * a.length + s.1,p.2 * s.2) (List.mem_flatMap.2 ⟨p,hp,List.mem_map.2 ⟨s,h,rfl⟩⟩)
  simp only [] at this; omega⟩⟩,List.nil_append]
 rw [yV,lt,List.drop_zero,l21 _ (z := y) rfl e2 (fun s h => fz (by omega) (b5 s h)) b1 _ _ (by simp; omega) fun p hp => ⟨fz (by omega) (w2 p hp),fun s h => ⟨fz (by omega) ((w2 p hp).mul (b5 s h)),by
  have := v3 (p.1 * b.length + s.1,p.2 * s.2) (List.mem_flatMap.2 ⟨p,hp,List.mem_map.2 ⟨s,h,rfl⟩⟩)
  simp only [] at this; omega⟩⟩,List.nil_append]
 rw [yV,lt,List.drop_zero,l21 _ (z := z) rfl e3 (fun s h => fz (by omega) (c5 s h)) c1 _ _ (by simp; omega) fun p hp => ⟨fz (by omega) (w3 p hp),fun s h => ⟨fz (by omega) ((w3 p hp).mul (c5 s h)),by
  have := v4 (p.1 * c.length + s.1,p.2 * s.2) (List.mem_flatMap.2 ⟨p,hp,List.mem_map.2 ⟨s,h,rfl⟩⟩)
  simp only [] at this; omega⟩⟩,List.nil_append]
 rw [yV]
end Go.Proofs.YtjnbipmlmafahaaGreat
namespace Go.Proofs.YtjnbipmlmafahaaGreat
open Go Go.Gv Go.RowKit IntKind
set_option maxRecDepth 100000
set_option maxHeartbeats 1000000
theorem wF.inj {l : List Int} (h : wF l) {i j : Nat} {x : Int} (hx : l[i]? = some x) (hy : l[j]? = some x) : i = j := by
 rcases Nat.lt_trichotomy i j with e | e | e
 ·exact absurd (h.lt e hx hy) (Int.lt_irrefl _)
 ·exact e
 ·exact absurd (h.lt e hy hx) (Int.lt_irrefl _)
theorem wF.mid {l : List Int} (h : wF l) {k j : Nat} {a b c : Int} (h1 : l[k]? = some a) (h2 : l[k + 1]? = some b) (h3 : a < c) (h4 : c < b) (hc : l[j]? = some c) : False := by
 rcases Nat.lt_trichotomy j k with e | e | e
 ·have := h.lt e hc h1; omega
 ·subst e; rw [hc] at h1; cases h1; omega
 ·rcases Nat.lt_or_eq_of_le (Nat.succ_le_of_lt e) with e2 | e2
  ·have := h.lt e2 h2 hc; omega
  ·have e3 : j = k + 1 := by omega
   subst e3; rw [hc] at h2; cases h2; omega
theorem wF.mid2 {l : List Int} (h : wF l) {k j : Nat} {a b a' b' c : Int} (h1 : l[k]? = some a) (h2 : l[k + 1]? = some b) (h3 : a < c) (h4 : c < b) (k1 : l[j]? = some a') (k2 : l[j + 1]? = some b') (k3 : a' < c) (k4 : c < b') : ¬ k < j := by
 intro e
 rcases Nat.lt_or_eq_of_le (Nat.succ_le_of_lt e) with e2 | e2
 ·have := h.lt e2 h2 k1; omega
 ·have e3 : j = k + 1 := by omega
  subst e3; rw [k1] at h2; cases h2; omega
theorem wD.unique {l : List Int} (h : wF l) {c : Int} {S S' : List (Nat × Rat)} (h1 : wD l c S) (h2 : wD l c S') : S = S' := by
 rcases h1 with ⟨k,a1,rfl⟩ | ⟨k,a,b,a1,a2,a3,a4,rfl⟩
 ·rcases h2 with ⟨j,b1,rfl⟩ | ⟨j,a',b',b1,b2,b3,b4,rfl⟩
  ·rw [h.inj a1 b1]
  ·exact (h.mid b1 b2 b3 b4 a1).elim
 ·rcases h2 with ⟨j,b1,rfl⟩ | ⟨j,a',b',b1,b2,b3,b4,rfl⟩
  ·exact (h.mid a1 a2 a3 a4 b1).elim
  ·have e : k = j := by
    have e1 := h.mid2 a1 a2 a3 a4 b1 b2 b3 b4
    have e2 := h.mid2 b1 b2 b3 b4 a1 a2 a3 a4
    omega
   subst e
   rw [a1] at b1; cases b1
   rw [a2] at b2; cases b2
   rfl
theorem aI.unique {a b c : List Int} (ha : wF a) (hb : wF b) (hc : wF c) {x y z : Int} {W W' : List (Nat × Rat)} (h : aI a b c x y z W) (k : aI a b c x y z W') : W = W' := by
 obtain ⟨Sa,Sb,Sc,h1,h2,h3,rfl⟩ := h
 obtain ⟨Ta,Tb,Tc,k1,k2,k3,rfl⟩ := k
 rw [h1.unique ha k1,h2.unique hb k2,h3.unique hc k3]
noncomputable def Wf (a b c : List Int) (x y z : Int) : List (Nat × Rat) := Classical.epsilon (aI a b c x y z)
theorem aA {a b c : List Int} (ha : wF a) (hb : wF b) (hc : wF c) (hck : yU [a,b,c] = some 0) (x y z : Int) : aI a b c x y z (Wf a b c x y z) ∧ wQ [a,b,c] [x,y,z] = some ((Wf a b c x y z).map dX,0) := by
 obtain ⟨W,h1,h2⟩ := zRr ha hb hc hck x y z
 have h3 : aI a b c x y z (Wf a b c x y z) := Classical.epsilon_spec ⟨W,h1⟩
 exact ⟨h3,by rw [h3.unique ha hb hc h1]; exact h2⟩
def bJ (m : List (Int × Rat)) (t : Int × Rat) : List (Int × Rat) := zBs t.1 (tY t.1 0 m + t.2) m
def dJ (m : List (Int × Rat)) : List (Int × Raw) := m.map fun p => (p.1,Raw.of p.2)
theorem of0 : Raw.of 0 = Raw.zero := by kernel_rfl
theorem zHt (k : Int) : ∀ m : List (Int × Rat),tY k Raw.zero (dJ m) = Raw.of (tY k 0 m)
 | [] => of0.symm
 | p :: m => by
  show (bif k == p.1 then Raw.of p.2 else tY k Raw.zero (dJ m)) = Raw.of (bif k == p.1 then p.2 else tY k 0 m)
  rw [zHt k m]
  cases k == p.1 <;> rfl
theorem zNy (k : Int) (q : Rat) : ∀ m : List (Int × Rat),zBs k (Raw.of q) (dJ m) = dJ (zBs k q m)
 | [] => rfl
 | p :: m => by
  show (bif k == p.1 then (k,Raw.of q) :: dJ m else (p.1,Raw.of p.2) :: zBs k (Raw.of q) (dJ m)) = dJ (bif k == p.1 then (k,q) :: m else p :: zBs k q m)
  rw [zNy k q m]
  cases k == p.1 <;> rfl
theorem zZl {k j : Int} (h : k = j) : (k == j) = true := by simpa using h
theorem zVy {k j : Int} (h : ¬ k = j) : (k == j) = false := by simpa using h
theorem zIe {α : Type} (k j : Int) (z v : α) : ∀ m : List (Int × α),tY k z (zBs j v m) = if k = j then v else tY k z m
 | [] => by
  show (bif k == j then v else z) = if k = j then v else z
  by_cases h : k = j
  ·rw [zZl h,if_pos h]; rfl
  ·rw [zVy h,if_neg h]; rfl
 | p :: m => by
  show tY k z (bif j == p.1 then (j,v) :: m else p :: zBs j v m) = if k = j then v else (bif k == p.1 then p.2 else tY k z m)
  by_cases h : j = p.1
  ·rw [zZl h,cond_true]
   show (bif k == j then v else tY k z m) = _
   by_cases h2 : k = j
   ·rw [zZl h2,if_pos h2]; rfl
   ·have h3 : ¬ k = p.1 := h ▸ h2
    rw [zVy h2,if_neg h2,zVy h3]; rfl
  ·rw [zVy h,cond_false]
   show (bif k == p.1 then p.2 else tY k z (zBs j v m)) = _
   rw [zIe k j z v m]
   by_cases h2 : k = p.1
   ·have h3 : ¬ k = j := fun e => h (e ▸ h2)
    rw [zZl h2,cond_true,cond_true,if_neg h3]
   ·rw [zVy h2,cond_false,cond_false]
theorem zHr {α : Type} (j : Int) (v : α) : ∀ m : List (Int × α),(zBs j v m).map Prod.fst = if j ∈ m.map Prod.fst then m.map Prod.fst else m.map Prod.fst ++ [j]
 | [] => rfl
 | p :: m => by
  show (bif j == p.1 then (j,v) :: m else p :: zBs j v m).map Prod.fst = _
  by_cases h : j = p.1
  ·simp [h]
  ·rw [show (j == p.1) = false by simp [h],cond_false,List.map_cons,zHr j v m,List.map_cons]
   by_cases h2 : j ∈ m.map Prod.fst
   ·rw [if_pos h2,if_pos (List.mem_cons_of_mem _ h2)]
   ·rw [if_neg h2,if_neg (by simp only [List.mem_cons,not_or]; exact ⟨h,h2⟩),List.cons_append]
def wO (k : Int) : List (Int × Rat) → Rat
 | [] => 0
 | t :: l => (if t.1 = k then t.2 else 0) + wO k l
theorem zKr (k : Int) : ∀ (T m : List (Int × Rat)),tY k 0 (T.foldl bJ m) = tY k 0 m + wO k T
 | [],m => by simp [wO,Rat.add_zero]
 | t :: T,m => by
  rw [List.foldl_cons,zKr k T,bJ,zIe,wO]
  by_cases h : k = t.1
  ·subst h; simp only [if_true]; rw [Rat.add_assoc]
  ·rw [if_neg h,if_neg (fun e => h e.symm),Rat.zero_add]
theorem zKg : ∀ (T m : List (Int × Rat)),(m.map Prod.fst).Nodup → ((T.foldl bJ m).map Prod.fst).Nodup ∧ ∀ k,k ∈ (T.foldl bJ m).map Prod.fst ↔ k ∈ m.map Prod.fst ∨ k ∈ T.map Prod.fst
 | [],m,h => ⟨h,fun k => by simp⟩
 | t :: T,m,h => by
  have hn : ((bJ m t).map Prod.fst).Nodup := by
   rw [bJ,zHr]
   split
   ·exact h
   ·rename_i h2; exact List.nodup_append.2 ⟨h,by simp,fun a ha b hb => by rw [List.mem_singleton.1 hb]; exact fun e => h2 (e ▸ ha)⟩
  obtain ⟨h1,h2⟩ := zKg T (bJ m t) hn
  refine ⟨h1,fun k => ?_⟩
  rw [List.foldl_cons,h2 k,bJ,zHr,List.map_cons,List.mem_cons]
  split
  ·rename_i h3
   constructor
   ·rintro (h4 | h4)
    ·exact .inl h4
    ·exact .inr (.inr h4)
   ·rintro (h4 | rfl | h4)
    ·exact .inl h4
    ·exact .inl h3
    ·exact .inr h4
  ·rw [List.mem_append,List.mem_singleton]
   constructor
   ·rintro ((h4 | rfl) | h4)
    ·exact .inl h4
    ·exact .inr (.inl rfl)
    ·exact .inr (.inr h4)
   ·rintro (h4 | rfl | h4)
    ·exact .inl (.inl h4)
    ·exact .inl (.inr rfl)
    ·exact .inr h4
def sP (n : Nat) (b : Int) (v : Nat) : Int := ((v * n : Nat) : Int) + b
theorem l72 {x : zO} {b : Int} {pq : Rat} {e : Int} {D B : Nat} (J : List (Int × Raw) → Option (List Out × Int)) (ha : x.advisories.length ≤ 6) (hb : 0 ≤ b ∧ b < 6) (hpq : xM pq = 0) (hD0 : D ≠ 0) (hD : D < xL) : ∀ (W : List (Nat × Rat)) (m : List (Int × Rat)) (n : Nat),(∀ w ∈ W,xM w.2 = 0 ∧ xM (pq * w.2) = 0 ∧ DB D B (pq * w.2) ∧ w.1 < 100000) → (∀ k,DB D (B * n) (tY k 0 m)) → B * (n + W.length) < xL →
  yY x b (Raw.of pq,e) J (W.map dX) (dJ m) = J (dJ ((W.map fun w => (sP x.advisories.length b w.1,pq * w.2)).foldl bJ m)) ∧ ∀ k,DB D (B * (n + W.length)) (tY k 0 ((W.map fun w => (sP x.advisories.length b w.1,pq * w.2)).foldl bJ m))
 | [],m,n,_,hm,_ => ⟨by simp [yY],fun k => hm k⟩
 | w :: W,m,n,hw,hm,hB => by
  obtain ⟨w1,w2,w3,w4⟩ := hw w (by simp)
  have hB1 : B * (n + 1) ≤ B * (n + (w :: W).length) := Nat.mul_le_mul_left _ (by simp)
  have hB0 : B * n ≤ B * (n + (w :: W).length) := Nat.mul_le_mul_left _ (by simp)
  have hadd := (hm (sP x.advisories.length b w.1)).add hD0 w3
  have hadd' : DB D (B * (n + 1)) (tY (sP x.advisories.length b w.1) 0 m + pq * w.2) := by rw [Nat.mul_succ]; exact hadd
  have hm' : ∀ k,DB D (B * (n + 1)) (tY k 0 (bJ m (sP x.advisories.length b w.1,pq * w.2))) := fun k => by
   rw [bJ,zIe]
   split
   ·exact hadd'
   ·exact (hm k).mono (Nat.mul_le_mul_left _ (by omega))
  obtain ⟨i1,i2⟩ := l72 J ha hb hpq hD0 hD W (bJ m (sP x.advisories.length b w.1,pq * w.2)) (n + 1) (fun q hq => hw q (by simp [hq])) hm' (by rw [show n + 1 + W.length = n + (w :: W).length by simp; omega]; exact hB)
  refine ⟨?_,fun k => ?_⟩
  ·rw [List.map_cons,yY]
   have e1 : rE (Raw.of pq,e).1 (dX w).w = some (Raw.of (pq * w.2),0) := by
    unfold rE
    rw [show (dX w).w = Raw.of w.2 from rfl,Raw.of_rat,Raw.of_rat,(nL (sQ hpq).1 (sQ w1).1 w2).1,(nL (sQ hpq).1 (sQ w1).1 w2).2]
   have ek : i64.wrap (i64.wrap ((dX w).vertex * (x.advisories.length : Int)) + b) = sP x.advisories.length b w.1 := by
    show i64.wrap (i64.wrap ((w.1 : Int) * (x.advisories.length : Int)) + b) = _
    have hle : w.1 * x.advisories.length ≤ 100000 * 6 := Nat.mul_le_mul (Nat.le_of_lt w4) ha
    unfold sP
    obtain ⟨t,ht⟩ : ∃ t,t = w.1 * x.advisories.length := ⟨_,rfl⟩
    rw [← ht] at hle ⊢
    rw [← Int.natCast_mul,← ht,jE (x := (t : Int)) (by omega) (by omega),jE (by omega) (by omega)]
   have hkr : -9223372036854775808 ≤ sP x.advisories.length b w.1 ∧ sP x.advisories.length b w.1 ≤ 9223372036854775807 := by
    have hle : w.1 * x.advisories.length ≤ 100000 * 6 := Nat.mul_le_mul (Nat.le_of_lt w4) ha
    unfold sP
    omega
   have f0 : xM (tY (sP x.advisories.length b w.1) 0 m) = 0 := (hm _).fit hD (Nat.lt_of_le_of_lt hB0 hB)
   have f1 : xM (tY (sP x.advisories.length b w.1) 0 m + pq * w.2) = 0 := hadd'.fit hD (Nat.lt_of_le_of_lt hB1 hB)
   rw [jB e1,ek]
   show ((some (tY (sP x.advisories.length b w.1) Raw.zero (dJ m))).bind _) = _
   rw [Option.bind_some,zHt]
   have e2 : kH (Raw.of (tY (sP x.advisories.length b w.1) 0 m)) (Raw.of (pq * w.2)) = some (Raw.of (tY (sP x.advisories.length b w.1) 0 m + pq * w.2),0) := by
    unfold kH
    rw [Raw.of_rat,Raw.of_rat,(nL (sQ f0).1 (sQ w2).1 f1).1,(nL (sQ f0).1 (sQ w2).1 f1).2]
   show ((kH (Raw.of (tY (sP x.advisories.length b w.1) 0 m)) (Raw.of (pq * w.2))).bind _) = _
   rw [jB e2,rZ hkr]
   show yY x b (Raw.of pq,e) J (W.map dX) (zBs _ (Raw.of _) (dJ m)) = _
   rw [zNy]
   exact i1
  ·rw [List.map_cons,List.foldl_cons,show n + (w :: W).length = n + 1 + W.length by simp; omega]
   exact i2 k
structure NZ (n : zV) : Prop where
 chk : n.p.chk = 0
 db : DB n.p.d (2 ^ 256) n.p.rat
 d : n.p.d ≤ 2 ^ 256
 lo : -100 ≤ n.delta
 hi : n.delta ≤ 100
structure Env (x : zO) (h u v b r : Int) : Prop where
 h1 : wF x.height
 h2 : wF x.own
 h3 : wF x.other
 ck : yU [x.height,x.own,x.other] = some 0
 a0 : 1 ≤ x.advisories.length
 a : x.advisories.length ≤ 6
 b0 : 0 ≤ b
 b1 : b < 6
 rr : jJ x u b = some r
 r0 : -1000 ≤ r
 r1 : r ≤ 1000
 hb : -100000 ≤ h ∧ h ≤ 100000
 ub : -100 ≤ u ∧ u ≤ 100
 vb : -100 ≤ v ∧ v ≤ 100
 o1 : ∀ n ∈ x.ownNoise,NZ n
 o2 : ∀ n ∈ x.otherNoise,NZ n
 l1 : x.ownNoise.length ≤ 5
 l2 : x.otherNoise.length ≤ 5
noncomputable def dZ (x : zO) (h u v b r : Int) (n o : zV) : List (Int × Rat) :=
 (Wf x.height x.own x.other (h + v - u) (r + n.delta) (v + o.delta)).map fun w => (sP x.advisories.length b w.1,n.p.rat * o.p.rat * w.2)
noncomputable def zAw (x : zO) (h u v b r : Int) : List (Int × Rat) := x.ownNoise.flatMap fun n => x.otherNoise.flatMap fun o => dZ x h u v b r n o
section
variable {x : zO} {h u v b r : Int}
theorem Env.dens (E : Env x h u v b r) : ∃ (da : Nat) (fo ft : zV → Nat),(da ≠ 0 ∧ da ≤ 100000) ∧ (∀ n,fo n ≠ 0 ∧ fo n ≤ 100000) ∧ (∀ n,ft n ≠ 0 ∧ ft n ≤ 100000) ∧ ∀ n o,∀ w ∈ Wf x.height x.own x.other (h + v - u) (r + n.delta) (v + o.delta),DB (da * fo n * ft o) (da * fo n * ft o) w.2 := by
 have key : ∀ (l : List Int) (hl : wF l) (c : Int),∃ d,(d ≠ 0 ∧ d ≤ 100000) ∧ ∀ S,wD l (sO l c) S → ∀ s ∈ S,DB d d s.2 := fun l hl c => by
  obtain ⟨S,h1,_⟩ := zCs hl c
  obtain ⟨_,_,d,h2,h3,h4⟩ := h1.db hl
  exact ⟨d,⟨h2,h3⟩,fun T hT => by rw [hT.unique hl h1]; exact h4⟩
 obtain ⟨da,k1,k2⟩ := key _ E.h1 (h + v - u)
 obtain ⟨fo,k3⟩ := Classical.skolem.1 fun n : zV => key _ E.h2 (r + n.delta)
 obtain ⟨ft,k4⟩ := Classical.skolem.1 fun n : zV => key _ E.h3 (v + n.delta)
 refine ⟨da,fo,ft,k1,fun n => (k3 n).1,fun n => (k4 n).1,fun n o => ?_⟩
 obtain ⟨Sa,Sb,Sc,s1,s2,s3,e⟩ := (aA E.h1 E.h2 E.h3 E.ck (h + v - u) (r + n.delta) (v + o.delta)).1
 rw [e]
 have := mE (len := x.other.length) (mE (len := x.own.length) (mE (len := x.height.length) (D := 1) (B := 1) (W := [(0,1)]) (fun p hp => by rw [List.mem_singleton.1 hp]; exact ⟨1,rfl,Nat.le_refl _⟩) (k2 Sa s1)) ((k3 n).2 Sb s2)) ((k4 o).2 Sc s3)
 simpa only [Nat.one_mul] using this
theorem Env.common (E : Env x h u v b r) : ∃ D B : Nat,D ≠ 0 ∧ D < xL ∧ B * 1000000000000 < xL ∧ ∀ n ∈ x.ownNoise,∀ o ∈ x.otherNoise,xM (n.p.rat * o.p.rat) = 0 ∧ ∀ w ∈ Wf x.height x.own x.other (h + v - u) (r + n.delta) (v + o.delta),xM w.2 = 0 ∧ xM (n.p.rat * o.p.rat * w.2) = 0 ∧ DB D B (n.p.rat * o.p.rat * w.2) ∧ w.1 < 100000 := by
 obtain ⟨da,fo,ft,k1,k2,k3,k4⟩ := E.dens
 obtain ⟨D,hD⟩ : ∃ D,D = gF (x.ownNoise.map (·.p.d)) * gF (x.otherNoise.map (·.p.d)) * (da * gF (x.ownNoise.map fo) * gF (x.otherNoise.map ft)) := ⟨_,rfl⟩
 have p1 : gF (x.ownNoise.map (·.p.d)) ≤ (2 ^ 256) ^ 5 := dU (by decide) (fun y hy => by obtain ⟨n,hn,rfl⟩ := List.mem_map.1 hy; exact (E.o1 n hn).d) (by simpa using E.l1)
 have p2 : gF (x.otherNoise.map (·.p.d)) ≤ (2 ^ 256) ^ 5 := dU (by decide) (fun y hy => by obtain ⟨n,hn,rfl⟩ := List.mem_map.1 hy; exact (E.o2 n hn).d) (by simpa using E.l2)
 have p3 : gF (x.ownNoise.map fo) ≤ 100000 ^ 5 := dU (by decide) (fun y hy => by obtain ⟨n,hn,rfl⟩ := List.mem_map.1 hy; exact (k2 n).2) (by simpa using E.l1)
 have p4 : gF (x.otherNoise.map ft) ≤ 100000 ^ 5 := dU (by decide) (fun y hy => by obtain ⟨n,hn,rfl⟩ := List.mem_map.1 hy; exact (k3 n).2) (by simpa using E.l2)
 have hD0 : D ≠ 0 := by
  rw [hD]
  refine Nat.mul_ne_zero (Nat.mul_ne_zero ?_ ?_) (Nat.mul_ne_zero (Nat.mul_ne_zero k1.1 ?_) ?_)
  ·exact fA fun y hy => by obtain ⟨n,hn,rfl⟩ := List.mem_map.1 hy; exact Nat.ne_of_gt (Raw.d_pos _)
  ·exact fA fun y hy => by obtain ⟨n,hn,rfl⟩ := List.mem_map.1 hy; exact Nat.ne_of_gt (Raw.d_pos _)
  ·exact fA fun y hy => by obtain ⟨n,hn,rfl⟩ := List.mem_map.1 hy; exact (k2 n).1
  ·exact fA fun y hy => by obtain ⟨n,hn,rfl⟩ := List.mem_map.1 hy; exact (k3 n).1
 have hDle : D ≤ (2 ^ 256) ^ 5 * (2 ^ 256) ^ 5 * (100000 * 100000 ^ 5 * 100000 ^ 5) := by
  rw [hD]
  exact Nat.mul_le_mul (Nat.mul_le_mul p1 p2) (Nat.mul_le_mul (Nat.mul_le_mul k1.2 p3) p4)
 refine ⟨D,(2 ^ 256 * 2 ^ 256 * (100000 * 100000 * 100000)) * D,hD0,Nat.lt_of_le_of_lt hDle (by decide),?_,fun n hn o ho => ?_⟩
 ·refine Nat.lt_of_le_of_lt (Nat.mul_le_mul_right _ (Nat.mul_le_mul_left _ hDle)) (by decide)
 have zn := E.o1 n hn
 have zo := E.o2 o ho
 have b0 := zn.db.mul zo.db
 have hw3 : da * fo n * ft o ≤ 100000 * 100000 * 100000 := Nat.mul_le_mul (Nat.mul_le_mul k1.2 (k2 n).2) (k3 o).2
 refine ⟨b0.fit (Nat.lt_of_le_of_lt (Nat.mul_le_mul zn.d zo.d) (by decide)) (by decide),fun w hw => ?_⟩
 have b1 := k4 n o w hw
 have b2 := b0.mul b1
 have hdv : n.p.d * o.p.d * (da * fo n * ft o) ∣ D := by
  rw [hD]
  refine Nat.mul_dvd_mul (Nat.mul_dvd_mul (gT ?_) (gT ?_)) (Nat.mul_dvd_mul (Nat.mul_dvd_mul (Nat.dvd_refl _) (gT ?_)) (gT ?_))
  ·exact List.mem_map.2 ⟨n,hn,rfl⟩
  ·exact List.mem_map.2 ⟨o,ho,rfl⟩
  ·exact List.mem_map.2 ⟨n,hn,rfl⟩
  ·exact List.mem_map.2 ⟨o,ho,rfl⟩
 have hW := (aA E.h1 E.h2 E.h3 E.ck (h + v - u) (r + n.delta) (v + o.delta)).1.db E.h1 E.h2 E.h3
 have hv := hW.2.1 w hw
 have n1 := E.h1.le
 have n2 := E.h2.le
 have n3 := E.h3.le
 have nn : x.height.length * x.own.length * x.other.length ≤ 32 * 32 * 32 := Nat.mul_le_mul (Nat.mul_le_mul n1 n2) n3
 refine ⟨b1.fit (Nat.lt_of_le_of_lt hw3 (by decide)) (Nat.lt_of_le_of_lt hw3 (by decide)),b2.fit (Nat.lt_of_le_of_lt (Nat.mul_le_mul (Nat.mul_le_mul zn.d zo.d) hw3) (by decide)) (Nat.lt_of_le_of_lt (Nat.mul_le_mul_left _ hw3) (by decide)),?_,by omega⟩
 exact (b2.dvd hdv hD0).mono (Nat.mul_le_mul_right _ (Nat.mul_le_mul_left _ hw3))
end
end Go.Proofs.YtjnbipmlmafahaaGreat
namespace Go.Proofs.YtjnbipmlmafahaaGreat
open Go Go.Gv Go.RowKit IntKind
set_option maxRecDepth 100000
set_option maxHeartbeats 1000000
section
variable {x : zO} {h u v b r : Int}
theorem qCh {n o : zV} (h1 : NZ n) (h2 : NZ o) (hf : xM (n.p.rat * o.p.rat) = 0) : rE n.p o.p = some (Raw.of (n.p.rat * o.p.rat),0) := by
 unfold rE
 rw [(nL h1.chk h2.chk hf).1,(nL h1.chk h2.chk hf).2]
theorem l35 (E : Env x h u v b r) {D B : Nat} (hD0 : D ≠ 0) (hD : D < xL) {n : zV} (hn : n ∈ x.ownNoise)
  (hc : ∀ o ∈ x.otherNoise,xM (n.p.rat * o.p.rat) = 0 ∧ ∀ w ∈ Wf x.height x.own x.other (h + v - u) (r + n.delta) (v + o.delta),xM w.2 = 0 ∧ xM (n.p.rat * o.p.rat * w.2) = 0 ∧ DB D B (n.p.rat * o.p.rat * w.2) ∧ w.1 < 100000)
  (J : List (Int × Raw) → Option (List Out × Int)) : ∀ (os : List zV) (m : List (Int × Rat)) (c : Nat),(∀ o ∈ os,o ∈ x.otherNoise) → (∀ k,DB D (B * c) (tY k 0 m)) → B * (c + 8 * os.length) < xL →
  yZ x h u v b n J os (dJ m) = J (dJ ((os.flatMap fun o => dZ x h u v b r n o).foldl bJ m)) ∧ ∀ k,DB D (B * (c + 8 * os.length)) (tY k 0 ((os.flatMap fun o => dZ x h u v b r n o).foldl bJ m))
 | [],m,c,_,hm,_ => ⟨by simp [yZ],fun k => by simpa using hm k⟩
 | o :: os,m,c,hos,hm,hB => by
  have ho := hos o (by simp)
  obtain ⟨f1,f2⟩ := hc o ho
  obtain ⟨s1,s2⟩ := aA E.h1 E.h2 E.h3 E.ck (h + v - u) (r + n.delta) (v + o.delta)
  obtain ⟨g1,_,_⟩ := s1.db E.h1 E.h2 E.h3
  have hlen : c + 8 * (o :: os).length = c + 8 + 8 * os.length := by simp; omega
  have hle : B * (c + (Wf x.height x.own x.other (h + v - u) (r + n.delta) (v + o.delta)).length) ≤ B * (c + 8 * (o :: os).length) := Nat.mul_le_mul_left _ (by rw [hlen]; omega)
  obtain ⟨i1,i2⟩ := l72 (x := x) (b := b) (pq := n.p.rat * o.p.rat) (e := 0) (D := D) (B := B) (fun v72 => yZ x h u v b n J os v72) E.a ⟨E.b0,E.b1⟩ f1 hD0 hD _ m c f2 hm (Nat.lt_of_le_of_lt hle hB)
  have hm' : ∀ k,DB D (B * (c + 8)) (tY k 0 ((dZ x h u v b r n o).foldl bJ m)) := fun k => (i2 k).mono (Nat.mul_le_mul_left _ (by omega))
  obtain ⟨j1,j2⟩ := l35 E hD0 hD hn hc J os _ (c + 8) (fun q hq => hos q (by simp [hq])) hm' (by rw [← hlen]; exact hB)
  have zn := E.o1 n hn
  have zo := E.o2 o ho
  have q1 := E.hb; have q2 := E.ub; have q3 := E.vb; have q4 := E.r0; have q5 := E.r1; have q6 := zn.lo; have q7 := zn.hi; have q8 := zo.lo; have q9 := zo.hi
  rw [List.flatMap_cons,List.foldl_append,hlen]
  refine ⟨?_,j2⟩
  rw [yZ,jB (qCh zn zo f1),show vO x = some [x.height,x.own,x.other] from rfl,Option.bind_some,jB E.rr]
  rw [jE (x := h + v) (by omega) (by omega),jE (x := h + v - u) (by omega) (by omega),jE (x := r + n.delta) (by omega) (by omega),jE (x := v + o.delta) (by omega) (by omega),jB s2,if_neg (by show ¬ ((0 : Int) != 0) = true; decide),lt,List.drop_zero]
  exact i1.trans j1
theorem l27 (E : Env x h u v b r) {D B : Nat} (hD0 : D ≠ 0) (hD : D < xL)
  (hc : ∀ n ∈ x.ownNoise,∀ o ∈ x.otherNoise,xM (n.p.rat * o.p.rat) = 0 ∧ ∀ w ∈ Wf x.height x.own x.other (h + v - u) (r + n.delta) (v + o.delta),xM w.2 = 0 ∧ xM (n.p.rat * o.p.rat * w.2) = 0 ∧ DB D B (n.p.rat * o.p.rat * w.2) ∧ w.1 < 100000) :
  ∀ (ns : List zV) (m : List (Int × Rat)) (c : Nat),(∀ n ∈ ns,n ∈ x.ownNoise) → (∀ k,DB D (B * c) (tY k 0 m)) → B * (c + 40 * ns.length) < xL →
  jT x h u v b ns (dJ m) = jT x h u v b [] (dJ ((ns.flatMap fun n => x.otherNoise.flatMap fun o => dZ x h u v b r n o).foldl bJ m)) ∧ ∀ k,DB D (B * (c + 40 * ns.length)) (tY k 0 ((ns.flatMap fun n => x.otherNoise.flatMap fun o => dZ x h u v b r n o).foldl bJ m))
 | [],m,c,_,hm,_ => ⟨rfl,fun k => by simpa using hm k⟩
 | n :: ns,m,c,hns,hm,hB => by
  have hn := hns n (by simp)
  have hlen : c + 40 * (n :: ns).length = c + 40 + 40 * ns.length := by simp; omega
  have l2 := E.l2
  have hle : B * (c + 8 * x.otherNoise.length) ≤ B * (c + 40 * (n :: ns).length) := Nat.mul_le_mul_left _ (by rw [hlen]; omega)
  obtain ⟨i1,i2⟩ := l35 E hD0 hD hn (hc n hn) (fun v29 => jT x h u v b ns v29) x.otherNoise m c (fun _ h => h) hm (Nat.lt_of_le_of_lt hle hB)
  have hm' : ∀ k,DB D (B * (c + 40)) (tY k 0 ((x.otherNoise.flatMap fun o => dZ x h u v b r n o).foldl bJ m)) := fun k => (i2 k).mono (Nat.mul_le_mul_left _ (by omega))
  obtain ⟨j1,j2⟩ := l27 E hD0 hD hc ns _ (c + 40) (fun q hq => hns q (by simp [hq])) hm' (by rw [← hlen]; exact hB)
  rw [List.flatMap_cons,List.foldl_append,hlen]
  refine ⟨?_,j2⟩
  conv => lhs; rw [jT,lt,List.drop_zero]
  exact i1.trans j1
noncomputable def lZ (x : zO) (h u v b r : Int) : List (Int × Rat) := (zAw x h u v b r).foldl bJ []
theorem l117 (J : List Out → Option (List Out × Int)) (m : List (Int × Rat)) : ∀ (ks : List Int) (acc : List Out),acc.length + ks.length ≤ 1000 → kG (dJ m) J ks acc = J (acc ++ ks.map fun k => Out.mk k (Raw.of (tY k 0 m)))
 | [],acc,_ => by simp [kG]
 | k :: ks,acc,hl => by
  rw [kG,Option.bind_some,rZ (by simp at hl; omega),l117 J m ks _ (by simp at hl ⊢; omega),zHt]
  simp
theorem Env.fits (E : Env x h u v b r) : ∀ k,xM (tY k 0 (lZ x h u v b r)) = 0 := by
 obtain ⟨D,B,d0,d1,d2,hc⟩ := E.common
 have hl : B * (0 + 40 * x.ownNoise.length) < xL := Nat.lt_of_le_of_lt (Nat.mul_le_mul_left _ (by have := E.l1; omega)) d2
 obtain ⟨_,h2⟩ := l27 E d0 d1 hc x.ownNoise [] 0 (fun _ h => h) (fun k => show DB D (B * 0) 0 by rw [Nat.mul_zero]; exact DB.zero) hl
 exact fun k => (h2 k).fit d1 hl
theorem zAt (E : Env x h u v b r) : tJ x h u v b = some (if ((lZ x h u v b r).length : Int) > 64 then ([],10) else ((dN ((lZ x h u v b r).map Prod.fst)).map fun k => Out.mk k (Raw.of (tY k 0 (lZ x h u v b r))),0)) := by
 obtain ⟨D,B,d0,d1,d2,hc⟩ := E.common
 have hl : B * (0 + 40 * x.ownNoise.length) < xL := Nat.lt_of_le_of_lt (Nat.mul_le_mul_left _ (by have := E.l1; omega)) d2
 obtain ⟨h1,_⟩ := l27 E d0 d1 hc x.ownNoise [] 0 (fun _ h => h) (fun k => show DB D (B * 0) 0 by rw [Nat.mul_zero]; exact DB.zero) hl
 unfold tJ
 rw [List.drop_zero]
 refine h1.trans ?_
 show jT x h u v b [] (dJ (lZ x h u v b r)) = _
 have hlen : (dJ (lZ x h u v b r)).length = (lZ x h u v b r).length := by simp [dJ]
 rw [jT,hlen]
 split
 ·rfl
 ·rename_i h9
  have h10 : (lZ x h u v b r).length ≤ 64 := by omega
  have hk : (dJ (lZ x h u v b r)).map Prod.fst = (lZ x h u v b r).map Prod.fst := by simp [dJ]
  rw [lt,rZ (by omega),Option.bind_some,hk,List.drop_zero,l117 _ _ _ _ (by rw [(lG _).length_eq]; simp; omega),List.nil_append]
end
end Go.Proofs.YtjnbipmlmafahaaGreat
namespace Go.Proofs.YtjnbipmlmafahaaGreat
open Go Go.Gv Go.RowKit IntKind
set_option maxRecDepth 100000
set_option maxHeartbeats 1000000
def Lim (r : Raw) : Prop := (∀ y ∈ r.ln,y < 4294967296) ∧ ∀ y ∈ r.ld,y < 4294967296
structure bT (x : zO) : Prop where
 o : ∀ n ∈ x.ownNoise,Lim n.p
 t : ∀ n ∈ x.otherNoise,Lim n.p
theorem kQ.lim {r : Rd} {ad : Option Addr} {len cap : Nat} {xs : List zV} (h : kQ r ad len cap xs) : ∀ n ∈ xs,Lim n.p := fun n hn => by
 obtain ⟨k,hk⟩ := List.getElem?_of_mem hn
 obtain ⟨b,off,_,_,a1,a2,a3,a4,_,h1,h2⟩ := SlR.opn h hk
 exact ⟨h1.hlt,h2.hlt⟩
theorem zW.lim {r : Rd} {v : Value} {x : zO} (h : zW r v x) : bT x := by
 refine zW.op h ?_
 intros
 exact ⟨kQ.lim (by assumption),kQ.lim (by assumption)⟩
theorem ifz {c : Prop} [Decidable c] {e : Int} {o : Option Int} (he : e ≠ 0) : (if c then some e else o) = some 0 ↔ ¬ c ∧ o = some 0 := by
 by_cases h : c
 ·rw [if_pos h]; simp [h,he]
 ·rw [if_neg h]; simp [h]
theorem bnz {o J : Option Int} : (o.bind fun y => if (y != 0) = true then some y else J) = some 0 ↔ o = some 0 ∧ J = some 0 := by
 cases o with
 | none => simp
 | some e =>
  rw [Option.bind_some]
  by_cases h : e = 0
  ·subst h; simp
  ·rw [if_pos (by simpa using h)]; simp [h]
structure sD (r : Raw) : Prop where
 chk : r.chk = 0
 n8 : r.ln.length ≤ 8
 d8 : r.ld.length ≤ 8
theorem bZ (r : Raw) : qK r = some 0 ↔ sD r := by
 unfold qK lN
 rw [bnz,ifz (by decide),ifz (by decide)]
 constructor
 ·rintro ⟨h1,h2,h3,_⟩
  exact ⟨Option.some.inj h1,by omega,by omega⟩
 ·intro h
  have h1 := h.n8
  have h2 := h.d8
  exact ⟨by rw [h.chk],by omega,by omega,rfl⟩
theorem qAw : (4294967296 : Nat) ^ 8 = 2 ^ 256 := by decide
theorem val8 {l : List Nat} (h : ∀ y ∈ l,y < 4294967296) (h8 : l.length ≤ 8) : val l < 2 ^ 256 := by
 rw [← qAw]
 exact Nat.lt_of_lt_of_le (wZ h) (Nat.pow_le_pow_right (by decide) h8)
theorem sD.db {r : Raw} (h : sD r) (l : Lim r) : DB r.d (2 ^ 256) r.rat :=
 ⟨_,rfl,by rw [aF]; exact Nat.le_of_lt (val8 l.1 h.n8)⟩
theorem sD.d {r : Raw} (h : sD r) (l : Lim r) : r.d ≤ 2 ^ 256 := by
 have := val8 l.2 h.d8
 unfold Raw.d
 split
 ·exact Nat.one_le_pow _ _ (by decide)
 ·exact Nat.le_of_lt this
def sH (l : List Rat) : Rat := l.foldr (· + ·) 0
theorem zMh : sH [] = 0 := rfl
theorem gY (q : Rat) (l : List Rat) : sH (q :: l) = q + sH l := rfl
theorem dB : ∀ a b : List Rat,sH (a ++ b) = sH a + sH b
 | [],b => by rw [List.nil_append,zMh,Rat.zero_add]
 | q :: a,b => by rw [List.cons_append,gY,gY,dB a b,Rat.add_assoc]
theorem zRb {E B : Nat} (hE : E ≠ 0) : ∀ {l : List Rat},(∀ q ∈ l,DB E B q) → DB E (l.length * B) (sH l)
 | [],_ => by rw [zMh]; simpa using DB.zero
 | q :: l,h => by
  have h1 := (h q (by simp)).add hE (zRb hE fun p (hp : p ∈ l) => h p (List.mem_cons_of_mem _ hp))
  rw [gY]
  exact h1.mono (by simp [Nat.add_mul]; omega)
theorem zGm {α : Type} (f : α → Int) : ∀ l : List α,(∀ i a b,l[i]? = some a → l[i + 1]? = some b → f a < f b) ↔ l.Pairwise fun a b => f a < f b
 | [] => by simp
 | [x] => by simp
 | x :: y :: l => by
  have ih := zGm f (y :: l)
  rw [List.pairwise_cons,← ih]
  constructor
  ·intro h
   have h1 : ∀ i a b,(y :: l)[i]? = some a → (y :: l)[i + 1]? = some b → f a < f b := fun i a b ha hb => h (i + 1) a b (by simpa using ha) (by simpa using hb)
   refine ⟨fun b hb => ?_,h1⟩
   have h0 := h 0 x y (by simp) (by simp)
   rcases List.mem_cons.1 hb with rfl | hb
   ·exact h0
   ·exact Int.lt_trans h0 ((List.pairwise_cons.1 (ih.1 h1)).1 b hb)
  ·rintro ⟨h0,h1⟩ i a b ha hb
   cases i with
   | zero =>
    obtain rfl : x = a := by simpa using ha
    obtain rfl : y = b := by simpa using hb
    exact h0 _ (by simp)
   | succ i => exact h1 i a b (by simpa using ha) (by simpa using hb)
structure Nz1 (n : zV) : Prop where
 lo : -100 ≤ n.delta
 hi : n.delta ≤ 100
 sh : sD n.p
 pos : n.p.neg = false
 ne : n.p.ln ≠ []
structure NzL (l : List zV) : Prop where
 n1 : 1 ≤ l.length
 n5 : l.length ≤ 5
 el : ∀ n ∈ l,Nz1 n
 asc : l.Pairwise fun a b => a.delta < b.delta
 sum : sH (l.map (·.p.rat)) = 1
theorem zCc {q : List zV} (h : ∀ n ∈ q,Nz1 n ∧ Lim n.p) (h5 : q.length ≤ 5) : xM (sH (q.map (·.p.rat))) = 0 := by
 have hE0 : gF (q.map (·.p.d)) ≠ 0 := fA fun y hy => by obtain ⟨n,hn,rfl⟩ := List.mem_map.1 hy; exact Nat.ne_of_gt (Raw.d_pos _)
 have hE : gF (q.map (·.p.d)) ≤ (2 ^ 256) ^ 5 := dU (by decide) (fun y hy => by obtain ⟨n,hn,rfl⟩ := List.mem_map.1 hy; exact (h n hn).1.sh.d (h n hn).2) (by simpa using h5)
 have h1 : DB (gF (q.map (·.p.d))) ((q.map (·.p.rat)).length * (2 ^ 256 * gF (q.map (·.p.d)))) (sH (q.map (·.p.rat))) := zRb hE0 fun r hr => by
  obtain ⟨n,hn,rfl⟩ := List.mem_map.1 hr
  exact ((h n hn).1.sh.db (h n hn).2).dvd (gT (List.mem_map.2 ⟨n,hn,rfl⟩)) hE0
 refine h1.fit (Nat.lt_of_le_of_lt hE (by decide)) (Nat.lt_of_le_of_lt (Nat.mul_le_mul (show (q.map (·.p.rat)).length ≤ 5 by simpa using h5) (Nat.mul_le_mul_left _ hE)) (by decide))
theorem zRo (z : Int) : ¬ (!inS (-100) 100 [z]) = true ↔ -100 ≤ z ∧ z ≤ 100 := by simp [inS]
theorem zAy {α : Type} {l : List α} : ¬ ((l.length : Int) == 0) = true ↔ l ≠ [] := by
 cases l <;> simp
 omega
theorem qAl (p0 : List zV) (h5 : p0.length ≤ 5) (hl : ∀ n ∈ p0,Lim n.p) (J : Raw → Option Int) : ∀ (l q : List zV),p0 = q ++ l → (∀ n ∈ q,Nz1 n) →
  (zT p0 J l q.length (Raw.of (sH (q.map (·.p.rat)))) = some 0 ↔ (∀ n ∈ l,Nz1 n) ∧ (∀ i,q.length ≤ i + 1 → ∀ a b,p0[i]? = some a → p0[i + 1]? = some b → a.delta < b.delta) ∧ J (Raw.of (sH (p0.map (·.p.rat)))) = some 0)
 | [],q,e,_ => by
  rw [zT]
  subst e
  rw [List.append_nil]
  constructor
  ·intro h
   refine ⟨by simp,fun i hi a b _ hb => ?_,h⟩
   rw [List.getElem?_eq_none (by omega)] at hb
   cases hb
  ·exact fun h => h.2.2
 | x :: l,q,e,hq => by
  have hx : p0[q.length]? = some x := by rw [e]; simp
  have hxm : x ∈ p0 := by rw [e]; simp
  have hk : q.length < p0.length := by rw [e]; simp
  have ih := fun hx1 : Nz1 x => qAl p0 h5 hl J l (q ++ [x]) (by rw [e]; simp) fun n hn => by
   rcases List.mem_append.1 hn with hn | hn
   ·exact hq n hn
   ·rw [List.mem_singleton.1 hn]; exact hx1
  rw [zT,lt]
  have key : ((qK x.p).bind (fun y25 => if ((y25) != 0) = true then (some y25) else (if x.p.neg = true then (some 1) else (if ((x.p.ln.length : Int) == 0) = true then (some 1) else ((kH (Raw.of (sH (q.map (·.p.rat)))) x.p).bind fun y31 => zT p0 J l (q.length + 1) y31.1)))) = some 0) ↔ (sD x.p ∧ x.p.neg = false ∧ x.p.ln ≠ []) ∧ (sD x.p ∧ x.p.neg = false ∧ x.p.ln ≠ [] → (kH (Raw.of (sH (q.map (·.p.rat)))) x.p).bind (fun y31 => zT p0 J l (q.length + 1) y31.1) = some 0) := by
   rw [bnz,bZ,ifz (by decide),ifz (by decide),zAy]
   constructor
   ·rintro ⟨a,b,c,d⟩; exact ⟨⟨a,by simpa using b,c⟩,fun _ => d⟩
   ·rintro ⟨⟨a,b,c⟩,d⟩; exact ⟨a,by simp [b],c,d ⟨a,b,c⟩⟩
  have add : ∀ hx1 : Nz1 x,(kH (Raw.of (sH (q.map (·.p.rat)))) x.p).bind (fun y31 => zT p0 J l (q.length + 1) y31.1) = zT p0 J l (q ++ [x]).length (Raw.of (sH ((q ++ [x]).map (·.p.rat)))) := fun hx1 => by
   have f0 : xM (sH (q.map (·.p.rat))) = 0 := zCc (fun n hn => ⟨hq n hn,hl n (by rw [e]; simp [hn])⟩) (by omega)
   have e1 : sH ((q ++ [x]).map (·.p.rat)) = sH (q.map (·.p.rat)) + x.p.rat := by rw [List.map_append,dB]; simp [sH,Rat.add_zero]
   have f1 : xM (sH (q.map (·.p.rat)) + x.p.rat) = 0 := by
    rw [← e1]
    exact zCc (fun n hn => by
     rcases List.mem_append.1 hn with hn | hn
     ·exact ⟨hq n hn,hl n (by rw [e]; simp [hn])⟩
     ·rw [List.mem_singleton.1 hn]; exact ⟨hx1,hl x hxm⟩) (by simp; omega)
   unfold kH
   rw [Option.bind_some,Raw.of_rat,(nL (sQ f0).1 hx1.sh.chk f1).1,e1,List.length_append]
   rfl
  rw [show zS (100 : Int) = some 100 from rfl,Option.bind_some,kZ _ 100 (by decide),Option.bind_some,ifz (by decide),zRo]
  have step : ∀ {A : Prop},((-100 ≤ x.delta ∧ x.delta ≤ 100) ∧ (A ∧ ((qK x.p).bind (fun y25 => if ((y25) != 0) = true then (some y25) else (if x.p.neg = true then (some 1) else (if ((x.p.ln.length : Int) == 0) = true then (some 1) else ((kH (Raw.of (sH (q.map (·.p.rat)))) x.p).bind fun y31 => zT p0 J l (q.length + 1) y31.1)))) = some 0))) ↔ A ∧ Nz1 x ∧ (∀ n ∈ l,Nz1 n) ∧ (∀ i,q.length + 1 ≤ i + 1 → ∀ a b,p0[i]? = some a → p0[i + 1]? = some b → a.delta < b.delta) ∧ J (Raw.of (sH (p0.map (·.p.rat)))) = some 0 := by
   intro A
   rw [key]
   constructor
   ·rintro ⟨⟨a,b⟩,c,⟨d1,d2,d3⟩,f⟩
    have hx1 : Nz1 x := ⟨a,b,d1,d2,d3⟩
    have f := f ⟨d1,d2,d3⟩
    rw [add hx1,ih hx1] at f
    exact ⟨c,hx1,f.1,fun i hi => f.2.1 i (by simp; omega),f.2.2⟩
   ·rintro ⟨c,hx1,f1,f2,f3⟩
    refine ⟨⟨hx1.lo,hx1.hi⟩,c,⟨hx1.sh,hx1.pos,hx1.ne⟩,fun _ => ?_⟩
    rw [add hx1,ih hx1]
    exact ⟨f1,fun i hi => f2 i (by simp at hi; omega),f3⟩
  have fin : ∀ {A : Prop},(A ↔ ∀ a,q.length ≠ 0 → p0[q.length - 1]? = some a → a.delta < x.delta) → (A ∧ Nz1 x ∧ (∀ n ∈ l,Nz1 n) ∧ (∀ i,q.length + 1 ≤ i + 1 → ∀ a b,p0[i]? = some a → p0[i + 1]? = some b → a.delta < b.delta) ∧ J (Raw.of (sH (p0.map (·.p.rat)))) = some 0 ↔ (∀ n ∈ x :: l,Nz1 n) ∧ (∀ i,q.length ≤ i + 1 → ∀ a b,p0[i]? = some a → p0[i + 1]? = some b → a.delta < b.delta) ∧ J (Raw.of (sH (p0.map (·.p.rat)))) = some 0) := by
   intro A hA
   rw [hA]
   constructor
   ·rintro ⟨h1,h2,h3,h4,h5⟩
    refine ⟨fun n hn => ?_,fun i hi a b ha hb => ?_,h5⟩
    ·rcases List.mem_cons.1 hn with rfl | hn
     ·exact h2
     ·exact h3 n hn
    ·rcases Nat.eq_or_lt_of_le hi with hi | hi
     ·rw [← hi,hx] at hb
      cases hb
      exact h1 a (by omega) (by rw [hi]; exact ha)
     ·exact h4 i hi a b ha hb
   ·rintro ⟨h1,h2,h3⟩
    refine ⟨fun a h0 ha => h2 (q.length - 1) (by omega) a x ha (by rw [Nat.sub_add_cancel (by omega)]; exact hx),h1 x (by simp),fun n hn => h1 n (by simp [hn]),fun i hi => h2 i (by omega),h3⟩
  split
  ·rename_i h0
   obtain ⟨y,hy⟩ : ∃ y,p0[q.length - 1]? = some y := ⟨p0[q.length - 1]'(by omega),by simp⟩
   rw [jB (ixT (k := q.length - 1) (by rw [jE (by omega) (by omega)]; omega) hy),ifz (by decide),step,fin]
   constructor
   ·intro h a _ ha; rw [hy] at ha; cases ha; omega
   ·intro h; have := h y (by omega) hy; omega
  ·rename_i h0
   rw [← true_and ((qK x.p).bind _ = some 0),step,fin]
   exact ⟨fun _ a h1 _ => absurd h1 (by omega),fun _ => trivial⟩
theorem zXy {q : Rat} (h : xM q = 0) : (mU (Raw.of q) (Raw.of ((1 : Int) : Rat))).bind (fun y12 => if ((y12.1) != 0) = true then (some (2 : Int)) else (some 0)) = some 0 ↔ q = 1 := by
 have h1 : xM (1 : Rat) = 0 := by decide
 unfold mU
 rw [Option.bind_some,ifz (by decide)]
 have e : zFw (Raw.of q) (Raw.of ((1 : Int) : Rat)) = zIx q 1 := by
  unfold zFw zIz
  rw [Raw.of_chk h,show Raw.of ((1 : Int) : Rat) = Raw.of 1 from rfl,Raw.of_chk h1,Raw.of_rat,Raw.of_rat]
  rfl
 rw [e]
 unfold zIx
 constructor
 ·rintro ⟨h,_⟩
  apply Classical.byContradiction
  intro hq
  rw [if_neg hq] at h
  split at h <;> simp at h
 ·intro hq
  rw [if_pos hq]
  simp
theorem zRf (l : List zV) (hl : ∀ n ∈ l,Lim n.p) : yF l = some 0 ↔ NzL l := by
 unfold yF
 rw [ifz (by decide),ifz (by decide),lt,List.drop_zero]
 constructor
 ·rintro ⟨h1,h2,h3⟩
  have h5 : l.length ≤ 5 := by omega
  have := (qAl l h5 hl _ l [] rfl (by simp)).1 h3
  obtain ⟨g1,g2,g3⟩ := this
  have hf := zCc (fun n hn => ⟨g1 n hn,hl n hn⟩) h5
  rw [show vV (1 : Int) = some (Raw.of ((1 : Int) : Rat)) from rZ (by decide),Option.bind_some,zXy hf] at g3
  refine ⟨?_,h5,g1,(zGm (fun n : zV => n.delta) l).1 fun i => g2 i (by simp),g3⟩
  rw [zAy] at h1
  exact List.length_pos_iff.2 h1
 ·intro h
  have h1 := h.n1
  have h5 := h.n5
  refine ⟨zAy.2 (List.length_pos_iff.1 h1),by omega,?_⟩
  refine (qAl l h5 hl _ l [] rfl (by simp)).2 ⟨h.el,fun i _ => (zGm (fun n : zV => n.delta) l).2 h.asc i,?_⟩
  have hf := zCc (fun n hn => ⟨h.el n hn,hl n hn⟩) h5
  rw [show vV (1 : Int) = some (Raw.of ((1 : Int) : Rat)) from rZ (by decide),Option.bind_some,zXy hf]
  exact h.sum
structure aK (l : List Int) : Prop where
 n1 : 1 ≤ l.length
 n2 : l.length ≤ 32
 bd : ∀ z ∈ l,-1073741824 ≤ z ∧ z ≤ 1073741824
 asc : l.Pairwise (· < ·)
theorem qAz (x : List Int) (J : Option Int) (hx : x.length ≤ 32) : ∀ (l : List Int) (k : Nat),l = x.drop k →
  (jI x J l k = some 0 ↔ (∀ z ∈ l,-1073741824 ≤ z ∧ z ≤ 1073741824) ∧ (∀ i,k ≤ i + 1 → ∀ a b,x[i]? = some a → x[i + 1]? = some b → a < b) ∧ J = some 0)
 | [],k,h => by
  have hk : x.length ≤ k := by have := congrArg List.length h; simp at this; omega
  rw [jI]
  refine ⟨fun h => ⟨by simp,fun i hi a b _ hb => ?_,h⟩,fun h => h.2.2⟩
  rw [List.getElem?_eq_none (by omega)] at hb
  cases hb
 | z :: l,k,h => by
  obtain ⟨hk,hr⟩ := nR h
  have hz : x[k]? = some z := by
   have := congrArg List.head? h
   rw [List.head?_drop] at this
   exact this.symm
  have ih := qAz x J hx l (k + 1) hr
  rw [jI,ifz (by decide),ifz (by decide)]
  have fin : ∀ {A : Prop},(A ↔ ∀ a,k ≠ 0 → x[k - 1]? = some a → a < z) → (¬ z < -1073741824 ∧ ¬ z > 1073741824 ∧ A ∧ (∀ z ∈ l,-1073741824 ≤ z ∧ z ≤ 1073741824) ∧ (∀ i,k + 1 ≤ i + 1 → ∀ a b,x[i]? = some a → x[i + 1]? = some b → a < b) ∧ J = some 0 ↔ (∀ y ∈ z :: l,-1073741824 ≤ y ∧ y ≤ 1073741824) ∧ (∀ i,k ≤ i + 1 → ∀ a b,x[i]? = some a → x[i + 1]? = some b → a < b) ∧ J = some 0) := by
   intro A hA
   rw [hA]
   constructor
   ·rintro ⟨h1,h2,h3,h4,h5,h6⟩
    refine ⟨fun y hy => ?_,fun i hi a b ha hb => ?_,h6⟩
    ·rcases List.mem_cons.1 hy with rfl | hy
     ·omega
     ·exact h4 y hy
    ·rcases Nat.eq_or_lt_of_le hi with hi | hi
     ·rw [← hi,hz] at hb
      cases hb
      exact h3 a (by omega) (by rw [hi]; exact ha)
     ·exact h5 i hi a b ha hb
   ·rintro ⟨h1,h2,h3⟩
    have := h1 z (by simp)
    refine ⟨by omega,by omega,fun a h0 ha => h2 (k - 1) (by omega) a z ha (by rw [Nat.sub_add_cancel (by omega)]; exact hz),fun n hn => h1 n (by simp [hn]),fun i hi => h2 i (by omega),h3⟩
  split
  ·rename_i h0
   obtain ⟨y,hy⟩ : ∃ y,x[k - 1]? = some y := ⟨x[k - 1]'(by omega),by simp⟩
   rw [jB (ixT (k := k - 1) (by rw [jE (by omega) (by omega)]; omega) hy),ifz (by decide),ih]
   refine fin ?_
   constructor
   ·intro h a _ ha; rw [hy] at ha; cases ha; omega
   ·intro h; have := h y (by omega) hy; omega
  ·rename_i h0
   rw [ih]
   have := fin (A := True) ⟨fun _ a h1 _ => absurd h1 (by omega),fun _ => trivial⟩
   simpa only [true_and] using this
theorem ic10 (J : Option Int) : ∀ l : List (List Int),yD J l = some 0 ↔ (∀ x ∈ l,aK x) ∧ J = some 0
 | [] => by rw [yD]; simp
 | x :: l => by
  have ih := ic10 J l
  rw [yD,lt,ifz (by decide),ifz (by decide),List.drop_zero]
  constructor
  ·rintro ⟨h1,h2,h3⟩
   rw [qAz x _ (by omega) x 0 rfl,ih] at h3
   obtain ⟨g1,g2,g3,g4⟩ := h3
   refine ⟨fun y hy => ?_,g4⟩
   rcases List.mem_cons.1 hy with rfl | hy
   ·exact ⟨List.length_pos_iff.2 (zAy.1 h1),by omega,g1,(zGm (fun z => z) y).1 fun i => g2 i (by omega)⟩
   ·exact g3 y hy
  ·rintro ⟨h1,h2⟩
   have hx := h1 x (by simp)
   have n1 := hx.n1
   have n2 := hx.n2
   refine ⟨zAy.2 (List.length_pos_iff.1 n1),by omega,?_⟩
   rw [qAz x _ n2 x 0 rfl,ih]
   exact ⟨hx.bd,fun i _ => (zGm (fun z => z) x).2 hx.asc i,fun y hy => h1 y (by simp [hy]),h2⟩
theorem ic3 (a b c : List Int) : yU [a,b,c] = some 0 ↔ aK a ∧ aK b ∧ aK c ∧ a.length * b.length * c.length ≤ 256 := by
 unfold yU
 rw [ifz (by decide),ifz (by decide),lt,List.drop_zero,ic10,zOi,Option.bind_some]
 have sz : ∀ ha : aK a,∀ hb : aK b,∀ hc : aK c,i64.wrap (i64.wrap (i64.wrap (1 * (a.length : Int)) * (b.length : Int)) * (c.length : Int)) = ((a.length * b.length * c.length : Nat) : Int) := fun ha hb hc => by
  have n1 := ha.n2
  have e1 : a.length * b.length ≤ 32 * 32 := Nat.mul_le_mul ha.n2 hb.n2
  have e2 : a.length * b.length * c.length ≤ 32 * 32 * 32 := Nat.mul_le_mul e1 hc.n2
  rw [Int.one_mul,jE (x := (a.length : Int)) (by omega) (by omega),← Int.natCast_mul,jE (x := ((a.length * b.length : Nat) : Int)) (by omega) (by omega),← Int.natCast_mul,jE (by omega) (by omega)]
 constructor
 ·rintro ⟨_,_,h1,h2⟩
  have ha := h1 a (by simp)
  have hb := h1 b (by simp)
  have hc := h1 c (by simp)
  rw [sz ha hb hc,ifz (by decide)] at h2
  exact ⟨ha,hb,hc,by omega⟩
 ·rintro ⟨ha,hb,hc,h⟩
  refine ⟨by simp,by simp,fun x hx => ?_,?_⟩
  ·simp only [List.mem_cons,List.not_mem_nil,or_false] at hx
   rcases hx with rfl | rfl | rfl <;> assumption
  ·rw [sz ha hb hc,ifz (by decide)]
   exact ⟨by omega,rfl⟩
structure zDu (y : qJ) : Prop where
 s : y.sense = 1 ∨ y.sense = 2
 le : y.lo ≤ y.hi
 l0 : -100 ≤ y.lo
 l1 : y.lo ≤ 100
 h0 : -100 ≤ y.hi
 h1 : y.hi ≤ 100
structure zIt (x : zO) : Prop where
 gh : aK x.height
 go : aK x.own
 gt : aK x.other
 gn : x.height.length * x.own.length * x.other.length ≤ 256
 bh : ∀ z ∈ x.height,-50000 ≤ z ∧ z ≤ 50000
 bo : ∀ z ∈ x.own,-100 ≤ z ∧ z ≤ 100
 bt : ∀ z ∈ x.other,-100 ≤ z ∧ z ≤ 100
 a1 : 1 ≤ x.advisories.length
 a2 : x.advisories.length ≤ 6
 adv : ∀ y ∈ x.advisories.drop 1,zDu y
 p : 0 ≤ x.pull ∧ x.pull ≤ 100
 nr : 0 ≤ x.near ∧ x.near ≤ 50000
 st : 0 ≤ x.steps ∧ x.steps ≤ 24
 no : NzL x.ownNoise
 nt : NzL x.otherNoise
 c1 : sD x.alert ∧ x.alert.neg = false
 c2 : sD x.strengthen ∧ x.strengthen.neg = false
 c3 : sD x.reversal ∧ x.reversal.neg = false
 n : x.height.length * x.own.length * x.other.length * x.advisories.length ≤ 200
theorem cc62 (x : zO) (J : Option Int) : qA x J 3 0 = some 0 ↔ (sD x.alert ∧ x.alert.neg = false) ∧ (sD x.strengthen ∧ x.strengthen.neg = false) ∧ (sD x.reversal ∧ x.reversal.neg = false) ∧ J = some 0 := by
 have st : ∀ (r k : Nat) (q : Raw),[x.alert,x.strengthen,x.reversal][k]? = some q → (qA x J (r + 1) k = some 0 ↔ (sD q ∧ q.neg = false) ∧ qA x J r (k + 1) = some 0) := fun r k q hq => by
  rw [qA,jB (ixT (k := k) rfl hq),bnz,bZ,ifz (by decide)]
  simp [and_assoc]
 rw [st 2 0 _ rfl,st 1 1 _ rfl,st 0 2 _ rfl,qA]
theorem cc78 (x : zO) (J : Option Int) (hl : bT x) : zZ x J 2 0 = some 0 ↔ NzL x.ownNoise ∧ NzL x.otherNoise ∧ J = some 0 := by
 have st : ∀ (r k : Nat) (q : List zV),[x.ownNoise,x.otherNoise][k]? = some q → (∀ n ∈ q,Lim n.p) → (zZ x J (r + 1) k = some 0 ↔ NzL q ∧ zZ x J r (k + 1) = some 0) := fun r k q hq hn => by
  rw [zZ,jB (ixT (k := k) rfl hq),bnz,zRf q hn]
 rw [st 1 0 _ rfl hl.o,st 0 1 _ rfl hl.t,zZ]
theorem cc92 (J : Option Int) : ∀ l : List qJ,qC 100 J l = some 0 ↔ (∀ y ∈ l,zDu y) ∧ J = some 0
 | [] => by rw [qC]; simp
 | y :: l => by
  have ih := cc92 J l
  have key : ∀ v : Bool,(if v = true then (some (6 : Int)) else (if (y.lo) > y.hi then (some 1) else ((qO ([y.lo,y.hi]) 100).bind fun y104 => if (!y104) = true then (some 1) else (qC 100 J l)))) = some 0 ↔ v = false ∧ y.lo ≤ y.hi ∧ (-100 ≤ y.lo ∧ y.lo ≤ 100 ∧ -100 ≤ y.hi ∧ y.hi ≤ 100) ∧ (∀ y ∈ l,zDu y) ∧ J = some 0 := fun v => by
   rw [ifz (by decide),ifz (by decide),kZ _ 100 (by decide),Option.bind_some,ifz (by decide),ih]
   simp [inS,and_assoc]
  have fin : ((y.sense = 1 ∨ y.sense = 2) ∧ y.lo ≤ y.hi ∧ (-100 ≤ y.lo ∧ y.lo ≤ 100 ∧ -100 ≤ y.hi ∧ y.hi ≤ 100) ∧ (∀ y ∈ l,zDu y) ∧ J = some 0) ↔ (∀ z ∈ y :: l,zDu z) ∧ J = some 0 := by
   constructor
   ·rintro ⟨h1,h2,⟨h3,h4,h5,h6⟩,h7,h8⟩
    refine ⟨fun z hz => ?_,h8⟩
    rcases List.mem_cons.1 hz with rfl | hz
    ·exact ⟨h1,h2,h3,h4,h5,h6⟩
    ·exact h7 z hz
   ·rintro ⟨h1,h2⟩
    have h := h1 y (by simp)
    exact ⟨h.s,h.le,⟨h.l0,h.l1,h.h0,h.h1⟩,fun z hz => h1 z (by simp [hz]),h2⟩
  rw [qC,lt,← fin]
  split
  ·rename_i h1
   rw [key]
   have h1' : y.sense ≠ 1 := by simpa using h1
   simp [h1']
  ·rename_i h1
   rw [key]
   have h1' : y.sense = 1 := by simpa using h1
   simp [h1']
theorem aN {lo hi : Int} {l : List Int} : ¬ (!inS lo hi l) = true ↔ ∀ z ∈ l,lo ≤ z ∧ z ≤ hi := by
 rw [← rO]; simp
theorem zBh (x : zO) (hl : bT x) : qF x = some 0 ↔ zIt x := by
 unfold qF
 rw [show zS (100 : Int) = some 100 from rfl,Option.bind_some,show vO x = some [x.height,x.own,x.other] from rfl,Option.bind_some,bnz,ic3,show zS (50000 : Int) = some 50000 from rfl,Option.bind_some,kZ _ 50000 (by decide),Option.bind_some,ifz (by decide),kZ _ 100 (by decide),Option.bind_some,ifz (by decide),kZ _ 100 (by decide),Option.bind_some,ifz (by decide),ifz (by decide),ifz (by decide),aN,aN,aN,zAy]
 have tail : ∀ h1 : 1 ≤ x.advisories.length,lt ((qL (wU.mk 0 100) ([x.pull])).bind fun y38 => if (!y38) = true then (some (1 : Int)) else ((qL (wU.mk 0 50000) ([x.near])).bind fun y44 => if (!y44) = true then (some 1) else ((qL (wU.mk 0 24) ([x.steps])).bind fun y50 => if (!y50) = true then (some 1) else (lt (lt ((jK x).bind fun y56 => if (y56) > 200 then (some 10) else (some 0)) fun J54 => qA x J54 ((3 : Int).toNat - 0) 0) fun J53 => zZ x J53 ((2 : Int).toNat - 0) 0)))) (fun J34 => grd (0 ≤ (1 : Int) ∧ (1 : Int) ≤ (x.advisories.length : Int) ∧ (x.advisories.length : Int) ≤ (x.advisories.length : Int)) <| qC 100 J34 ((x.advisories.drop 1).drop 0)) = some 0 ↔ (∀ y ∈ x.advisories.drop 1,zDu y) ∧ (0 ≤ x.pull ∧ x.pull ≤ 100) ∧ (0 ≤ x.near ∧ x.near ≤ 50000) ∧ (0 ≤ x.steps ∧ x.steps ≤ 24) ∧ NzL x.ownNoise ∧ NzL x.otherNoise ∧ (sD x.alert ∧ x.alert.neg = false) ∧ (sD x.strengthen ∧ x.strengthen.neg = false) ∧ (sD x.reversal ∧ x.reversal.neg = false) ∧ ((jK x).bind fun y56 => if (y56) > 200 then (some (10 : Int)) else (some 0)) = some 0 := fun h1 => by
  rw [lt,rZ (by omega),List.drop_zero,cc92,aL,Option.bind_some,ifz (by decide),aL,Option.bind_some,ifz (by decide),aL,Option.bind_some,ifz (by decide),lt,lt]
  show _ ∧ _ ∧ _ ∧ _ ∧ zZ x (qA x _ 3 0) 2 0 = some 0 ↔ _
  rw [cc78 x _ hl,cc62,aN,aN,aN]
  simp
 obtain ⟨n,hn,hn2⟩ := zFf x
 constructor
 ·rintro ⟨⟨g1,g2,g3,g4⟩,b1,b2,b3,a1,a2,t⟩
  have a1' := List.length_pos_iff.2 a1
  rw [tail a1',hn,Option.bind_some,ifz (by decide)] at t
  obtain ⟨t1,t2,t3,t4,t5,t6,t7,t8,t9,t10,_⟩ := t
  have hn3 := hn2 g1.n2 g2.n2 g3.n2 (by omega)
  exact ⟨g1,g2,g3,g4,b1,b2,b3,a1',by omega,t1,t2,t3,t4,t5,t6,t7,t8,t9,by omega⟩
 ·intro h
  have a2 := h.a2
  refine ⟨⟨h.gh,h.go,h.gt,h.gn⟩,h.bh,h.bo,h.bt,List.length_pos_iff.1 h.a1,by omega,?_⟩
  rw [tail h.a1,hn,Option.bind_some,ifz (by decide),hn2 h.gh.n2 h.go.n2 h.gt.n2 a2]
  have := h.n
  exact ⟨h.adv,h.p,h.nr,h.st,h.no,h.nt,h.c1,h.c2,h.c3,by omega,rfl⟩
set_option maxHeartbeats 1000000
def negB (y : qJ) : qJ := ⟨3 - y.sense,-y.hi,-y.lo⟩
theorem zDu.neg {y : qJ} (h : zDu y) : zDu (negB y) := by
 have h1 := h.s; have h2 := h.le; have h3 := h.l0; have h4 := h.l1; have h5 := h.h0; have h6 := h.h1
 exact ⟨by show 3 - y.sense = 1 ∨ 3 - y.sense = 2; omega,by show -y.hi ≤ -y.lo; omega,by show -100 ≤ -y.hi; omega,by show -y.hi ≤ 100; omega,by show -100 ≤ -y.lo; omega,by show -y.lo ≤ 100; omega⟩
theorem zIt.good {x : zO} (f : zIt x) (hl : bT x) : qF x = some 0 ∧ zFe x := by
 have hc := (zBh x hl).2 f
 obtain ⟨e,h1,h2⟩ := nM x
 rw [hc] at h1
 cases h1
 exact ⟨hc,h2 rfl⟩
theorem aK.axis {l : List Int} (h : aK l) (hb : ∀ z ∈ l,-50000 ≤ z ∧ z ≤ 50000) : wF l := ⟨h.n1,h.n2,h.asc,hb⟩
theorem Nz1.nz {n : zV} (h : Nz1 n) (l : Lim n.p) : NZ n := ⟨h.sh.chk,h.sh.db l,h.sh.d l,h.lo,h.hi⟩
theorem zLf {x : zO} (f : zIt x) (g : zFe x) {u b : Int} (hb : 0 ≤ b ∧ b < (x.advisories.length : Int)) (hu : -100 ≤ u ∧ u ≤ 100) : ∃ r,jJ x u b = some r ∧ -1000 ≤ r ∧ r ≤ 1000 := by
 obtain ⟨y,_,h2,h3⟩ := zGt g hb hu
 have hp := f.p
 refine ⟨_,h3,?_⟩
 by_cases h0 : b = 0
 ·rw [if_pos h0]; omega
 ·have := h2 h0
  rw [if_neg h0]
  repeat' split
  all_goals omega
theorem zIt.env {x : zO} (f : zIt x) (hl : bT x) {h u v b r : Int} (hh : -100000 ≤ h ∧ h ≤ 100000) (hu : -100 ≤ u ∧ u ≤ 100) (hv : -100 ≤ v ∧ v ≤ 100) (hb : 0 ≤ b ∧ b < (x.advisories.length : Int)) (hr : jJ x u b = some r) : Env x h u v b r := by
 obtain ⟨hc,g⟩ := f.good hl
 obtain ⟨r',h1,h2,h3⟩ := zLf f g hb hu
 rw [hr] at h1
 cases h1
 have a2 := f.a2
 exact ⟨f.gh.axis f.bh,f.go.axis fun z hz => by have := f.bo z hz; omega,f.gt.axis fun z hz => by have := f.bt z hz; omega,(ic3 _ _ _).2 ⟨f.gh,f.go,f.gt,f.gn⟩,f.a1,a2,hb.1,by omega,hr,h2,h3,hh,hu,hv,fun n hn => (f.no.el n hn).nz (hl.o n hn),fun n hn => (f.nt.el n hn).nz (hl.t n hn),f.no.n5,f.nt.n5⟩
noncomputable def zJc (x : zO) (h u v b r : Int) : List Out := (dN ((lZ x h u v b r).map Prod.fst)).map fun k => Out.mk k (Raw.of (tY k 0 (lZ x h u v b r)))
structure qBv (x : zO) (h u v b r : Int) : Prop where
 f : zIt x
 hh : -100000 ≤ h ∧ h ≤ 100000
 hu : -100 ≤ u ∧ u ≤ 100
 hv : -100 ≤ v ∧ v ≤ 100
 hb : 0 ≤ b ∧ b < (x.advisories.length : Int)
 hr : jJ x u b = some r
 hs : (lZ x h u v b r).length ≤ 64
theorem zRs {x : zO} (hl : bT x) {h u v b r : Int} (s : qBv x h u v b r) : qZ x h u v b = some (zJc x h u v b r,0) := by
 obtain ⟨hc,g⟩ := s.f.good hl
 have E := s.f.env hl s.hh s.hu s.hv s.hb s.hr
 have hs := s.hs
 unfold qZ
 rw [jB hc,if_neg (by decide),show zS (100000 : Int) = some 100000 from rfl,Option.bind_some,kZ _ 100000 (by decide),Option.bind_some,if_neg (aN.2 fun z hz => by rw [List.mem_singleton.1 hz]; exact s.hh),show zS (100 : Int) = some 100 from rfl,Option.bind_some,kZ _ 100 (by decide),Option.bind_some,if_neg (aN.2 fun z hz => by
  rcases List.mem_cons.1 hz with rfl | hz
  ·exact s.hu
  ·rw [List.mem_singleton.1 hz]; exact s.hv),jB (bU hc g b),if_pos s.hb,if_neg (by decide),jB (zAt E),if_neg (by omega)]
 rfl
theorem zKx {x : zO} (hl : bT x) (h u v b : Int) : ∃ l e,qZ x h u v b = some (l,e) ∧ (e ≠ 0 → l = []) ∧ (e = 0 → ∃ r,qBv x h u v b r ∧ l = zJc x h u v b r) := by
 obtain ⟨e,hc,g⟩ := nM x
 by_cases he : e = 0
 ·subst he
  have g := g rfl
  have f := (zBh x hl).1 hc
  by_cases hh : ∀ z ∈ [h],-100000 ≤ z ∧ z ≤ 100000
  ·by_cases hu : ∀ z ∈ [u,v],-100 ≤ z ∧ z ≤ 100
   ·by_cases hb : 0 ≤ b ∧ b < (x.advisories.length : Int)
    ·obtain ⟨r,hr,_⟩ := zLf f g hb (hu u (by simp))
     by_cases hs : (lZ x h u v b r).length ≤ 64
     ·have s : qBv x h u v b r := ⟨f,hh h (by simp),hu u (by simp),hu v (by simp),hb,hr,hs⟩
      exact ⟨_,_,zRs hl s,fun h => absurd rfl h,fun _ => ⟨r,s,rfl⟩⟩
     ·have E := f.env hl (hh h (by simp)) (hu u (by simp)) (hu v (by simp)) hb hr
      refine ⟨[],10,?_,fun _ => rfl,fun h => by cases h⟩
      unfold qZ
      rw [jB hc,if_neg (by decide),show zS (100000 : Int) = some 100000 from rfl,Option.bind_some,kZ _ 100000 (by decide),Option.bind_some,if_neg (aN.2 hh),show zS (100 : Int) = some 100 from rfl,Option.bind_some,kZ _ 100 (by decide),Option.bind_some,if_neg (aN.2 hu),jB (bU hc g b),if_pos hb,if_neg (by decide),jB (zAt E),if_pos (by omega)]
    ·refine ⟨[],8,?_,fun _ => rfl,fun h => by cases h⟩
     unfold qZ
     rw [jB hc,if_neg (by decide),show zS (100000 : Int) = some 100000 from rfl,Option.bind_some,kZ _ 100000 (by decide),Option.bind_some,if_neg (aN.2 hh),show zS (100 : Int) = some 100 from rfl,Option.bind_some,kZ _ 100 (by decide),Option.bind_some,if_neg (aN.2 hu),jB (bU hc g b),if_neg hb,if_pos (by decide)]
   ·refine ⟨[],1,?_,fun _ => rfl,fun h => by cases h⟩
    unfold qZ
    rw [jB hc,if_neg (by decide),show zS (100000 : Int) = some 100000 from rfl,Option.bind_some,kZ _ 100000 (by decide),Option.bind_some,if_neg (aN.2 hh),show zS (100 : Int) = some 100 from rfl,Option.bind_some,kZ _ 100 (by decide),Option.bind_some,if_pos (Classical.not_not.1 fun h => hu (aN.1 h))]
  ·refine ⟨[],1,?_,fun _ => rfl,fun h => by cases h⟩
   unfold qZ
   rw [jB hc,if_neg (by decide),show zS (100000 : Int) = some 100000 from rfl,Option.bind_some,kZ _ 100000 (by decide),Option.bind_some,if_pos (Classical.not_not.1 fun h => hh (aN.1 h))]
 ·refine ⟨[],e,?_,fun _ => rfl,fun h => absurd h he⟩
  unfold qZ
  rw [jB hc,if_pos (by simpa using he)]
section
variable {x : zO} {h u v b r : Int}
theorem bK (k : Int) : ∀ S T : List (Int × Rat),wO k (S ++ T) = wO k S + wO k T
 | [],T => by simp [wO,Rat.zero_add]
 | t :: S,T => by rw [List.cons_append,wO,wO,bK k S T,Rat.add_assoc]
theorem zUn (k : Int) : tY k 0 (lZ x h u v b r) = wO k (zAw x h u v b r) := by
 unfold lZ
 rw [zKr]
 show (0 : Rat) + _ = _
 rw [Rat.zero_add]
theorem zJk : ((lZ x h u v b r).map Prod.fst).Nodup ∧ ∀ k,k ∈ (lZ x h u v b r).map Prod.fst ↔ k ∈ (zAw x h u v b r).map Prod.fst := by
 obtain ⟨h1,h2⟩ := zKg (zAw x h u v b r) [] (by simp)
 refine ⟨h1,fun k => ?_⟩
 have := h2 k
 simp only [List.map_nil,List.not_mem_nil,false_or] at this
 exact this
end
end Go.Proofs.YtjnbipmlmafahaaGreat
namespace Go.Proofs.YtjnbipmlmafahaaGreat
open Go Go.Gv Go.RowKit IntKind
set_option maxRecDepth 100000
set_option maxHeartbeats 1000000
section
variable {α β : Type}
theorem zMr (c : Rat) (f : α → Rat) : ∀ l : List α,sH (l.map fun x => c * f x) = c * sH (l.map f)
 | [] => (Rat.mul_zero c).symm
 | x :: l => by rw [List.map_cons,List.map_cons,gY,gY,zMr c f l,Rat.mul_add]
end
theorem qAi {len : Nat} (f g : Nat → Rat) {S : List (Nat × Rat)} (hs : ∀ s ∈ S,s.1 < len) : ∀ W : List (Nat × Rat),sH ((sS len W S).map fun q => q.2 * (f (q.1 / len) * g (q.1 % len))) = sH (W.map fun p => p.2 * f p.1) * sH (S.map fun s => s.2 * g s.1)
 | [] => (Rat.zero_mul _).symm
 | p :: W => by
  have e : sH (S.map ((fun q : Nat × Rat => q.2 * (f (q.1 / len) * g (q.1 % len))) ∘ fun s => (p.1 * len + s.1,p.2 * s.2))) = p.2 * f p.1 * sH (S.map fun s => s.2 * g s.1) := by
   rw [← zMr]
   congr 1
   refine List.map_congr_left fun s h => ?_
   have h1 := hs s h
   show p.2 * s.2 * (f ((p.1 * len + s.1) / len) * g ((p.1 * len + s.1) % len)) = p.2 * f p.1 * (s.2 * g s.1)
   rw [Nat.mul_comm p.1,Nat.mul_add_div (by omega),Nat.div_eq_of_lt h1,Nat.add_zero,Nat.mul_add_mod,Nat.mod_eq_of_lt h1,Rat.mul_assoc,Rat.mul_assoc]
   congr 1
   rw [← Rat.mul_assoc,← Rat.mul_assoc,Rat.mul_comm s.2]
  rw [zCd,List.map_append,dB,qAi f g hs W,List.map_cons,gY,Rat.add_mul,List.map_map,e]
def FS (f : Nat → Rat) (S : List (Nat × Rat)) : Rat := sH (S.map fun s => s.2 * f s.1)
theorem aI.mean {a b c : List Int} (ha : wF a) (hb : wF b) (hc : wF c) {x y z : Int} {W : List (Nat × Rat)} (h : aI a b c x y z W) : ∃ Sa Sb Sc,wD a (sO a x) Sa ∧ wD b (sO b y) Sb ∧ wD c (sO c z) Sc ∧
  ∀ f g k : Nat → Rat,sH (W.map fun w => w.2 * (f (w.1 / c.length / b.length) * g (w.1 / c.length % b.length) * k (w.1 % c.length))) = FS f Sa * FS g Sb * FS k Sc := by
 obtain ⟨Sa,Sb,Sc,h1,h2,h3,rfl⟩ := h
 refine ⟨Sa,Sb,Sc,h1,h2,h3,fun f g k => ?_⟩
 obtain ⟨_,b2,_⟩ := h2.db hb
 obtain ⟨_,c2,_⟩ := h3.db hc
 rw [qAi (fun q => f (q / b.length) * g (q % b.length)) k c2,qAi f g b2]
 congr 2
 unfold FS sS
 rw [List.flatMap_cons,List.flatMap_nil,List.append_nil,List.map_map]
 congr 1
 refine List.map_congr_left fun s _ => ?_
 show 1 * s.2 * f (0 * a.length + s.1) = s.2 * f s.1
 rw [Rat.one_mul,Nat.zero_mul,Nat.zero_add]
def axV (l : List Int) (i : Nat) : Rat := ((l.getD i 0 : Int) : Rat)
def one1 (_ : Nat) : Rat := 1
theorem zPh (n : Int) (d : Nat) : mkRat n d = (n : Rat) / (d : Rat) := by
 rw [Rat.mkRat_eq_div]
theorem zRl {a b c d : Rat} (hd : d ≠ 0) (h : b - a = d) : (b - c) / d * 1 + ((c - a) / d * 1 + 0) = 1 ∧ (b - c) / d * a + ((c - a) / d * b + 0) = c := by
 constructor <;> grind
theorem wD.mean {l : List Int} {c : Int} {S : List (Nat × Rat)} (hs : wD l c S) : FS one1 S = 1 ∧ FS (axV l) S = (c : Rat) := by
 rcases hs with ⟨k,h1,rfl⟩ | ⟨k,a,b,h1,h2,h3,h4,rfl⟩
 ·have e : axV l k = (c : Rat) := by unfold axV; rw [List.getD_eq_getElem?_getD,h1]; rfl
  constructor
  ·show (1 : Rat) * 1 + 0 = 1
   rw [Rat.add_zero,Rat.mul_one]
  ·show (1 : Rat) * axV l k + 0 = _
   rw [Rat.add_zero,Rat.one_mul,e]
 ·have ea : axV l k = (a : Rat) := by unfold axV; rw [List.getD_eq_getElem?_getD,h1]; rfl
  have eb : axV l (k + 1) = (b : Rat) := by unfold axV; rw [List.getD_eq_getElem?_getD,h2]; rfl
  obtain ⟨d,hd⟩ : ∃ d : Nat,b - a = (d : Int) := ⟨(b - a).toNat,by omega⟩
  have hd0 : (d : Rat) ≠ 0 := by
   have : d ≠ 0 := by omega
   exact_mod_cast this
  have hba : (b : Rat) - (a : Rat) = (d : Rat) := by exact_mod_cast congrArg (fun z : Int => (z : Rat)) hd
  have e1 : (b - a).toNat = d := by omega
  have m1 : mkRat (b - c) d = ((b : Rat) - (c : Rat)) / (d : Rat) := by rw [zPh]; congr 1; exact_mod_cast rfl
  have m2 : mkRat (c - a) d = ((c : Rat) - (a : Rat)) / (d : Rat) := by rw [zPh]; congr 1; exact_mod_cast rfl
  obtain ⟨g1,g2⟩ := zRl (c := (c : Rat)) hd0 hba
  rw [e1,m1,m2]
  constructor
  ·exact g1
  ·show ((b : Rat) - (c : Rat)) / (d : Rat) * axV l k + (((c : Rat) - (a : Rat)) / (d : Rat) * axV l (k + 1) + 0) = _
   rw [ea,eb]
   exact g2
section
variable {x : zO} {h u v b r : Int}
theorem Env.bd (E : Env x h u v b r) : ∃ D B : Nat,D ≠ 0 ∧ D < xL ∧ B * 5000000000 < xL ∧ ∀ k,DB D B (tY k 0 (lZ x h u v b r)) := by
 obtain ⟨D,B,d0,d1,d2,hc⟩ := E.common
 have hl : B * (0 + 40 * x.ownNoise.length) < xL := Nat.lt_of_le_of_lt (Nat.mul_le_mul_left _ (by have := E.l1; omega)) d2
 obtain ⟨_,h2⟩ := l27 E d0 d1 hc x.ownNoise [] 0 (fun _ h => h) (fun k => show DB D (B * 0) 0 by rw [Nat.mul_zero]; exact DB.zero) hl
 refine ⟨D,B * 200,d0,d1,?_,fun k => (h2 k).mono (Nat.mul_le_mul_left _ (by have := E.l1; omega))⟩
 rw [Nat.mul_assoc]
 exact d2
end
end Go.Proofs.YtjnbipmlmafahaaGreat
namespace Go.Gv
open Go.RowKit IntKind
attribute [local semireducible] Gt
theorem gN {R R' : Rg} {c c' : Array Bool × List (Nat × Value)} {M : List (Nat × Obj)} {r r' : Rd} (h : Gt R' [] c' M r') (hR : R = R' := by kernel_rfl) (hc : c.1 = c'.1 := by kernel_rfl) (hs : bY c.2 (c'.2.map (·.1)) = true := by kernel_rfl) (hl : keep c.2 (c'.2.map (·.1)) = c'.2 := by kernel_rfl) (hr : r = r' := by kernel_rfl) : Gt R [] c M r := by
 subst hR hr
 obtain ⟨b,L⟩ := c
 obtain ⟨b',L'⟩ := c'
 cases hc
 exact fun h1 h2 f e a w Y k1 k2 k3 k4 k5 => h h1 h2 f e a w Y k1 (k2.as _ hs hl) k3 k4 k5
noncomputable abbrev mkG (P : Program) (Q : Exit → Act → World → Prop) (n : Nat) (w : World) (c : Cf) (w0 : World) (X Y : Hid) (M0 : List (Nat × Obj)) : Rg := mkR none 0 P Q n [] w c E0 w0 X Y M0 (tOf (fT c))
end Go.Gv
namespace Go.Gv
open Go.RowKit IntKind
attribute [local semireducible] Go
theorem SV.ofLen {α : Type} {El : Rd → Addr → α → Prop} {size : Nat} {r : Rd} {ad : Option Addr} {m cap : Nat} {xs : List α} (h : SlR El size r ad m cap xs) : SV (SlR El size) r (.slice ad m cap) xs := by
 have e := h.hlen
 subst e
 exact ⟨_,_,rfl,h⟩
theorem mhd {α : Type} {a : α} {l : List α} : a ∈ a :: l := List.mem_cons_self
theorem qCi {M : List (Nat × Obj)} : ∀ p ∈ ([] : List (Nat × Obj)),p ∈ M := fun _ h => nomatch h
theorem alm {a : Nat × Obj} {l M : List (Nat × Obj)} (h : a ∈ M) (t : ∀ p ∈ l,p ∈ M) : ∀ p ∈ a :: l,p ∈ M := List.forall_mem_cons.2 ⟨h,t⟩
section
variable {r : Option Nat} {m : Nat} {P : Program} {Q : Exit → Act → World → Prop} {n : Nat} {D : List Deferred} {w : World} {c : Cf} {E : Nat → Prop} {w0 : World} {X Y : Hid} {M : List (Nat × Obj)}
theorem zWo (M0 : List (Nat × Obj)) (hM0 : ∀ p ∈ M0,p ∈ M) (hS : St E w0 X w Y M) (k : Gt (mkR r m P Q n D w c E w0 X Y M0 (tOf (fT c))) [] (Array.replicate (fT c).size false,c.L) M (rd w Y))
  (hx : c.cu = .code (.region (did c) (fT c) true) := by kernel_rfl) (hm : P.follows .mixedOrders = true := by kernel_rfl) (hd : (fT c).all (fun o => nY o.op) = true := by kernel_rfl) : Go r m P Q n D w c := zMb _ _ hS k hM0 hx hm hd
end
inductive PR (P : Program) (n : Nat) (w : World) : List Oper → List (Nat × Value) → List (Nat × Value) → Prop
  | nil {L : List (Nat × Value)} : PR P n w [] L L
  | step {o : Oper} {l : List Oper} {L L' : List (Nat × Value)} {d : Nat} {v : Value} (hd : aX o d n = true) (hg : lI L o = true) (hr : (execOp (evL L) o).run P w = .ok (.value v) w) (h : PR P n w l ((d,v) :: L) L') : PR P n w (o :: l) L L'
def dof (ops : Array Oper) (j : Nat) : Option Nat := (ops[j]?).bind (·.dst)
def qDe (ops : Array Oper) (i t : Nat) : Bool := (List.range i).any fun j => dof ops j == some t
section
variable {r : Option Nat} {m : Nat} {P : Program} {ops : Array Oper} {Q : Exit → Act → World → Prop} {n : Nat} {w : World}
end
section
variable {r : Option Nat} {m : Nat} {P : Program} {ops : Array Oper} {Q : Exit → Act → World → Prop} {n i : Nat} {w : World} {L : List (Nat × Value)} {D : List Deferred} {T : List (Nat × Value)}
structure Mid (ops : Array Oper) (i n : Nat) (D : List Deferred) (L T : List (Nat × Value)) (l : Array Bool) (a : Act) : Prop where
 size : a.tmps.size = n
 defers : a.defers = D
 base : ∀ t,has L t = true → qDe ops i t = false → a.tmps[t]? = some (lH L t)
 put : ∀ j d v,j < i → l.getD j false = true → T[j]? = some (d,v) → a.tmps[d]? = some v
end
section
variable {r : Option Nat} {m : Nat} {P : Program} {Q : Exit → Act → World → Prop} {n : Nat} {D : List Deferred} {w : World} {c : Cf} {E : Nat → Prop} {w0 : World} {X Y : Hid} {M : List (Nat × Obj)}
def cl (c : Cf) : List Oper := match c.cu with
 | .ops _ l => l
 | _ => []
def Qt (P : Program) (n : Nat) (w : World) (N : Nat) (c : Cf) (K : Cf → Prop) : Prop := ∃ L',PR P n w ((cl c).take N) c.L L' ∧ K ⟨.ops (zIb c) ((cl c).drop N),c.k,L'⟩
theorem q0 {K : Cf → Prop} (h : K ⟨.ops (zIb c) (cl c),c.k,c.L⟩) : Qt P n w 0 c K := ⟨c.L,.nil,h⟩
end
end Go.Gv
namespace Go.Proofs.YtjnbipmlmafahaaGreat
open Go Go.Gv Go.RowKit IntKind
set_option maxRecDepth 100000
set_option maxHeartbeats 1000000
section
variable {x : zO} {h u v b r : Int}
def f0 (x : zO) (w : Nat) : Int := x.height.getD (w / x.other.length / x.own.length) 0
def f1 (x : zO) (w : Nat) : Int := x.own.getD (w / x.other.length % x.own.length) 0
def f2 (x : zO) (w : Nat) : Int := x.other.getD (w % x.other.length) 0
end
end Go.Proofs.YtjnbipmlmafahaaGreat
namespace Go.Proofs.YtjnbipmlmafahaaGreat
open Go Go.Gv Go.RowKit IntKind
set_option maxRecDepth 100000
set_option maxHeartbeats 1000000
theorem zOl {n : Int} {d : Nat} (hn : 0 < n) (hd : 0 < d) : 0 < mkRat n d := by
 rw [zPh,Rat.div_def]
 exact Rat.mul_pos (Rat.intCast_pos.2 hn) (Rat.inv_pos.2 (Rat.natCast_pos.2 hd))
theorem Nz1.gt {n : zV} (h : Nz1 n) : 0 < n.p.rat := by
 have hc := (Raw.chk_ok h.sh.chk).2.2.1
 have hv : 0 < val n.p.ln := by
  rcases Nat.eq_zero_or_pos (val n.p.ln) with e | e
  ·exact absurd (aC hc e) h.ne
  ·exact e
 unfold Raw.rat
 rw [h.pos]
 refine zOl ?_ (Raw.d_pos _)
 show (0 : Int) < sgn false (val n.p.ln)
 simp only [sgn,Bool.false_eq_true,if_false]
 omega
theorem wD.gt {l : List Int} {c : Int} {S : List (Nat × Rat)} (hs : wD l c S) : ∀ s ∈ S,0 < s.2 := by
 rcases hs with ⟨k,_,rfl⟩ | ⟨k,a,b,_,_,h3,h4,rfl⟩
 ·intro s h
  rw [List.mem_singleton.1 h]
  show (0 : Rat) < 1
  decide
 ·intro s h
  rcases List.mem_cons.1 h with rfl | h
  ·exact zOl (by omega) (by omega)
  ·rw [List.mem_singleton.1 h]; exact zOl (by omega) (by omega)
theorem zHi {len : Nat} {W S : List (Nat × Rat)} (hw : ∀ p ∈ W,0 < p.2) (hs : ∀ s ∈ S,0 < s.2) : ∀ q ∈ sS len W S,0 < q.2 := by
 intro q hq
 obtain ⟨p,hp,hq⟩ := List.mem_flatMap.1 hq
 obtain ⟨s,h1,rfl⟩ := List.mem_map.1 hq
 exact Rat.mul_pos (hw p hp) (hs s h1)
theorem zCx (k : Int) : ∀ T : List (Int × Rat),(∀ t ∈ T,0 < t.2) → 0 ≤ wO k T
 | [],_ => by show (0 : Rat) ≤ 0; decide
 | t :: T,h => by
  have ih := zCx k T fun s hs => h s (by simp [hs])
  have ht := h t (by simp)
  rw [wO]
  split
  ·exact Rat.add_nonneg (Rat.le_of_lt ht) ih
  ·rw [Rat.zero_add]; exact ih
theorem zOe (k : Int) : ∀ T : List (Int × Rat),(∀ t ∈ T,0 < t.2) → k ∈ T.map Prod.fst → 0 < wO k T
 | t :: T,h,hk => by
  have ht := h t (by simp)
  have hT : ∀ s ∈ T,0 < s.2 := fun s hs => h s (by simp [hs])
  rw [wO]
  by_cases e : t.1 = k
  ·rw [if_pos e]
   have h1 := zCx k T hT
   have h2 : t.2 + 0 ≤ t.2 + wO k T := Rat.add_le_add_left.2 h1
   rw [Rat.add_zero] at h2
   exact Rat.not_le.1 fun h0 => Rat.not_le.2 ht (Rat.le_trans h2 h0)
  ·rw [if_neg e,Rat.zero_add]
   refine zOe k T hT ?_
   rw [List.map_cons] at hk
   exact (List.mem_cons.1 hk).resolve_left fun e' => e e'.symm
section
variable {x : zO} {h u v b r : Int}
theorem zWa (E : Env x h u v b r) (f : zIt x) : ∀ t ∈ zAw x h u v b r,0 < t.2 := by
 intro t ht
 obtain ⟨n,hn,ht⟩ := List.mem_flatMap.1 ht
 obtain ⟨o,ho,ht⟩ := List.mem_flatMap.1 ht
 obtain ⟨w,hw,rfl⟩ := List.mem_map.1 ht
 obtain ⟨Sa,Sb,Sc,h1,h2,h3,e⟩ := (aA E.h1 E.h2 E.h3 E.ck (h + v - u) (r + n.delta) (v + o.delta)).1
 rw [e] at hw
 refine Rat.mul_pos (Rat.mul_pos (f.no.el n hn).gt (f.nt.el o ho).gt) ?_
 exact zHi (zHi (zHi (W := [((0 : Nat),(1 : Rat))]) (fun p hp => by rw [List.mem_singleton.1 hp]; show (0 : Rat) < 1; decide) h1.gt) h2.gt) h3.gt w hw
theorem zVu : (zJc x h u v b r).Pairwise fun a c => a.to < c.to := by
 unfold zJc
 rw [List.pairwise_map]
 have h1 := bV ((lZ x h u v b r).map Prod.fst)
 have h2 : (dN ((lZ x h u v b r).map Prod.fst)).Nodup := (lG _).nodup_iff.2 zJk.1
 exact (h1.and h2).imp fun hab => Int.lt_iff_le_and_ne.2 hab
end
end Go.Proofs.YtjnbipmlmafahaaGreat
namespace Go.Gv
open Go.RowKit IntKind
def zMo (r : Rd) (v : Value) (x : rU) : Prop := ∃ a1 a2 a3 a4 a5 a6 a7 a8 a9,v = .agg #[.bool x.cost.neg,.slice a1 a2 a3,.slice a4 a5 a6,.slice a7 a8 a9] ∧ zL r a1 a2 a3 x.cost.ln ∧ zL r a4 a5 a6 x.cost.ld ∧ vN r a7 a8 a9 x.next
theorem zMo.op {r : Rd} {v : Value} {x : rU} {C : Prop} (h : zMo r v x) (k : ∀ (a1 : Option Addr) (a2 : Nat) (a3 : Nat) (a4 : Option Addr) (a5 : Nat) (a6 : Nat) (a7 : Option Addr) (a8 : Nat) (a9 : Nat),v = .agg #[.bool x.cost.neg,.slice a1 a2 a3,.slice a4 a5 a6,.slice a7 a8 a9] → zL r a1 a2 a3 x.cost.ln → zL r a4 a5 a6 x.cost.ld → vN r a7 a8 a9 x.next → C) : C := by
 obtain ⟨a1,a2,a3,a4,a5,a6,a7,a8,a9,h0,h1,h2,h3⟩ := h
 exact k a1 a2 a3 a4 a5 a6 a7 a8 a9 h0 h1 h2 h3
theorem zFh.op {r : Rd} {a : Addr} {x : rU} {C : Prop} (h : zFh r a x) (k : ∀ (a1 : Option Addr) (a2 : Nat) (a3 : Nat) (a4 : Option Addr) (a5 : Nat) (a6 : Nat) (a7 : Option Addr) (a8 : Nat) (a9 : Nat),At r a [.bool x.cost.neg,.slice a1 a2 a3,.slice a4 a5 a6,.slice a7 a8 a9] → zL r a1 a2 a3 x.cost.ln → zL r a4 a5 a6 x.cost.ld → vN r a7 a8 a9 x.next → C) : C := by
 obtain ⟨a1,a2,a3,a4,a5,a6,a7,a8,a9,h0,h1,h2,h3⟩ := h
 exact k a1 a2 a3 a4 a5 a6 a7 a8 a9 h0 h1 h2 h3
theorem zMo.mono {r r' : Rd} {v : Value} {x : rU} (h : zMo r v x) (k : Le r r') : zMo r' v x := by
 obtain ⟨a1,a2,a3,a4,a5,a6,a7,a8,a9,h0,h1,h2,h3⟩ := h
 exact ⟨a1,a2,a3,a4,a5,a6,a7,a8,a9,h0,h1.mono k,h2.mono k,h3.mono k⟩
def zZz (r : Rd) (cs : List Value) (x : rU) : Prop := ∃ a1 a2 a3 a4 a5 a6 a7 a8 a9,cs = [.bool x.cost.neg,.slice a1 a2 a3,.slice a4 a5 a6,.slice a7 a8 a9] ∧ zL r a1 a2 a3 x.cost.ln ∧ zL r a4 a5 a6 x.cost.ld ∧ vN r a7 a8 a9 x.next
theorem zZz.at (r : Rd) (a : Addr) (cs : List Value) (x : rU) (h : zZz r cs x) (k : At r a cs) : zFh r a x := by
 obtain ⟨a1,a2,a3,a4,a5,a6,a7,a8,a9,rfl,h0,h1,h2⟩ := h
 exact ⟨a1,a2,a3,a4,a5,a6,a7,a8,a9,k,h0,h1,h2⟩
def zPo (r : Rd) (cs : List Value) (x : List rU) : Prop := ∃ a1 a2 a3,cs = [.slice a1 a2 a3] ∧ zAv r a1 a2 a3 x
theorem zPo.at (r : Rd) (a : Addr) (cs : List Value) (x : List rU) (h : zPo r cs x) (k : At r a cs) : bP r a x := by
 obtain ⟨a1,a2,a3,rfl,h2⟩ := h
 exact ⟨a1,a2,a3,k,h2⟩
def zNj (r : Rd) (a : Addr) (x : Mdp) : Prop := ∃ a1 a2 a3 a4 a5 a6 a7 a8 a9,At r a [.bool x.disc.neg,.slice a1 a2 a3,.slice a4 a5 a6,.slice a7 a8 a9] ∧ zL r a1 a2 a3 x.disc.ln ∧ zL r a4 a5 a6 x.disc.ld ∧ lK r a7 a8 a9 x.states
theorem zNj.mono (r r' : Rd) (a : Addr) (x : Mdp) (k : Le r r') (h : zNj r a x) : zNj r' a x := by
 obtain ⟨a1,a2,a3,a4,a5,a6,a7,a8,a9,h0,h1,h2,h3⟩ := h
 exact ⟨a1,a2,a3,a4,a5,a6,a7,a8,a9,h0.mono k,h1.mono k,h2.mono k,h3.mono k⟩
def zUc (r : Rd) (v : Value) (x : Mdp) : Prop := ∃ a1 a2 a3 a4 a5 a6 a7 a8 a9,v = .agg #[.bool x.disc.neg,.slice a1 a2 a3,.slice a4 a5 a6,.slice a7 a8 a9] ∧ zL r a1 a2 a3 x.disc.ln ∧ zL r a4 a5 a6 x.disc.ld ∧ lK r a7 a8 a9 x.states
theorem zUc.op {r : Rd} {v : Value} {x : Mdp} {C : Prop} (h : zUc r v x) (k : ∀ (a1 : Option Addr) (a2 : Nat) (a3 : Nat) (a4 : Option Addr) (a5 : Nat) (a6 : Nat) (a7 : Option Addr) (a8 : Nat) (a9 : Nat),v = .agg #[.bool x.disc.neg,.slice a1 a2 a3,.slice a4 a5 a6,.slice a7 a8 a9] → zL r a1 a2 a3 x.disc.ln → zL r a4 a5 a6 x.disc.ld → lK r a7 a8 a9 x.states → C) : C := by
 obtain ⟨a1,a2,a3,a4,a5,a6,a7,a8,a9,h0,h1,h2,h3⟩ := h
 exact k a1 a2 a3 a4 a5 a6 a7 a8 a9 h0 h1 h2 h3
theorem zNj.op {r : Rd} {a : Addr} {x : Mdp} {C : Prop} (h : zNj r a x) (k : ∀ (a1 : Option Addr) (a2 : Nat) (a3 : Nat) (a4 : Option Addr) (a5 : Nat) (a6 : Nat) (a7 : Option Addr) (a8 : Nat) (a9 : Nat),At r a [.bool x.disc.neg,.slice a1 a2 a3,.slice a4 a5 a6,.slice a7 a8 a9] → zL r a1 a2 a3 x.disc.ln → zL r a4 a5 a6 x.disc.ld → lK r a7 a8 a9 x.states → C) : C := by
 obtain ⟨a1,a2,a3,a4,a5,a6,a7,a8,a9,h0,h1,h2,h3⟩ := h
 exact k a1 a2 a3 a4 a5 a6 a7 a8 a9 h0 h1 h2 h3
theorem zUc.mono {r r' : Rd} {v : Value} {x : Mdp} (h : zUc r v x) (k : Le r r') : zUc r' v x := by
 obtain ⟨a1,a2,a3,a4,a5,a6,a7,a8,a9,h0,h1,h2,h3⟩ := h
 exact ⟨a1,a2,a3,a4,a5,a6,a7,a8,a9,h0,h1.mono k,h2.mono k,h3.mono k⟩
end Go.Gv
namespace Go.Proofs.YtjnbipmlmafahaaGreat
open Go Go.Gv Go.RowKit IntKind
set_option maxRecDepth 100000
section
variable (w : World) (X : Hid) (hX : ∀ k o,X k o → k < w.heap.size)
set_option maxHeartbeats 1000000
noncomputable def kV (p0 : Raw) : Option (Raw) :=
 grd (p0.ln.length * 4 ≤ 140737488351232 ∧ p0.ld.length * 4 ≤ 140737488351232) (some p0)
include hX in
theorem wW (p0 : Raw) (vp0 : Value) (hp0 : vJ (rd w X) vp0 p0) (y : Raw) (hp : kV p0 = some y) : Calls Tryz.prog 46 #[vp0] w (Ret E0 w fun w' v => vJ (rd w' X) v y) := by
 obtain ⟨a01,a02,a03,a04,a05,a06,rfl,h01,h02⟩ := hp0
 obtain ⟨⟨hm1,hm2⟩,hp⟩ := nC hp
 obtain rfl := Option.some.inj hp
 obtain rfl := h01.hlen
 obtain rfl := h02.hlen
 exact (zRj w X hX p0 _ _ _ h01 _ _ _ h02 hm1 hm2).mono (by rintro e w' ⟨hu,v,rfl,h⟩; exact ⟨hu,_,rfl,h⟩)
noncomputable def yK (J2 : (List Int) → Option ((List Int))) : List Int → (List Int) → Option ((List Int))
 | [],v5_0 => J2 v5_0
 | x5 :: r5,v5_0 => grd ((v5_0.length + 1) * 8 ≤ 140737488355328) <| yK J2 r5 (v5_0 ++ [x5])
noncomputable def kJ (p0 : List Int) : Option ((List Int)) :=
 lt (fun (v2_0 : List Int) => some v2_0) fun J2 => yK J2 (p0.drop 0)  ([] : List Int)
include hX in
theorem sU (p0 : List Int) (vp0 : Value) (hp0 : SV wK (rd w X) vp0 p0) (y : (List Int)) (hp : kJ p0 = some y) : Calls Tryz.prog 43 #[vp0] w (Ret E0 w fun w' v => SV wK (rd w' (old w)) v y) := by
 obtain ⟨D1,D2,rfl,p0a_h0⟩ := hp0
 unfold kJ at hp
 refine zen Tryz.func43 ?_
 have C0 : St E0 w X w X [] := St.start hX
 refine zz 10 ?_
 have C := rQ hp
 obtain ⟨J2,hJ2,hp⟩ := C
 refine yT (fun ((v2_0,rb2_0,ad2_0,m2_0,cap2_0) : (List Int) × (List (Nat × Obj)) × (Option Addr) × Nat × Nat) => [(3,.slice ad2_0 m2_0 cap2_0)]) (fun (v2_0,rb2_0,ad2_0,m2_0,cap2_0) w1 => ∃ Y1 : Hid,St E0 w X w1 Y1 (rb2_0) ∧ Le (rd w X) (rd w1 Y1) ∧ jX zBy 3 1 (rd w1 (orN Y1 w.heap.size)) rb2_0 ad2_0 m2_0 cap2_0 v2_0 ∧ J2 v2_0 = some y) ?_ ?_
 rintro ⟨v2_0,rb2_0,ad2_0,m2_0,cap2_0⟩ w2 ⟨Y2,C2,B2,P2_0_0,hp⟩
 have hp := (hJ2 _).symm.trans hp
 refine zz 7 <| zr' (v := .slice ad2_0 m2_0 cap2_0) ?_
 have C := St.pubGRN (A := []) (B := []) (fun rb => (rb)) C2 (fun _ => by simp only [List.append_assoc,List.cons_append,List.nil_append,List.append_nil]) P2_0_0 (Nat.le_refl _) zBy.at
 obtain ⟨Y3,hSx3,B3,hRx3⟩ := C
 have C3 : St E0 w X w2 Y3 [] := hSx3
 have C := hRx3.hlen
 subst C
 have hR3 : wK (rd w2 (orN Y3 w.heap.size)) ad2_0 v2_0.length cap2_0 v2_0 := hRx3
 cases hp
 exact ⟨C3.upd,_,rfl,⟨_,_,rfl,((hR3.mono (Le.or (Le.refl _) _))).mono Le.orr⟩⟩
 intro K4 H4
 refine zz 6 ?_
 have hb5 : (p0.length : Int) ≤ 9223372036854775807 := rR (p0a_h0).hcap (p0a_h0).hbig
 refine zlp Tryz.f43 [K4] [1,1,9,1,0] (fun ((v5_0,k5,rb5_0,ad5_0,m5_0,cap5_0) : (List Int) × Nat × (List (Nat × Obj)) × (Option Addr) × Nat × Nat) => [(0,.slice D1 p0.length D2),(3,.slice ad5_0 m5_0 cap5_0),(4,.int .i64 (k5 : Int))]) (fun (v5_0,k5,rb5_0,ad5_0,m5_0,cap5_0) w1 => ∃ Y1 : Hid,St E0 w X w1 Y1 (rb5_0) ∧ Le (rd w X) (rd w1 Y1) ∧ jX zBy 3 1 (rd w1 (orN Y1 w.heap.size)) rb5_0 ad5_0 m5_0 cap5_0 v5_0 ∧ yK J2 (p0.drop k5)  v5_0 = some y) (fun (v5_0,k5,rb5_0,ad5_0,m5_0,cap5_0) => p0.length - k5) (([] : List Int),0,[],none,0,0) ?_ ?_
 exact ⟨_,C0,Le.refl _,jX.nil,hp⟩
 rintro ⟨v5_0,k5,rb5_0,ad5_0,m5_0,cap5_0⟩ w5 K5 H5 ⟨Y5,C5,B5,P5_0_0,hp⟩
 refine zz 9 <| zt 8 (p := (k5 : Int) < (p0.length : Int)) (fun Q6 => ?_) (fun Q6 => ?_)
 have C := xK (l := p0) (k := k5) (qR Q6)
 obtain ⟨x5,O5⟩ := C
 rw [wG O5,yK] at hp
 have L5 : (0 : Int) ≤ (k5 : Int) := Int.natCast_nonneg _
 refine zz 9 ?_
 have C := p0a_h0.opn O5
 obtain ⟨be7,oe7,rfl,B7,hEe7⟩ := C
 have hAe7 : At (rd w X) ⟨be7,oe7 + k5 * 1,none⟩ [.int .i64 x5] := hEe7
 refine zi (b := be7) (off := oe7) (len := p0.length) (cap := D2) (kd := .i64) (i := (k5 : Int)) 1 (oe7 + k5 * 1) ?_ (h0 := L5) (h1 := (jS L5 B7))
 refine zl ((hAe7.mono B5)).cells <| zn (fun b => .slice (some ⟨b,0,none⟩) 1 1) (.cells #[.int .i64 x5] 3 (0,0)) C5 fun b9 w9 Y9 C9 B9 V9 => ?_
 have C := nC hp
 obtain ⟨hg11,hp⟩ := C
 have hln12 : m5_0 = v5_0.length := jX.len P5_0_0
 have C := (P5_0_0.mono (Le.or B9 _))
 obtain ⟨es12,hr12,hq12,hk12,hm12⟩ := C
 refine zop (at1 [K4,K5] Tryz.f43 [1,1,9,1,0,0,1,0,0]) 6 (fun a10 _ G10 hz10 => tK (b := 8) (m := 1) (c := 1) (ad := ⟨b9,0,none⟩) (news := [.int .i64 x5]) (i0 := Tryz.t3) (rb := rb5_0) (R1 := []) 1 G10 C9 rfl hr12 (C9.cells 0 rfl rfl) (lY hg11 hln12 rfl) (lX hg11 hln12) ?_)
 intro rb13 ad13 cap13 w13 Y13 F13 C13 B13 a14 G14
 have hg13 : jX zBy 3 1 (rd w13 (orN Y13 w.heap.size)) rb13 ad13 (m5_0 + 1) cap13 (v5_0 ++ [x5]) := jX.snoc F13 hq12 hk12 hm12 (Le.or B13 _) ⟨rfl,fun r2 h2 => rfl⟩
 refine hz10 G14 <| zz 7 <| zs 10 (v := .int .i64 (i64.wrap ((k5 : Int) + 1))) (v' := .int .i64 ((k5 : Int) + 1)) (zR (jE (wk0 k5) (wk1 Q6 hb5))) <| zz 2 <| zP (fun a h => H5 ((v5_0 ++ [x5]),k5 + 1,rb13,ad13,(m5_0 + 1),cap13) _ a h ⟨_,C13.tail,(Le3 B5 B9 B13),hg13,hp⟩ ?_)
 exact vK Q6
 rw [List.drop_eq_nil_of_le (qI Q6),yK] at hp
 refine zz 5 ?_
 exact zP (fun a h => H4 (v5_0,rb5_0,ad5_0,m5_0,cap5_0) _ a h ⟨_,C5,B5,P5_0_0,hp⟩)
noncomputable def wJ (p0 : zV) : Option (zV) :=
 (kV p0.p).bind fun y7 => some (zV.mk p0.delta y7)
include hX in
theorem cK (p0 : zV) (vp0 : Value) (hp0 : bN (rd w X) vp0 p0) (y : zV) (hp : wJ p0 = some y) : Calls Tryz.prog 85 #[vp0] w (Ret E0 w fun w' v => bN (rd w' X) v y) := by
 have hVp0 := hp0
 obtain ⟨D1,D2,D3,D4,rfl,p0a_h0,p0a_h1⟩ := hp0
 unfold wJ at hp
 refine zen Tryz.func85 ?_
 have C0 : St E0 w X w X [] := St.start hX
 refine zz 2 <| zn pn (.cells #[.int .i64 p0.delta,.bool p0.p.neg,.slice D1 p0.p.ln.length D2,.slice D3 p0.p.ld.length D4] 76 (0,0)) C0 fun b3 w3 Y3 C3 B3 V3 => zn pn (.cells #[.int .i64 0,.bool false,.slice none 0 0,.slice none 0 0] 76 (0,0)) C3 fun b5 w5 Y5 C5 B5 V5 => zz 3 <| zdr C5 <| gz [0] <| gw 1 1 <| gz [2] <| gw 3 1 ?_
 refine zQ hp fun y7 hy7 hp => gC 4 (fun w6 Y6 _ C6 B6 => (wW _ _ C6.lt p0.p _ ⟨_,_,_,_,_,_,rfl,(p0a_h0.mono (Le3 B3 B5 B6)),(p0a_h1.mono (Le3 B3 B5 B6))⟩ y7 hy7)) ?_
 rintro v8 w6 Y8 w8 C6 B8 ⟨u8_0_1,u8_0_2,u8_0_3,u8_0_4,u8_0_5,u8_0_6,rfl,u8_0__h0,u8_0__h1⟩
 have C := u8_0__h0.hlen
 subst C
 have C := u8_0__h1.hlen
 subst C
 refine gz [5] <| gX 6 0 #[.int .i64 p0.delta,.bool y7.neg,.slice u8_0_1 y7.ln.length u8_0_3,.slice u8_0_4 y7.ld.length u8_0_6] fun w9 Y9 B9 => ?_
 refine yO (fun w10 Y10 C10 B10 => ?_)
 refine zz 2 <| zrS [.cell 2 76] (v := .agg #[.int .i64 p0.delta,.bool y7.neg,.slice u8_0_1 y7.ln.length u8_0_3,.slice u8_0_4 y7.ld.length u8_0_6]) (Res.cM C10 0 Res.nil) ?_
 cases hp
 exact ⟨C10.upd,_,rfl,⟨_,_,_,_,rfl,((u8_0__h0.mono (Le2 B9 B10))).mono C10.le,((u8_0__h1.mono (Le2 B9 B10))).mono C10.le⟩⟩
end
end Go.Proofs.YtjnbipmlmafahaaGreat

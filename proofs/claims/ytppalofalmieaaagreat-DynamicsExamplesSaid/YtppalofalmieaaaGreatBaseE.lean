/- Parts of the proof: A6 P2 HxE A7 A10a. By an AI agent. -/
import Derived.Test.YtppalofalmieaaaGreatBaseA
import Derived.Test.YtppalofalmieaaaGreatBaseB
import Derived.Test.YtppalofalmieaaaGreatBaseC
import Derived.Test.YtppalofalmieaaaGreatBaseD
set_option linter.unusedVariables false
set_option linter.unusedSimpArgs false
set_option linter.unnecessarySimpa false
namespace Go.Proofs.YtppalofalmieaaaGreat
open Go Go.Gv Go.RowKit
set_option maxRecDepth 100000
set_option maxHeartbeats 1000000
noncomputable def clearwaykit_EqualOutcome_p (p0 : Out) (p1 : Out) : Option (Bool) :=
  if ((p0.to) == p1.to) = true then ((clearwaykit_EqualRat_p p0.p p1.p).bind fun y8 => some y8) else (some false)
theorem clearwaykit_EqualOutcome_c (w : World) (X : Hid) (hX : ∀ k o, X k o → k < w.heap.size) (p0 : Out) (vp0 : Value) (hp0 : OutV (rd w X) vp0 p0) (p1 : Out) (vp1 : Value) (hp1 : OutV (rd w X) vp1 p1) (y : Bool) (hp : clearwaykit_EqualOutcome_p p0 p1 = some y) : Calls Tryz.prog 78 #[vp0, vp1] w (Ret E0 w fun _ v => v = .bool y) := by
 have hVp0 := hp0
 obtain ⟨p0a1, p0a2, p0a3, p0a4, p0a5, p0a6, rfl, p0a_h0, p0a_h1⟩ := hp0
 have hob := p0a_h0.hlen
 subst hob
 have hob := p0a_h1.hlen
 subst hob
 have hVp1 := hp1
 obtain ⟨p1a1, p1a2, p1a3, p1a4, p1a5, p1a6, rfl, p1a_h0, p1a_h1⟩ := hp1
 have hob := p1a_h0.hlen
 subst hob
 have hob := p1a_h1.hlen
 subst hob
 unfold clearwaykit_EqualOutcome_p at hp
 refine zen Tryz.func78 ?_
 have B0 : St E0 w X w X [] := St.start hX
 refine zz 2 ?_
 refine zn pn (.cells #[.int .i64 p0.to, .bool p0.p.neg, .slice p0a1 p0.p.ln.length p0a3, .slice p0a4 p0.p.ld.length p0a6] 41 (0, 0)) B0 ?_
 intro b3 w3 Y3 B3 j3 hu3
 refine zn pn (.cells #[.int .i64 p1.to, .bool p1.p.neg, .slice p1a1 p1.p.ln.length p1a3, .slice p1a4 p1.p.ld.length p1a6] 41 (0, 0)) B3 ?_
 intro b5 w5 Y5 B5 j5 hu5
 refine zz 6 ?_
 refine zo 1 B5 ?_
 refine zz 1 ?_
 refine zo 0 B5 ?_
 refine zz 2 ?_
 refine zb 10 (b := ((p0.to) == p1.to)) (fun hc6 => ?_) (fun hc6 => ?_)
 ·
  have hp := ipb hc6 hp
  refine zz 1 ?_
  refine zo 1 B5 ?_
  refine zz 1 ?_
  refine zo 0 B5 ?_
  refine bndk hp fun y8 hy8 hp => ?_
  refine zc B5 (clearwaykit_EqualRat_c _ X0 (X0_lt _) p0.p _ ⟨_, _, _, _, _, _, rfl, ((p0a_h0.mono (Le2 j3 j5)).mono Le.x0), ((p0a_h1.mono (Le2 j3 j5)).mono Le.x0)⟩ p1.p _ ⟨_, _, _, _, _, _, rfl, ((p1a_h0.mono (Le2 j3 j5)).mono Le.x0), ((p1a_h1.mono (Le2 j3 j5)).mono Le.x0)⟩ y8 hy8) ?_
  rintro v9 w9 B9 j9 hu9 rfl
  refine zz 5 ?_
  refine zr' (v := .bool y8) ?_
  have hob := Option.some.inj hp
  subst hob
  exact ⟨B9.upd, _, rfl, rfl⟩
 have hp := iqb hc6 hp
 refine zz 10 ?_
 refine zr' (v := .bool false) ?_
 have hob := Option.some.inj hp
 subst hob
 exact ⟨B5.upd, _, rfl, rfl⟩
noncomputable def clearwaykit_EqualOutcomes_l5 (p1 : List Out) (J3 : Option (Bool)) : List Out → Nat → Option (Bool)
  | [], k5 => J3
  | x5 :: r5, k5 => (ix p1 (k5 : Int)).bind fun x8 => (clearwaykit_EqualOutcome_p x5 x8).bind fun y11 => if (!y11) = true then (some false) else (clearwaykit_EqualOutcomes_l5 p1 J3 r5 (k5 + 1))
noncomputable def clearwaykit_EqualOutcomes_p (p0 : List Out) (p1 : List Out) : Option (Bool) :=
  if ((p0.length : Int) != (p1.length : Int)) = true then (some false) else (lt (some true) fun J3 => clearwaykit_EqualOutcomes_l5 p1 J3 (p0.drop 0) 0)
theorem clearwaykit_EqualOutcomes_c (w : World) (X : Hid) (hX : ∀ k o, X k o → k < w.heap.size) (p0 : List Out) (vp0 : Value) (hp0 : SV OutsR (rd w X) vp0 p0) (p1 : List Out) (vp1 : Value) (hp1 : SV OutsR (rd w X) vp1 p1) (y : Bool) (hp : clearwaykit_EqualOutcomes_p p0 p1 = some y) : Calls Tryz.prog 28 #[vp0, vp1] w (Ret E0 w fun _ v => v = .bool y) := by
 obtain ⟨p0a1, p0a2, rfl, p0a_h0⟩ := hp0
 obtain ⟨p1a1, p1a2, rfl, p1a_h0⟩ := hp1
 unfold clearwaykit_EqualOutcomes_p at hp
 refine zen Tryz.func28 ?_
 have B0 : St E0 w X w X [] := St.start hX
 refine zz 15 ?_
 refine zb 10 (b := ((p0.length : Int) != (p1.length : Int))) (fun hc2 => ?_) (fun hc2 => ?_)
 ·
  have hp := ipb hc2 hp
  refine zz 8 ?_
  refine zr' (v := .bool false) ?_
  have hob := Option.some.inj hp
  subst hob
  exact ⟨B0.upd, _, rfl, rfl⟩
 have hp := iqb hc2 hp
 refine zz 3 ?_
 have hob := ltd0 hp
 obtain ⟨J3, hJ3, hp⟩ := hob
 refine zjoin (fun (_ : Unit) => []) (fun (_ : Unit) w1 => ∃ Y1 : Hid, St E0 w X w1 Y1 [] ∧ Le (rd w X) (rd w1 Y1) ∧ J3 = some y) ?_ ?_
 ·
  rintro _ w3 ⟨Y3, B3, j3, hp⟩
  have hp := hJ3.symm.trans hp
  refine zz 6 ?_
  refine zr' (v := .bool true) ?_
  have hob := Option.some.inj hp
  subst hob
  exact ⟨B3.upd, _, rfl, rfl⟩
 intro K4 G4
 refine zz 6 ?_
 have hb5 : (p0.length : Int) ≤ 9223372036854775807 := lenb (p0a_h0).hcap (p0a_h0).hbig
 refine zlp Tryz.f28 [K4] [1, 1, 9, 1, 0] (fun (k5 : Nat) => [(0, .slice p0a1 p0.length p0a2), (1, .slice p1a1 p1.length p1a2), (5, .int .i64 (k5 : Int))]) (fun (k5 : Nat) w1 => ∃ Y1 : Hid, St E0 w X w1 Y1 [] ∧ Le (rd w X) (rd w1 Y1) ∧ clearwaykit_EqualOutcomes_l5 p1 J3 (p0.drop k5) k5 = some y) (fun (k5 : Nat) => p0.length - k5) 0 ?_ ?_
 ·
  exact ⟨_, B0, Le.refl _, hp⟩
 rintro k5 w5 K5 G5 ⟨Y5, B5, j5, hp⟩
 refine zz 9 ?_
 refine zt 14 (p := (k5 : Int) < (p0.length : Int)) (fun ht6 => ?_) (fun ht6 => ?_)
 ·
  have hob := get_lt (l := p0) (k := k5) (lt_of_int ht6)
  obtain ⟨x5, hqx5⟩ := hob
  rw [dropC hqx5, clearwaykit_EqualOutcomes_l5] at hp
  have hzx5 : (0 : Int) ≤ (k5 : Int) := Int.natCast_nonneg _
  refine zz 6 ?_
  refine zdr B5 ?_
  have hob := p0a_h0.opn hqx5
  obtain ⟨be7, oe7, rfl, j7, hEe7⟩ := hob
  obtain ⟨e71, e72, e73, e74, e75, e76, e7_at, e7_h0, e7_h1⟩ := hEe7
  have hob := e7_h0.hlen
  subst hob
  have hob := e7_h1.hlen
  subst hob
  refine gz [0, 1] ?_
  refine gi 2 (b := be7) (off := oe7) (len := p0.length) (cap := p0a2) (kd := .i64) (i := (k5 : Int)) 4 (oe7 + k5 * 4) ?_ (h0 := hzx5) (h1 := (ix_b hzx5 j7))
  refine gl 3 ((e7_at.mono j5)) ?_
  refine bndk hp fun x8 hx8 hp => ?_
  have hob := ix_some hx8
  obtain ⟨hzx8, hqx8⟩ := hob
  have hwx8 : p1[k5]? = some x8 := hqx8
  have hob := p1a_h0.opn hwx8
  obtain ⟨be9, oe9, rfl, j9, hEe9⟩ := hob
  obtain ⟨e91, e92, e93, e94, e95, e96, e9_at, e9_h0, e9_h1⟩ := hEe9
  have hob := e9_h0.hlen
  subst hob
  have hob := e9_h1.hlen
  subst hob
  refine gz [4, 5] ?_
  refine gi 6 (b := be9) (off := oe9) (len := p1.length) (cap := p1a2) (kd := .i64) (i := (k5 : Int)) 4 (oe9 + k5 * 4) ?_ (h0 := hzx8) (h1 := (ix_b hzx8 j9))
  refine gl 7 ((e9_at.mono j5)) ?_
  refine bndk hp fun y11 hy11 hp => ?_
  refine gC 8 (fun w10 Y10 _ B10 j10 => (clearwaykit_EqualOutcome_c _ X0 (X0_lt _) x5 _ ⟨_, _, _, _, _, _, rfl, ((e7_h0.mono (Le2 j5 j10)).mono Le.x0), ((e7_h1.mono (Le2 j5 j10)).mono Le.x0)⟩ x8 _ ⟨_, _, _, _, _, _, rfl, ((e9_h0.mono (Le2 j5 j10)).mono Le.x0), ((e9_h1.mono (Le2 j5 j10)).mono Le.x0)⟩ y11 hy11)) ?_
  rintro v12 w10 Y12 w12 B10 j12 rfl
  refine gz [9] ?_
  refine gend (fun w13 Y13 B13 j13 => ?_)
  refine zz 1 ?_
  refine zb 26 (b := !y11) (fun hc14 => ?_) (fun hc14 => ?_)
  ·
   have hp := ipb hc14 hp
   refine zz 12 ?_
   refine zr' (v := .bool false) ?_
   have hob := Option.some.inj hp
   subst hob
   exact ⟨B13.upd, _, rfl, rfl⟩
  have hp := iqb hc14 hp
  refine zz 7 ?_
  refine zs 16 (v := .int .i64 (IntKind.i64.wrap ((k5 : Int) + 1))) (v' := .int .i64 ((k5 : Int) + 1)) (vint (wi64 (wk0 k5) (wk1 ht6 hb5))) ?_
  refine zz 2 ?_
  refine znext (fun a h => G5 (k5 + 1) _ a h ⟨_, B13, (Le3 j5 j12 j13), hp⟩ ?_)
  exact mu_lt ht6
 rw [List.drop_eq_nil_of_le (nlt_of_int ht6), clearwaykit_EqualOutcomes_l5] at hp
 refine zz 5 ?_
 exact znext (fun a h => G4 () _ a h ⟨_, B5, j5, hp⟩)
noncomputable def clearwaylaw24_awake_l101 (y30 : (List Raw) × Int) (J60 : Option (Bool)) : Nat → Nat → Option (Bool)
  | 0, k101 => J60
  | r101 + 1, k101 => if (k101 : Int) ≥ 4 then ((ix y30.1 (k101 : Int)).bind fun x104 => (rat_From_p (1 : Int)).bind fun y107 => (clearwaykit_EqualRat_p x104 y107).bind fun y110 => if (!((decide ((k101 : Int) ≤ 7)) == y110)) = true then (some false) else (if (k101 : Int) < 4 then ((clearwaykit_EqualRat_p x104 Raw.zero).bind fun y116 => if (!(true == y116)) = true then (some false) else (clearwaylaw24_awake_l101 y30 J60 r101 (k101 + 1))) else ((clearwaykit_EqualRat_p x104 Raw.zero).bind fun y121 => if (!((decide ((k101 : Int) > 7)) == y121)) = true then (some false) else (clearwaylaw24_awake_l101 y30 J60 r101 (k101 + 1))))) else ((ix y30.1 (k101 : Int)).bind fun x125 => (rat_From_p (1 : Int)).bind fun y128 => (clearwaykit_EqualRat_p x125 y128).bind fun y131 => if (!(false == y131)) = true then (some false) else (if (k101 : Int) < 4 then ((clearwaykit_EqualRat_p x125 Raw.zero).bind fun y137 => if (!(true == y137)) = true then (some false) else (clearwaylaw24_awake_l101 y30 J60 r101 (k101 + 1))) else ((clearwaykit_EqualRat_p x125 Raw.zero).bind fun y142 => if (!((decide ((k101 : Int) > 7)) == y142)) = true then (some false) else (clearwaylaw24_awake_l101 y30 J60 r101 (k101 + 1)))))
noncomputable def clearwaylaw24_awake_p : Option (Bool) :=
  (clearwaylaw24_small_p).bind fun y3 => (dynamics_Size_p y3).bind fun y6 => (clearwaylaw24_small_p).bind fun y9 => (dynamics_Respond_p y9 (0 : Int) (1 : Int)).bind fun y12 => (clearwaylaw24_small_p).bind fun y15 => (dynamics_Spread_p y15 (100 : Int) (10 : Int) (0 : Int) (0 : Int)).bind fun y18 => (clearwaylaw24_small_p).bind fun y21 => (dynamics_Spread_p y21 (0 : Int) (0 : Int) (0 : Int) (1 : Int)).bind fun y24 => (clearwaylaw24_small_p).bind fun y27 => (dynamics_Terminal_p y27).bind fun y30 => (clearwaylaw24_small_p).bind fun y33 => (dynamics_Cost_p y33 (0 : Int) (1 : Int)).bind fun y36 => (clearwaylaw24_small_p).bind fun y42 => (dynamics_Cost_p y42 (1 : Int) (1 : Int)).bind fun y45 => if ((y6.1) != 12) = true then (some false) else (if ((y6.2) != 0) = true then (some false) else (if ((y12.1) != 5) = true then (some false) else (if ((y12.2) != 0) = true then (some false) else (if ((y18.2) != 0) = true then (some false) else (if ((y24.2) != 0) = true then (some false) else (if ((y30.2) != 0) = true then (some false) else (if ((y36.2) != 0) = true then (some false) else (if ((y45.2) != 0) = true then (some false) else (if ((y30.1.length : Int) != 12) = true then (some false) else (lt ((clearwaylaw24_of_p (1 : Int) (10 : Int)).bind fun y62 => (clearwaylaw24_of_p (9 : Int) (10 : Int)).bind fun y65 => (clearwaykit_EqualOutcomes_p y18.1 ([(Out.mk 6 y62), (Out.mk 10 y65)])).bind fun y69 => if y69 = true then ((clearwaylaw24_of_p (1 : Int) (2 : Int)).bind fun y73 => (clearwaylaw24_of_p (1 : Int) (2 : Int)).bind fun y76 => (clearwaykit_EqualOutcomes_p y24.1 ([(Out.mk 5 y73), (Out.mk 7 y76)])).bind fun y80 => if y80 = true then ((clearwaylaw24_of_p (1 : Int) (10 : Int)).bind fun y84 => (clearwaykit_EqualRat_p y36.1 y84).bind fun y87 => if y87 = true then ((clearwaylaw24_of_p (1 : Int) (10 : Int)).bind fun y91 => (clearwaykit_EqualRat_p y45.1 y91).bind fun y94 => some y94) else (some false)) else (some false)) else (some false)) fun J60 => clearwaylaw24_awake_l101 y30 J60 ((12 : Int).toNat - 0) 0))))))))))
theorem clearwaylaw24_awake_c (w : World) (X : Hid) (hX : ∀ k o, X k o → k < w.heap.size)  (y : Bool) (hp : clearwaylaw24_awake_p = some y) : Calls Tryz.prog 10 #[] w (Ret E0 w fun _ v => v = .bool y) := by
 unfold clearwaylaw24_awake_p at hp
 refine zen Tryz.func10 ?_
 have B0 : St E0 w X w X [] := St.start hX
 refine zz 7 ?_
 refine bndk hp fun y3 hy3 hp => ?_
 refine zc B0 (clearwaylaw24_small_c _ X0 (X0_lt _)  y3 hy3) ?_
 rintro v4 w4 B4 j4 hu4 u4_0_o
 refine ModelDV.op u4_0_o fun u4_0_1 u4_0_2 u4_0_3 u4_0_4 u4_0_5 u4_0_6 u4_0_7 u4_0_8 u4_0_9 u4_0_10 u4_0_11 u4_0_12 u4_0_13 u4_0_14 u4_0_15 u4_0_16 u4_0_17 u4_0_18 u4_0_19 u4_0_20 u4_0_21 u4_0_22 u4_0_23 u4_0_24 hv9 u4_0__h0 u4_0__h1 u4_0__h2 u4_0__h3 u4_0__h4 u4_0__h5 u4_0__h6 u4_0__h7 u4_0__h8 u4_0__h9 u4_0__h10 u4_0__h11 => ?_
 subst hv9
 refine bndk hp fun y6 hy6 hp => ?_
 refine zc B4 (dynamics_Size_c _ X0 (X0_lt _) y3 _ ⟨_, _, _, _, _, _, _, _, _, _, _, _, _, _, _, _, _, _, _, _, _, _, _, _, rfl, ((u4_0__h0.mono (Le.new B0.lt)).mono Le.x0), ((u4_0__h1.mono (Le.new B0.lt)).mono Le.x0), ((u4_0__h2.mono (Le.new B0.lt)).mono Le.x0), ((u4_0__h3.mono (Le.new B0.lt)).mono Le.x0), ((u4_0__h4.mono (Le.new B0.lt)).mono Le.x0), ((u4_0__h5.mono (Le.new B0.lt)).mono Le.x0), ((u4_0__h6.mono (Le.new B0.lt)).mono Le.x0), ((u4_0__h7.mono (Le.new B0.lt)).mono Le.x0), ((u4_0__h8.mono (Le.new B0.lt)).mono Le.x0), ((u4_0__h9.mono (Le.new B0.lt)).mono Le.x0), ((u4_0__h10.mono (Le.new B0.lt)).mono Le.x0), ((u4_0__h11.mono (Le.new B0.lt)).mono Le.x0)⟩ y6 hy6) ?_
 rintro v7 w7 B7 j7 hu7 rfl
 refine zz 9 ?_
 refine bndk hp fun y9 hy9 hp => ?_
 refine zc B7 (clearwaylaw24_small_c _ X0 (X0_lt _)  y9 hy9) ?_
 rintro v10 w10 B10 j10 hu10 u10_0_o
 refine ModelDV.op u10_0_o fun u10_0_1 u10_0_2 u10_0_3 u10_0_4 u10_0_5 u10_0_6 u10_0_7 u10_0_8 u10_0_9 u10_0_10 u10_0_11 u10_0_12 u10_0_13 u10_0_14 u10_0_15 u10_0_16 u10_0_17 u10_0_18 u10_0_19 u10_0_20 u10_0_21 u10_0_22 u10_0_23 u10_0_24 hv9 u10_0__h0 u10_0__h1 u10_0__h2 u10_0__h3 u10_0__h4 u10_0__h5 u10_0__h6 u10_0__h7 u10_0__h8 u10_0__h9 u10_0__h10 u10_0__h11 => ?_
 subst hv9
 refine bndk hp fun y12 hy12 hp => ?_
 refine zc B10 (dynamics_Respond_c _ X0 (X0_lt _) y9 _ ⟨_, _, _, _, _, _, _, _, _, _, _, _, _, _, _, _, _, _, _, _, _, _, _, _, rfl, ((u10_0__h0.mono (Le.new B7.lt)).mono Le.x0), ((u10_0__h1.mono (Le.new B7.lt)).mono Le.x0), ((u10_0__h2.mono (Le.new B7.lt)).mono Le.x0), ((u10_0__h3.mono (Le.new B7.lt)).mono Le.x0), ((u10_0__h4.mono (Le.new B7.lt)).mono Le.x0), ((u10_0__h5.mono (Le.new B7.lt)).mono Le.x0), ((u10_0__h6.mono (Le.new B7.lt)).mono Le.x0), ((u10_0__h7.mono (Le.new B7.lt)).mono Le.x0), ((u10_0__h8.mono (Le.new B7.lt)).mono Le.x0), ((u10_0__h9.mono (Le.new B7.lt)).mono Le.x0), ((u10_0__h10.mono (Le.new B7.lt)).mono Le.x0), ((u10_0__h11.mono (Le.new B7.lt)).mono Le.x0)⟩ (0 : Int) (1 : Int) y12 hy12) ?_
 rintro v13 w13 B13 j13 hu13 rfl
 refine zz 9 ?_
 refine bndk hp fun y15 hy15 hp => ?_
 refine zc B13 (clearwaylaw24_small_c _ X0 (X0_lt _)  y15 hy15) ?_
 rintro v16 w16 B16 j16 hu16 u16_0_o
 refine ModelDV.op u16_0_o fun u16_0_1 u16_0_2 u16_0_3 u16_0_4 u16_0_5 u16_0_6 u16_0_7 u16_0_8 u16_0_9 u16_0_10 u16_0_11 u16_0_12 u16_0_13 u16_0_14 u16_0_15 u16_0_16 u16_0_17 u16_0_18 u16_0_19 u16_0_20 u16_0_21 u16_0_22 u16_0_23 u16_0_24 hv9 u16_0__h0 u16_0__h1 u16_0__h2 u16_0__h3 u16_0__h4 u16_0__h5 u16_0__h6 u16_0__h7 u16_0__h8 u16_0__h9 u16_0__h10 u16_0__h11 => ?_
 subst hv9
 refine bndk hp fun y18 hy18 hp => ?_
 refine zc B16 (dynamics_Spread_c _ X0 (X0_lt _) y15 _ ⟨_, _, _, _, _, _, _, _, _, _, _, _, _, _, _, _, _, _, _, _, _, _, _, _, rfl, ((u16_0__h0.mono (Le.new B13.lt)).mono Le.x0), ((u16_0__h1.mono (Le.new B13.lt)).mono Le.x0), ((u16_0__h2.mono (Le.new B13.lt)).mono Le.x0), ((u16_0__h3.mono (Le.new B13.lt)).mono Le.x0), ((u16_0__h4.mono (Le.new B13.lt)).mono Le.x0), ((u16_0__h5.mono (Le.new B13.lt)).mono Le.x0), ((u16_0__h6.mono (Le.new B13.lt)).mono Le.x0), ((u16_0__h7.mono (Le.new B13.lt)).mono Le.x0), ((u16_0__h8.mono (Le.new B13.lt)).mono Le.x0), ((u16_0__h9.mono (Le.new B13.lt)).mono Le.x0), ((u16_0__h10.mono (Le.new B13.lt)).mono Le.x0), ((u16_0__h11.mono (Le.new B13.lt)).mono Le.x0)⟩ (100 : Int) (10 : Int) (0 : Int) (0 : Int) y18 hy18) ?_
 rintro v19 w19 B19 j19 hu19 ⟨uu19_0, rfl, ⟨u19_0_1, u19_0_2, rfl, u19_0__h0⟩⟩
 refine zz 9 ?_
 refine bndk hp fun y21 hy21 hp => ?_
 refine zc B19 (clearwaylaw24_small_c _ X0 (X0_lt _)  y21 hy21) ?_
 rintro v22 w22 B22 j22 hu22 u22_0_o
 refine ModelDV.op u22_0_o fun u22_0_1 u22_0_2 u22_0_3 u22_0_4 u22_0_5 u22_0_6 u22_0_7 u22_0_8 u22_0_9 u22_0_10 u22_0_11 u22_0_12 u22_0_13 u22_0_14 u22_0_15 u22_0_16 u22_0_17 u22_0_18 u22_0_19 u22_0_20 u22_0_21 u22_0_22 u22_0_23 u22_0_24 hv9 u22_0__h0 u22_0__h1 u22_0__h2 u22_0__h3 u22_0__h4 u22_0__h5 u22_0__h6 u22_0__h7 u22_0__h8 u22_0__h9 u22_0__h10 u22_0__h11 => ?_
 subst hv9
 refine bndk hp fun y24 hy24 hp => ?_
 refine zc B22 (dynamics_Spread_c _ X0 (X0_lt _) y21 _ ⟨_, _, _, _, _, _, _, _, _, _, _, _, _, _, _, _, _, _, _, _, _, _, _, _, rfl, ((u22_0__h0.mono (Le.new B19.lt)).mono Le.x0), ((u22_0__h1.mono (Le.new B19.lt)).mono Le.x0), ((u22_0__h2.mono (Le.new B19.lt)).mono Le.x0), ((u22_0__h3.mono (Le.new B19.lt)).mono Le.x0), ((u22_0__h4.mono (Le.new B19.lt)).mono Le.x0), ((u22_0__h5.mono (Le.new B19.lt)).mono Le.x0), ((u22_0__h6.mono (Le.new B19.lt)).mono Le.x0), ((u22_0__h7.mono (Le.new B19.lt)).mono Le.x0), ((u22_0__h8.mono (Le.new B19.lt)).mono Le.x0), ((u22_0__h9.mono (Le.new B19.lt)).mono Le.x0), ((u22_0__h10.mono (Le.new B19.lt)).mono Le.x0), ((u22_0__h11.mono (Le.new B19.lt)).mono Le.x0)⟩ (0 : Int) (0 : Int) (0 : Int) (1 : Int) y24 hy24) ?_
 rintro v25 w25 B25 j25 hu25 ⟨uu25_0, rfl, ⟨u25_0_1, u25_0_2, rfl, u25_0__h0⟩⟩
 refine zz 9 ?_
 refine bndk hp fun y27 hy27 hp => ?_
 refine zc B25 (clearwaylaw24_small_c _ X0 (X0_lt _)  y27 hy27) ?_
 rintro v28 w28 B28 j28 hu28 u28_0_o
 refine ModelDV.op u28_0_o fun u28_0_1 u28_0_2 u28_0_3 u28_0_4 u28_0_5 u28_0_6 u28_0_7 u28_0_8 u28_0_9 u28_0_10 u28_0_11 u28_0_12 u28_0_13 u28_0_14 u28_0_15 u28_0_16 u28_0_17 u28_0_18 u28_0_19 u28_0_20 u28_0_21 u28_0_22 u28_0_23 u28_0_24 hv9 u28_0__h0 u28_0__h1 u28_0__h2 u28_0__h3 u28_0__h4 u28_0__h5 u28_0__h6 u28_0__h7 u28_0__h8 u28_0__h9 u28_0__h10 u28_0__h11 => ?_
 subst hv9
 refine bndk hp fun y30 hy30 hp => ?_
 refine zc B28 (dynamics_Terminal_c _ X0 (X0_lt _) y27 _ ⟨_, _, _, _, _, _, _, _, _, _, _, _, _, _, _, _, _, _, _, _, _, _, _, _, rfl, ((u28_0__h0.mono (Le.new B25.lt)).mono Le.x0), ((u28_0__h1.mono (Le.new B25.lt)).mono Le.x0), ((u28_0__h2.mono (Le.new B25.lt)).mono Le.x0), ((u28_0__h3.mono (Le.new B25.lt)).mono Le.x0), ((u28_0__h4.mono (Le.new B25.lt)).mono Le.x0), ((u28_0__h5.mono (Le.new B25.lt)).mono Le.x0), ((u28_0__h6.mono (Le.new B25.lt)).mono Le.x0), ((u28_0__h7.mono (Le.new B25.lt)).mono Le.x0), ((u28_0__h8.mono (Le.new B25.lt)).mono Le.x0), ((u28_0__h9.mono (Le.new B25.lt)).mono Le.x0), ((u28_0__h10.mono (Le.new B25.lt)).mono Le.x0), ((u28_0__h11.mono (Le.new B25.lt)).mono Le.x0)⟩ y30 hy30) ?_
 rintro v31 w31 B31 j31 hu31 ⟨uu31_0, rfl, ⟨u31_0_1, u31_0_2, rfl, u31_0__h0⟩⟩
 refine zz 9 ?_
 refine bndk hp fun y33 hy33 hp => ?_
 refine zc B31 (clearwaylaw24_small_c _ X0 (X0_lt _)  y33 hy33) ?_
 rintro v34 w34 B34 j34 hu34 u34_0_o
 refine ModelDV.op u34_0_o fun u34_0_1 u34_0_2 u34_0_3 u34_0_4 u34_0_5 u34_0_6 u34_0_7 u34_0_8 u34_0_9 u34_0_10 u34_0_11 u34_0_12 u34_0_13 u34_0_14 u34_0_15 u34_0_16 u34_0_17 u34_0_18 u34_0_19 u34_0_20 u34_0_21 u34_0_22 u34_0_23 u34_0_24 hv9 u34_0__h0 u34_0__h1 u34_0__h2 u34_0__h3 u34_0__h4 u34_0__h5 u34_0__h6 u34_0__h7 u34_0__h8 u34_0__h9 u34_0__h10 u34_0__h11 => ?_
 subst hv9
 refine bndk hp fun y36 hy36 hp => ?_
 refine zc B34 (dynamics_Cost_c _ X0 (X0_lt _) y33 _ ⟨_, _, _, _, _, _, _, _, _, _, _, _, _, _, _, _, _, _, _, _, _, _, _, _, rfl, ((u34_0__h0.mono (Le.new B31.lt)).mono Le.x0), ((u34_0__h1.mono (Le.new B31.lt)).mono Le.x0), ((u34_0__h2.mono (Le.new B31.lt)).mono Le.x0), ((u34_0__h3.mono (Le.new B31.lt)).mono Le.x0), ((u34_0__h4.mono (Le.new B31.lt)).mono Le.x0), ((u34_0__h5.mono (Le.new B31.lt)).mono Le.x0), ((u34_0__h6.mono (Le.new B31.lt)).mono Le.x0), ((u34_0__h7.mono (Le.new B31.lt)).mono Le.x0), ((u34_0__h8.mono (Le.new B31.lt)).mono Le.x0), ((u34_0__h9.mono (Le.new B31.lt)).mono Le.x0), ((u34_0__h10.mono (Le.new B31.lt)).mono Le.x0), ((u34_0__h11.mono (Le.new B31.lt)).mono Le.x0)⟩ (0 : Int) (1 : Int) y36 hy36) ?_
 rintro v37 w37 B37 j37 hu37 ⟨uu37_0, rfl, ⟨u37_0_1, u37_0_2, u37_0_3, u37_0_4, u37_0_5, u37_0_6, rfl, u37_0__h0, u37_0__h1⟩⟩
 have hob := u37_0__h0.hlen
 subst hob
 have hob := u37_0__h1.hlen
 subst hob
 refine zz 3 ?_
 refine zn pn (.cells #[.bool false, .slice none 0 0, .slice none 0 0] 28 (0, 0)) B37 ?_
 intro b39 w39 Y39 B39 j39 hu39
 refine zx 0 #[.bool y36.1.neg, .slice u37_0_1 y36.1.ln.length u37_0_3, .slice u37_0_4 y36.1.ld.length u37_0_6] B39 ?_
 intro w40 B40 j40
 refine zz 5 ?_
 refine bndk hp fun y42 hy42 hp => ?_
 refine zc B40 (clearwaylaw24_small_c _ X0 (X0_lt _)  y42 hy42) ?_
 rintro v43 w43 B43 j43 hu43 u43_0_o
 refine ModelDV.op u43_0_o fun u43_0_1 u43_0_2 u43_0_3 u43_0_4 u43_0_5 u43_0_6 u43_0_7 u43_0_8 u43_0_9 u43_0_10 u43_0_11 u43_0_12 u43_0_13 u43_0_14 u43_0_15 u43_0_16 u43_0_17 u43_0_18 u43_0_19 u43_0_20 u43_0_21 u43_0_22 u43_0_23 u43_0_24 hv9 u43_0__h0 u43_0__h1 u43_0__h2 u43_0__h3 u43_0__h4 u43_0__h5 u43_0__h6 u43_0__h7 u43_0__h8 u43_0__h9 u43_0__h10 u43_0__h11 => ?_
 subst hv9
 refine bndk hp fun y45 hy45 hp => ?_
 refine zc B43 (dynamics_Cost_c _ X0 (X0_lt _) y42 _ ⟨_, _, _, _, _, _, _, _, _, _, _, _, _, _, _, _, _, _, _, _, _, _, _, _, rfl, ((u43_0__h0.mono (Le.new B40.lt)).mono Le.x0), ((u43_0__h1.mono (Le.new B40.lt)).mono Le.x0), ((u43_0__h2.mono (Le.new B40.lt)).mono Le.x0), ((u43_0__h3.mono (Le.new B40.lt)).mono Le.x0), ((u43_0__h4.mono (Le.new B40.lt)).mono Le.x0), ((u43_0__h5.mono (Le.new B40.lt)).mono Le.x0), ((u43_0__h6.mono (Le.new B40.lt)).mono Le.x0), ((u43_0__h7.mono (Le.new B40.lt)).mono Le.x0), ((u43_0__h8.mono (Le.new B40.lt)).mono Le.x0), ((u43_0__h9.mono (Le.new B40.lt)).mono Le.x0), ((u43_0__h10.mono (Le.new B40.lt)).mono Le.x0), ((u43_0__h11.mono (Le.new B40.lt)).mono Le.x0)⟩ (1 : Int) (1 : Int) y45 hy45) ?_
 rintro v46 w46 B46 j46 hu46 ⟨uu46_0, rfl, ⟨u46_0_1, u46_0_2, u46_0_3, u46_0_4, u46_0_5, u46_0_6, rfl, u46_0__h0, u46_0__h1⟩⟩
 have hob := u46_0__h0.hlen
 subst hob
 have hob := u46_0__h1.hlen
 subst hob
 refine zz 3 ?_
 refine zn pn (.cells #[.bool false, .slice none 0 0, .slice none 0 0] 28 (0, 0)) B46 ?_
 intro b48 w48 Y48 B48 j48 hu48
 refine zx 0 #[.bool y45.1.neg, .slice u46_0_1 y45.1.ln.length u46_0_3, .slice u46_0_4 y45.1.ld.length u46_0_6] B48 ?_
 intro w49 B49 j49
 refine zz 9 ?_
 refine zb 53 (b := ((y6.1) != 12)) (fun hc50 => ?_) (fun hc50 => ?_)
 ·
  have hp := ipb hc50 hp
  refine zz 46 ?_
  refine zr' (v := .bool false) ?_
  have hob := Option.some.inj hp
  subst hob
  exact ⟨B49.upd, _, rfl, rfl⟩
 have hp := iqb hc50 hp
 refine zz 4 ?_
 refine zb 57 (b := ((y6.2) != 0)) (fun hc51 => ?_) (fun hc51 => ?_)
 ·
  have hp := ipb hc51 hp
  refine zz 42 ?_
  refine zr' (v := .bool false) ?_
  have hob := Option.some.inj hp
  subst hob
  exact ⟨B49.upd, _, rfl, rfl⟩
 have hp := iqb hc51 hp
 refine zz 4 ?_
 refine zb 61 (b := ((y12.1) != 5)) (fun hc52 => ?_) (fun hc52 => ?_)
 ·
  have hp := ipb hc52 hp
  refine zz 38 ?_
  refine zr' (v := .bool false) ?_
  have hob := Option.some.inj hp
  subst hob
  exact ⟨B49.upd, _, rfl, rfl⟩
 have hp := iqb hc52 hp
 refine zz 4 ?_
 refine zb 65 (b := ((y12.2) != 0)) (fun hc53 => ?_) (fun hc53 => ?_)
 ·
  have hp := ipb hc53 hp
  refine zz 34 ?_
  refine zr' (v := .bool false) ?_
  have hob := Option.some.inj hp
  subst hob
  exact ⟨B49.upd, _, rfl, rfl⟩
 have hp := iqb hc53 hp
 refine zz 4 ?_
 refine zb 69 (b := ((y18.2) != 0)) (fun hc54 => ?_) (fun hc54 => ?_)
 ·
  have hp := ipb hc54 hp
  refine zz 30 ?_
  refine zr' (v := .bool false) ?_
  have hob := Option.some.inj hp
  subst hob
  exact ⟨B49.upd, _, rfl, rfl⟩
 have hp := iqb hc54 hp
 refine zz 4 ?_
 refine zb 73 (b := ((y24.2) != 0)) (fun hc55 => ?_) (fun hc55 => ?_)
 ·
  have hp := ipb hc55 hp
  refine zz 26 ?_
  refine zr' (v := .bool false) ?_
  have hob := Option.some.inj hp
  subst hob
  exact ⟨B49.upd, _, rfl, rfl⟩
 have hp := iqb hc55 hp
 refine zz 4 ?_
 refine zb 77 (b := ((y30.2) != 0)) (fun hc56 => ?_) (fun hc56 => ?_)
 ·
  have hp := ipb hc56 hp
  refine zz 22 ?_
  refine zr' (v := .bool false) ?_
  have hob := Option.some.inj hp
  subst hob
  exact ⟨B49.upd, _, rfl, rfl⟩
 have hp := iqb hc56 hp
 refine zz 4 ?_
 refine zb 81 (b := ((y36.2) != 0)) (fun hc57 => ?_) (fun hc57 => ?_)
 ·
  have hp := ipb hc57 hp
  refine zz 18 ?_
  refine zr' (v := .bool false) ?_
  have hob := Option.some.inj hp
  subst hob
  exact ⟨B49.upd, _, rfl, rfl⟩
 have hp := iqb hc57 hp
 refine zz 4 ?_
 refine zb 85 (b := ((y45.2) != 0)) (fun hc58 => ?_) (fun hc58 => ?_)
 ·
  have hp := ipb hc58 hp
  refine zz 14 ?_
  refine zr' (v := .bool false) ?_
  have hob := Option.some.inj hp
  subst hob
  exact ⟨B49.upd, _, rfl, rfl⟩
 have hp := iqb hc58 hp
 refine zz 6 ?_
 refine zb 89 (b := ((y30.1.length : Int) != 12)) (fun hc59 => ?_) (fun hc59 => ?_)
 ·
  have hp := ipb hc59 hp
  refine zz 8 ?_
  refine zr' (v := .bool false) ?_
  have hob := Option.some.inj hp
  subst hob
  exact ⟨B49.upd, _, rfl, rfl⟩
 have hp := iqb hc59 hp
 refine zz 3 ?_
 have hob := ltd0 hp
 obtain ⟨J60, hJ60, hp⟩ := hob
 refine zjoin (fun (_ : Unit) => [(5, .slice u19_0_1 y18.1.length u19_0_2), (7, .slice u25_0_1 y24.1.length u25_0_2), (11, .pointer (some ⟨b39, 0, none⟩)), (13, .pointer (some ⟨b48, 0, none⟩))]) (fun (_ : Unit) w1 => ∃ Y1 : Hid, St E0 w X w1 Y1 [(b48, .cells #[.bool y45.1.neg, .slice u46_0_1 y45.1.ln.length u46_0_3, .slice u46_0_4 y45.1.ld.length u46_0_6] 28 (0, 0)), (b39, .cells #[.bool y36.1.neg, .slice u37_0_1 y36.1.ln.length u37_0_3, .slice u37_0_4 y36.1.ld.length u37_0_6] 28 (0, 0))] ∧ Le (rd w49 Y48) (rd w1 Y1) ∧ J60 = some y) ?_ ?_
 ·
  rintro _ w60 ⟨Y60, B60, j60, hp⟩
  have hp := hJ60.symm.trans hp
  refine zz 1 ?_
  refine zdr B60 ?_
  refine gz [0] ?_
  refine bndk hp fun y62 hy62 hp => ?_
  refine gC 1 (fun w61 Y61 _ B61 j61 => (clearwaylaw24_of_c _ X0 (X0_lt _) (1 : Int) (10 : Int) y62 hy62)) ?_
  rintro v63 w61 Y63 w63 B61 j63 ⟨u63_0_1, u63_0_2, u63_0_3, u63_0_4, u63_0_5, u63_0_6, rfl, u63_0__h0, u63_0__h1⟩
  have hob := u63_0__h0.hlen
  subst hob
  have hob := u63_0__h1.hlen
  subst hob
  refine gz [2] ?_
  refine bndk hp fun y65 hy65 hp => ?_
  refine gC 3 (fun w64 Y64 _ B64 j64 => (clearwaylaw24_of_c _ X0 (X0_lt _) (9 : Int) (10 : Int) y65 hy65)) ?_
  rintro v66 w64 Y66 w66 B64 j66 ⟨u66_0_1, u66_0_2, u66_0_3, u66_0_4, u66_0_5, u66_0_6, rfl, u66_0__h0, u66_0__h1⟩
  have hob := u66_0__h0.hlen
  subst hob
  have hob := u66_0__h1.hlen
  subst hob
  refine gz [4] ?_
  refine gp1 (al 5 127 (fun b => .slice (some ⟨b, 0, none⟩) 2 2) (.cells #[.int .i64 6, .bool y62.neg, .slice u63_0_1 y62.ln.length u63_0_3, .slice u63_0_4 y62.ld.length u63_0_6, .int .i64 10, .bool y65.neg, .slice u66_0_1 y65.ln.length u66_0_3, .slice u66_0_4 y65.ld.length u66_0_6] 41 (0, 0))) (fun b67 => ?_)
  have hc1_ := (Le14 j22 j25 j28 j31 j34 j37 j39 j40 j43 j46 j48 j49 j60 j63).trans j66
  refine bndk hp fun y69 hy69 hp => ?_
  refine gC 6 (vs := #[.slice u19_0_1 y18.1.length u19_0_2, .slice (some ⟨b67, 0, none⟩) 2 2]) (fun w68 Y68 _ B68 j68 => (clearwaykit_EqualOutcomes_c _ X0 (X0_lt _) y18.1 _ ⟨_, _, rfl, (((u19_0__h0.mono (Le.new B16.lt)).mono (hc1_.trans j68)).mono Le.x0)⟩ ([(Out.mk 6 y62), (Out.mk 10 y65)]) _ ⟨_, _, rfl, (SlR.lit (El := OutAt) (size := 4) (n := 2) [⟨(Out.mk 6 y62), [.int .i64 6, .bool y62.neg, .slice u63_0_1 y62.ln.length u63_0_3, .slice u63_0_4 y62.ld.length u63_0_6]⟩, ⟨(Out.mk 10 y65), [.int .i64 10, .bool y65.neg, .slice u66_0_1 y65.ln.length u66_0_3, .slice u66_0_4 y65.ld.length u66_0_6]⟩] (B68.at0 0 rfl rfl) (List.forall_mem_cons.2 ⟨⟨rfl, fun r2 h2 b o h9 => ⟨_, _, _, _, _, _, h9, ((((u63_0__h0.mono (Le.new B61.lt)).mono (Le2 j66 j68)).mono Le.x0).mono h2), ((((u63_0__h1.mono (Le.new B61.lt)).mono (Le2 j66 j68)).mono Le.x0).mono h2)⟩⟩, (List.forall_mem_cons.2 ⟨⟨rfl, fun r2 h2 b o h9 => ⟨_, _, _, _, _, _, h9, ((((u66_0__h0.mono (Le.new B64.lt)).mono j68).mono Le.x0).mono h2), ((((u66_0__h1.mono (Le.new B64.lt)).mono j68).mono Le.x0).mono h2)⟩⟩, (List.forall_mem_nil _)⟩)⟩) rfl (by decide))⟩ y69 hy69)) ?_
  rintro v70 w68 Y70 w70 B68 j70 rfl
  refine gz [7] ?_
  refine gb 129 (b := y69) (fun hc71 => ?_) (fun hc71 => ?_)
  ·
   have hp := ipb hc71 hp
   refine gz [8] ?_
   refine bndk hp fun y73 hy73 hp => ?_
   refine gC 9 (fun w72 Y72 _ B72 j72 => (clearwaylaw24_of_c _ X0 (X0_lt _) (1 : Int) (2 : Int) y73 hy73)) ?_
   rintro v74 w72 Y74 w74 B72 j74 ⟨u74_0_1, u74_0_2, u74_0_3, u74_0_4, u74_0_5, u74_0_6, rfl, u74_0__h0, u74_0__h1⟩
   have hob := u74_0__h0.hlen
   subst hob
   have hob := u74_0__h1.hlen
   subst hob
   refine gz [10] ?_
   refine bndk hp fun y76 hy76 hp => ?_
   refine gC 11 (fun w75 Y75 _ B75 j75 => (clearwaylaw24_of_c _ X0 (X0_lt _) (1 : Int) (2 : Int) y76 hy76)) ?_
   rintro v77 w75 Y77 w77 B75 j77 ⟨u77_0_1, u77_0_2, u77_0_3, u77_0_4, u77_0_5, u77_0_6, rfl, u77_0__h0, u77_0__h1⟩
   have hob := u77_0__h0.hlen
   subst hob
   have hob := u77_0__h1.hlen
   subst hob
   refine gz [12] ?_
   refine gp1 (al 13 135 (fun b => .slice (some ⟨b, 0, none⟩) 2 2) (.cells #[.int .i64 5, .bool y73.neg, .slice u74_0_1 y73.ln.length u74_0_3, .slice u74_0_4 y73.ld.length u74_0_6, .int .i64 7, .bool y76.neg, .slice u77_0_1 y76.ln.length u77_0_3, .slice u77_0_4 y76.ld.length u77_0_6] 41 (0, 0))) (fun b78 => ?_)
   have hc2_ := (Le15 j28 j31 j34 j37 j39 j40 j43 j46 j48 j49 j60 j63 j66 j70 j74).trans j77
   refine bndk hp fun y80 hy80 hp => ?_
   refine gC 14 (vs := #[.slice u25_0_1 y24.1.length u25_0_2, .slice (some ⟨b78, 0, none⟩) 2 2]) (fun w79 Y79 _ B79 j79 => (clearwaykit_EqualOutcomes_c _ X0 (X0_lt _) y24.1 _ ⟨_, _, rfl, (((u25_0__h0.mono (Le.new B22.lt)).mono (hc2_.trans j79)).mono Le.x0)⟩ ([(Out.mk 5 y73), (Out.mk 7 y76)]) _ ⟨_, _, rfl, (SlR.lit (El := OutAt) (size := 4) (n := 2) [⟨(Out.mk 5 y73), [.int .i64 5, .bool y73.neg, .slice u74_0_1 y73.ln.length u74_0_3, .slice u74_0_4 y73.ld.length u74_0_6]⟩, ⟨(Out.mk 7 y76), [.int .i64 7, .bool y76.neg, .slice u77_0_1 y76.ln.length u77_0_3, .slice u77_0_4 y76.ld.length u77_0_6]⟩] (B79.at0 0 rfl rfl) (List.forall_mem_cons.2 ⟨⟨rfl, fun r2 h2 b o h9 => ⟨_, _, _, _, _, _, h9, ((((u74_0__h0.mono (Le.new B72.lt)).mono (Le2 j77 j79)).mono Le.x0).mono h2), ((((u74_0__h1.mono (Le.new B72.lt)).mono (Le2 j77 j79)).mono Le.x0).mono h2)⟩⟩, (List.forall_mem_cons.2 ⟨⟨rfl, fun r2 h2 b o h9 => ⟨_, _, _, _, _, _, h9, ((((u77_0__h0.mono (Le.new B75.lt)).mono j79).mono Le.x0).mono h2), ((((u77_0__h1.mono (Le.new B75.lt)).mono j79).mono Le.x0).mono h2)⟩⟩, (List.forall_mem_nil _)⟩)⟩) rfl (by decide))⟩ y80 hy80)) ?_
   rintro v81 w79 Y81 w81 B79 j81 rfl
   refine gz [15, 16] ?_
   refine gb 138 (b := y80) (fun hc82 => ?_) (fun hc82 => ?_)
   ·
    have hp := ipb hc82 hp
    refine gw 17 1 ?_
    refine bndk hp fun y84 hy84 hp => ?_
    refine gC 18 (fun w83 Y83 _ B83 j83 => (clearwaylaw24_of_c _ X0 (X0_lt _) (1 : Int) (10 : Int) y84 hy84)) ?_
    rintro v85 w83 Y85 w85 B83 j85 ⟨u85_0_1, u85_0_2, u85_0_3, u85_0_4, u85_0_5, u85_0_6, rfl, u85_0__h0, u85_0__h1⟩
    have hob := u85_0__h0.hlen
    subst hob
    have hob := u85_0__h1.hlen
    subst hob
    have hc3_ := (Le13 j39 j40 j43 j46 j48 j49 j60 j63 j66 j70 j74 j77 j81).trans j85
    refine bndk hp fun y87 hy87 hp => ?_
    refine gC 19 (fun w86 Y86 _ B86 j86 => (clearwaykit_EqualRat_c _ X0 (X0_lt _) y36.1 _ ⟨_, _, _, _, _, _, rfl, (((u37_0__h0.mono (Le.new B34.lt)).mono (hc3_.trans j86)).mono Le.x0), (((u37_0__h1.mono (Le.new B34.lt)).mono (hc3_.trans j86)).mono Le.x0)⟩ y84 _ ⟨_, _, _, _, _, _, rfl, (((u85_0__h0.mono (Le.new B83.lt)).mono j86).mono Le.x0), (((u85_0__h1.mono (Le.new B83.lt)).mono j86).mono Le.x0)⟩ y87 hy87)) ?_
    rintro v88 w86 Y88 w88 B86 j88 rfl
    refine gz [20, 21] ?_
    refine gb 143 (b := y87) (fun hc89 => ?_) (fun hc89 => ?_)
    ·
     have hp := ipb hc89 hp
     refine gw 22 0 ?_
     refine bndk hp fun y91 hy91 hp => ?_
     refine gC 23 (fun w90 Y90 _ B90 j90 => (clearwaylaw24_of_c _ X0 (X0_lt _) (1 : Int) (10 : Int) y91 hy91)) ?_
     rintro v92 w90 Y92 w92 B90 j92 ⟨u92_0_1, u92_0_2, u92_0_3, u92_0_4, u92_0_5, u92_0_6, rfl, u92_0__h0, u92_0__h1⟩
     have hob := u92_0__h0.hlen
     subst hob
     have hob := u92_0__h1.hlen
     subst hob
     have hc4_ := (Le11 j48 j49 j60 j63 j66 j70 j74 j77 j81 j85 j88).trans j92
     refine bndk hp fun y94 hy94 hp => ?_
     refine gC 24 (fun w93 Y93 _ B93 j93 => (clearwaykit_EqualRat_c _ X0 (X0_lt _) y45.1 _ ⟨_, _, _, _, _, _, rfl, (((u46_0__h0.mono (Le.new B43.lt)).mono (hc4_.trans j93)).mono Le.x0), (((u46_0__h1.mono (Le.new B43.lt)).mono (hc4_.trans j93)).mono Le.x0)⟩ y91 _ ⟨_, _, _, _, _, _, rfl, (((u92_0__h0.mono (Le.new B90.lt)).mono j93).mono Le.x0), (((u92_0__h1.mono (Le.new B90.lt)).mono j93).mono Le.x0)⟩ y94 hy94)) ?_
     rintro v95 w93 Y95 w95 B93 j95 rfl
     refine gz [25, 26] ?_
     refine gend (fun w96 Y96 B96 j96 => ?_)
     refine zz 2 ?_
     refine zr' (v := .bool y94) ?_
     have hob := Option.some.inj hp
     subst hob
     exact ⟨B96.upd, _, rfl, rfl⟩
    have hp := iqb hc89 hp
    refine gz [22, 23, 24, 25, 26] ?_
    refine gend (fun w97 Y97 B97 j97 => ?_)
    refine zz 2 ?_
    refine zr' (v := .bool false) ?_
    have hob := Option.some.inj hp
    subst hob
    exact ⟨B97.upd, _, rfl, rfl⟩
   have hp := iqb hc82 hp
   refine gz [17, 18, 19, 20, 21, 22, 23, 24, 25, 26] ?_
   refine gend (fun w98 Y98 B98 j98 => ?_)
   refine zz 2 ?_
   refine zr' (v := .bool false) ?_
   have hob := Option.some.inj hp
   subst hob
   exact ⟨B98.upd, _, rfl, rfl⟩
  have hp := iqb hc71 hp
  refine gz [8, 9, 10, 11, 12, 13, 14, 15, 16, 17, 18, 19, 20, 21, 22, 23, 24, 25, 26] ?_
  refine gend (fun w99 Y99 B99 j99 => ?_)
  refine zz 2 ?_
  refine zr' (v := .bool false) ?_
  have hob := Option.some.inj hp
  subst hob
  exact ⟨B99.upd, _, rfl, rfl⟩
 intro K100 G100
 refine zz 6 ?_
 refine zlp Tryz.f10 [K100] [1, 1, 1, 1, 1, 1, 1, 1, 1, 9, 1, 0] (fun (k101 : Nat) => [(5, .slice u19_0_1 y18.1.length u19_0_2), (7, .slice u25_0_1 y24.1.length u25_0_2), (9, .slice u31_0_1 y30.1.length u31_0_2), (11, .pointer (some ⟨b39, 0, none⟩)), (13, .pointer (some ⟨b48, 0, none⟩)), (15, .int .i64 (k101 : Int))]) (fun (k101 : Nat) w1 => ∃ Y1 : Hid, St E0 w X w1 Y1 [(b48, .cells #[.bool y45.1.neg, .slice u46_0_1 y45.1.ln.length u46_0_3, .slice u46_0_4 y45.1.ld.length u46_0_6] 28 (0, 0)), (b39, .cells #[.bool y36.1.neg, .slice u37_0_1 y36.1.ln.length u37_0_3, .slice u37_0_4 y36.1.ld.length u37_0_6] 28 (0, 0))] ∧ Le (rd w49 Y48) (rd w1 Y1) ∧ clearwaylaw24_awake_l101 y30 J60 ((12 : Int).toNat - k101) k101 = some y) (fun (k101 : Nat) => (12 : Int).toNat - k101) 0 ?_ ?_
 ·
  exact ⟨_, B49, Le.refl _, hp⟩
 rintro k101 w101 K101 G101 ⟨Y101, B101, j101, hp⟩
 refine zz 7 ?_
 refine zt 91 (p := (k101 : Int) < 12) (fun ht102 => ?_) (fun ht102 => ?_)
 ·
  have hob := cnt_ltI (N := (12 : Int)) (k := k101) ht102
  obtain ⟨r101, hm101, hn101⟩ := hob
  rw [hm101, clearwaylaw24_awake_l101] at hp
  refine zz 6 ?_
  refine zdr B101 ?_
  refine gz [0, 1, 2] ?_
  refine gt 96 (p := (k101 : Int) ≥ 4) (fun ht103 => ?_) (fun ht103 => ?_)
  ·
   have hp := ip ht103 hp
   refine bndk hp fun x104 hx104 hp => ?_
   have hob := ix_some hx104
   obtain ⟨hzx104, hqx104⟩ := hob
   have hwx104 : y30.1[k101]? = some x104 := hqx104
   have hob := (u31_0__h0.mono (Le.new B28.lt)).sl.opn hwx104
   obtain ⟨be105, oe105, rfl, j105, hEe105⟩ := hob
   obtain ⟨e1051, e1052, e1053, e1054, e1055, e1056, e105_at, e105_h0, e105_h1⟩ := hEe105
   have hob := e105_h0.hlen
   subst hob
   have hob := e105_h1.hlen
   subst hob
   refine gz [3, 4, 5, 6, 7] ?_
   refine gi 8 (b := be105) (off := oe105) (len := y30.1.length) (cap := u31_0_2) (kd := .i64) (i := (k101 : Int)) 3 (oe105 + k101 * 3) ?_ (h0 := hzx104) (h1 := (ix_b hzx104 j105))
   have hc5_ := (Le8 j34 j37 j39 j40 j43 j46 j48 j49).trans j101
   refine gl 9 ((e105_at.mono hc5_)) ?_
   refine bndk hp fun y107 hy107 hp => ?_
   refine gC 10 (fun w106 Y106 _ B106 j106 => (rat_From_c _ X0 (X0_lt _) (1 : Int) y107 hy107)) ?_
   rintro v108 w106 Y108 w108 B106 j108 ⟨u108_0_1, u108_0_2, u108_0_3, u108_0_4, u108_0_5, u108_0_6, rfl, u108_0__h0, u108_0__h1⟩
   have hob := u108_0__h0.hlen
   subst hob
   have hob := u108_0__h1.hlen
   subst hob
   have hc6_ := (Le9 j34 j37 j39 j40 j43 j46 j48 j49 j101).trans j108
   refine bndk hp fun y110 hy110 hp => ?_
   refine gC 11 (fun w109 Y109 _ B109 j109 => (clearwaykit_EqualRat_c _ X0 (X0_lt _) x104 _ ⟨_, _, _, _, _, _, rfl, ((e105_h0.mono (hc6_.trans j109)).mono Le.x0), ((e105_h1.mono (hc6_.trans j109)).mono Le.x0)⟩ y107 _ ⟨_, _, _, _, _, _, rfl, (((u108_0__h0.mono (Le.new B106.lt)).mono j109).mono Le.x0), (((u108_0__h1.mono (Le.new B106.lt)).mono j109).mono Le.x0)⟩ y110 hy110)) ?_
   rintro v111 w109 Y111 w111 B109 j111 rfl
   refine gz [12, 13] ?_
   refine gb 107 (b := !((decide ((k101 : Int) ≤ 7)) == y110)) (fun hc112 => ?_) (fun hc112 => ?_)
   ·
    have hp := ipb hc112 hp
    refine gz [14, 15, 16, 17, 18, 19, 20, 21, 22, 23, 24, 25, 26, 27] ?_
    refine gend (fun w113 Y113 B113 j113 => ?_)
    refine zz 13 ?_
    refine zr' (v := .bool false) ?_
    have hob := Option.some.inj hp
    subst hob
    exact ⟨B113.upd, _, rfl, rfl⟩
   have hp := iqb hc112 hp
   refine gz [14, 15, 16] ?_
   refine gt 110 (p := (k101 : Int) < 4) (fun ht114 => ?_) (fun ht114 => ?_)
   ·
    have hp := ip ht114 hp
    refine gz [17, 18, 19, 20, 21] ?_
    refine gi 22 (b := be105) (off := oe105) (len := y30.1.length) (cap := u31_0_2) (kd := .i64) (i := (k101 : Int)) 3 (oe105 + k101 * 3) ?_ (h0 := hzx104) (h1 := (ix_b hzx104 j105))
    have hc7_ := (Le8 j34 j37 j39 j40 j43 j46 j48 j49).trans j101
    refine gl 23 ((e105_at.mono hc7_)) ?_
    refine gz [24] ?_
    have hc8_ := hc6_.trans j111
    refine bndk hp fun y116 hy116 hp => ?_
    refine gC 25 (vs := #[.agg #[.bool x104.neg, .slice e1051 x104.ln.length e1053, .slice e1054 x104.ld.length e1056], .agg #[.bool false, .slice none 0 0, .slice none 0 0]]) (fun w115 Y115 _ B115 j115 => (clearwaykit_EqualRat_c _ X0 (X0_lt _) x104 _ ⟨_, _, _, _, _, _, rfl, ((e105_h0.mono (hc8_.trans j115)).mono Le.x0), ((e105_h1.mono (hc8_.trans j115)).mono Le.x0)⟩ Raw.zero _ ⟨_, _, _, _, _, _, rfl, Limbs.nil0, Limbs.nil0⟩ y116 hy116)) ?_
    rintro v117 w115 Y117 w117 B115 j117 rfl
    refine gz [26, 27] ?_
    refine gend (fun w118 Y118 B118 j118 => ?_)
    refine zz 1 ?_
    refine zb 121 (b := !(true == y116)) (fun hc119 => ?_) (fun hc119 => ?_)
    ·
     have hp := ipb hc119 hp
     refine zz 12 ?_
     refine zr' (v := .bool false) ?_
     have hob := Option.some.inj hp
     subst hob
     exact ⟨B118.upd, _, rfl, rfl⟩
    have hp := iqb hc119 hp
    refine zz 7 ?_
    refine zs 93 (v := .int .i64 (IntKind.i64.wrap ((k101 : Int) + 1))) (v' := .int .i64 ((k101 : Int) + 1)) (vint (wi64 (wk0 k101) (wk1 ht102 (by decide)))) ?_
    refine zz 2 ?_
    have hc9_ := (Le4 j101 j108 j111 j117).trans j118
    refine znext (fun a h => G101 (k101 + 1) _ a h ⟨_, B118, hc9_, (by rw [hn101]; exact hp)⟩ ?_)
    exact mu_ltN ht102
   have hp := iq ht114 hp
   refine gz [17, 18, 19, 20, 21] ?_
   refine gi 22 (b := be105) (off := oe105) (len := y30.1.length) (cap := u31_0_2) (kd := .i64) (i := (k101 : Int)) 3 (oe105 + k101 * 3) ?_ (h0 := hzx104) (h1 := (ix_b hzx104 j105))
   have hc10_ := (Le8 j34 j37 j39 j40 j43 j46 j48 j49).trans j101
   refine gl 23 ((e105_at.mono hc10_)) ?_
   refine gz [24] ?_
   have hc11_ := hc6_.trans j111
   refine bndk hp fun y121 hy121 hp => ?_
   refine gC 25 (vs := #[.agg #[.bool x104.neg, .slice e1051 x104.ln.length e1053, .slice e1054 x104.ld.length e1056], .agg #[.bool false, .slice none 0 0, .slice none 0 0]]) (fun w120 Y120 _ B120 j120 => (clearwaykit_EqualRat_c _ X0 (X0_lt _) x104 _ ⟨_, _, _, _, _, _, rfl, ((e105_h0.mono (hc11_.trans j120)).mono Le.x0), ((e105_h1.mono (hc11_.trans j120)).mono Le.x0)⟩ Raw.zero _ ⟨_, _, _, _, _, _, rfl, Limbs.nil0, Limbs.nil0⟩ y121 hy121)) ?_
   rintro v122 w120 Y122 w122 B120 j122 rfl
   refine gz [26, 27] ?_
   refine gend (fun w123 Y123 B123 j123 => ?_)
   refine zz 1 ?_
   refine zb 121 (b := !((decide ((k101 : Int) > 7)) == y121)) (fun hc124 => ?_) (fun hc124 => ?_)
   ·
    have hp := ipb hc124 hp
    refine zz 12 ?_
    refine zr' (v := .bool false) ?_
    have hob := Option.some.inj hp
    subst hob
    exact ⟨B123.upd, _, rfl, rfl⟩
   have hp := iqb hc124 hp
   refine zz 7 ?_
   refine zs 93 (v := .int .i64 (IntKind.i64.wrap ((k101 : Int) + 1))) (v' := .int .i64 ((k101 : Int) + 1)) (vint (wi64 (wk0 k101) (wk1 ht102 (by decide)))) ?_
   refine zz 2 ?_
   have hc12_ := (Le4 j101 j108 j111 j122).trans j123
   refine znext (fun a h => G101 (k101 + 1) _ a h ⟨_, B123, hc12_, (by rw [hn101]; exact hp)⟩ ?_)
   exact mu_ltN ht102
  have hp := iq ht103 hp
  refine bndk hp fun x125 hx125 hp => ?_
  have hob := ix_some hx125
  obtain ⟨hzx125, hqx125⟩ := hob
  have hwx125 : y30.1[k101]? = some x125 := hqx125
  have hob := (u31_0__h0.mono (Le.new B28.lt)).sl.opn hwx125
  obtain ⟨be126, oe126, rfl, j126, hEe126⟩ := hob
  obtain ⟨e1261, e1262, e1263, e1264, e1265, e1266, e126_at, e126_h0, e126_h1⟩ := hEe126
  have hob := e126_h0.hlen
  subst hob
  have hob := e126_h1.hlen
  subst hob
  refine gz [3, 4, 5, 6, 7] ?_
  refine gi 8 (b := be126) (off := oe126) (len := y30.1.length) (cap := u31_0_2) (kd := .i64) (i := (k101 : Int)) 3 (oe126 + k101 * 3) ?_ (h0 := hzx125) (h1 := (ix_b hzx125 j126))
  have hc13_ := (Le8 j34 j37 j39 j40 j43 j46 j48 j49).trans j101
  refine gl 9 ((e126_at.mono hc13_)) ?_
  refine bndk hp fun y128 hy128 hp => ?_
  refine gC 10 (fun w127 Y127 _ B127 j127 => (rat_From_c _ X0 (X0_lt _) (1 : Int) y128 hy128)) ?_
  rintro v129 w127 Y129 w129 B127 j129 ⟨u129_0_1, u129_0_2, u129_0_3, u129_0_4, u129_0_5, u129_0_6, rfl, u129_0__h0, u129_0__h1⟩
  have hob := u129_0__h0.hlen
  subst hob
  have hob := u129_0__h1.hlen
  subst hob
  have hc14_ := (Le9 j34 j37 j39 j40 j43 j46 j48 j49 j101).trans j129
  refine bndk hp fun y131 hy131 hp => ?_
  refine gC 11 (fun w130 Y130 _ B130 j130 => (clearwaykit_EqualRat_c _ X0 (X0_lt _) x125 _ ⟨_, _, _, _, _, _, rfl, ((e126_h0.mono (hc14_.trans j130)).mono Le.x0), ((e126_h1.mono (hc14_.trans j130)).mono Le.x0)⟩ y128 _ ⟨_, _, _, _, _, _, rfl, (((u129_0__h0.mono (Le.new B127.lt)).mono j130).mono Le.x0), (((u129_0__h1.mono (Le.new B127.lt)).mono j130).mono Le.x0)⟩ y131 hy131)) ?_
  rintro v132 w130 Y132 w132 B130 j132 rfl
  refine gz [12, 13] ?_
  refine gb 107 (b := !(false == y131)) (fun hc133 => ?_) (fun hc133 => ?_)
  ·
   have hp := ipb hc133 hp
   refine gz [14, 15, 16, 17, 18, 19, 20, 21, 22, 23, 24, 25, 26, 27] ?_
   refine gend (fun w134 Y134 B134 j134 => ?_)
   refine zz 13 ?_
   refine zr' (v := .bool false) ?_
   have hob := Option.some.inj hp
   subst hob
   exact ⟨B134.upd, _, rfl, rfl⟩
  have hp := iqb hc133 hp
  refine gz [14, 15, 16] ?_
  refine gt 110 (p := (k101 : Int) < 4) (fun ht135 => ?_) (fun ht135 => ?_)
  ·
   have hp := ip ht135 hp
   refine gz [17, 18, 19, 20, 21] ?_
   refine gi 22 (b := be126) (off := oe126) (len := y30.1.length) (cap := u31_0_2) (kd := .i64) (i := (k101 : Int)) 3 (oe126 + k101 * 3) ?_ (h0 := hzx125) (h1 := (ix_b hzx125 j126))
   have hc15_ := (Le8 j34 j37 j39 j40 j43 j46 j48 j49).trans j101
   refine gl 23 ((e126_at.mono hc15_)) ?_
   refine gz [24] ?_
   have hc16_ := hc14_.trans j132
   refine bndk hp fun y137 hy137 hp => ?_
   refine gC 25 (vs := #[.agg #[.bool x125.neg, .slice e1261 x125.ln.length e1263, .slice e1264 x125.ld.length e1266], .agg #[.bool false, .slice none 0 0, .slice none 0 0]]) (fun w136 Y136 _ B136 j136 => (clearwaykit_EqualRat_c _ X0 (X0_lt _) x125 _ ⟨_, _, _, _, _, _, rfl, ((e126_h0.mono (hc16_.trans j136)).mono Le.x0), ((e126_h1.mono (hc16_.trans j136)).mono Le.x0)⟩ Raw.zero _ ⟨_, _, _, _, _, _, rfl, Limbs.nil0, Limbs.nil0⟩ y137 hy137)) ?_
   rintro v138 w136 Y138 w138 B136 j138 rfl
   refine gz [26, 27] ?_
   refine gend (fun w139 Y139 B139 j139 => ?_)
   refine zz 1 ?_
   refine zb 121 (b := !(true == y137)) (fun hc140 => ?_) (fun hc140 => ?_)
   ·
    have hp := ipb hc140 hp
    refine zz 12 ?_
    refine zr' (v := .bool false) ?_
    have hob := Option.some.inj hp
    subst hob
    exact ⟨B139.upd, _, rfl, rfl⟩
   have hp := iqb hc140 hp
   refine zz 7 ?_
   refine zs 93 (v := .int .i64 (IntKind.i64.wrap ((k101 : Int) + 1))) (v' := .int .i64 ((k101 : Int) + 1)) (vint (wi64 (wk0 k101) (wk1 ht102 (by decide)))) ?_
   refine zz 2 ?_
   have hc17_ := (Le4 j101 j129 j132 j138).trans j139
   refine znext (fun a h => G101 (k101 + 1) _ a h ⟨_, B139, hc17_, (by rw [hn101]; exact hp)⟩ ?_)
   exact mu_ltN ht102
  have hp := iq ht135 hp
  refine gz [17, 18, 19, 20, 21] ?_
  refine gi 22 (b := be126) (off := oe126) (len := y30.1.length) (cap := u31_0_2) (kd := .i64) (i := (k101 : Int)) 3 (oe126 + k101 * 3) ?_ (h0 := hzx125) (h1 := (ix_b hzx125 j126))
  have hc18_ := (Le8 j34 j37 j39 j40 j43 j46 j48 j49).trans j101
  refine gl 23 ((e126_at.mono hc18_)) ?_
  refine gz [24] ?_
  have hc19_ := hc14_.trans j132
  refine bndk hp fun y142 hy142 hp => ?_
  refine gC 25 (vs := #[.agg #[.bool x125.neg, .slice e1261 x125.ln.length e1263, .slice e1264 x125.ld.length e1266], .agg #[.bool false, .slice none 0 0, .slice none 0 0]]) (fun w141 Y141 _ B141 j141 => (clearwaykit_EqualRat_c _ X0 (X0_lt _) x125 _ ⟨_, _, _, _, _, _, rfl, ((e126_h0.mono (hc19_.trans j141)).mono Le.x0), ((e126_h1.mono (hc19_.trans j141)).mono Le.x0)⟩ Raw.zero _ ⟨_, _, _, _, _, _, rfl, Limbs.nil0, Limbs.nil0⟩ y142 hy142)) ?_
  rintro v143 w141 Y143 w143 B141 j143 rfl
  refine gz [26, 27] ?_
  refine gend (fun w144 Y144 B144 j144 => ?_)
  refine zz 1 ?_
  refine zb 121 (b := !((decide ((k101 : Int) > 7)) == y142)) (fun hc145 => ?_) (fun hc145 => ?_)
  ·
   have hp := ipb hc145 hp
   refine zz 12 ?_
   refine zr' (v := .bool false) ?_
   have hob := Option.some.inj hp
   subst hob
   exact ⟨B144.upd, _, rfl, rfl⟩
  have hp := iqb hc145 hp
  refine zz 7 ?_
  refine zs 93 (v := .int .i64 (IntKind.i64.wrap ((k101 : Int) + 1))) (v' := .int .i64 ((k101 : Int) + 1)) (vint (wi64 (wk0 k101) (wk1 ht102 (by decide)))) ?_
  refine zz 2 ?_
  have hc20_ := (Le4 j101 j129 j132 j143).trans j144
  refine znext (fun a h => G101 (k101 + 1) _ a h ⟨_, B144, hc20_, (by rw [hn101]; exact hp)⟩ ?_)
  exact mu_ltN ht102
 rw [cnt_end (N := (12 : Int)) ht102, clearwaylaw24_awake_l101] at hp
 refine zz 5 ?_
 exact znext (fun a h => G100 () _ a h ⟨_, B101, j101, hp⟩)
end Go.Proofs.YtppalofalmieaaaGreat
/- What Check answers, in plain words. By an AI agent. -/
namespace Go.Proofs.YtppalofalmieaaaGreat
open Go Go.Gv Go.RowKit
set_option maxRecDepth 100000
set_option maxHeartbeats 1000000
/-- The first answers; where it answers 0 the second does too. -/
def Z0 (o J : Option Int) : Prop := ∃ e, o = some e ∧ (e = 0 → J = some 0)
theorem Z0.self {J : Option Int} (h : ∃ e, J = some e) : Z0 J J := h.elim fun e he => ⟨e, he, fun h => h ▸ he⟩
theorem Z0.trans {o J K : Option Int} (h : Z0 o J) (k : Z0 J K) : Z0 o K := by
  obtain ⟨e, h1, h2⟩ := h
  obtain ⟨f, k1, k2⟩ := k
  exact ⟨e, h1, fun h => k2 (by have := h2 h; rw [k1] at this; exact Option.some.inj this)⟩
/-! ### The grid -/
/-! ### Numbers and noises -/
/-! ### Check -/
structure Good (x : ModelD) : Prop where
  h1 : 1 ≤ x.height.length
  h2 : x.height.length ≤ 32
  o1 : 1 ≤ x.own.length
  o2 : x.own.length ≤ 32
  t1 : 1 ≤ x.other.length
  t2 : x.other.length ≤ 32
  a1 : 1 ≤ x.advisories.length
  a2 : x.advisories.length ≤ 6
  p1 : 0 ≤ x.pull
  p2 : x.pull ≤ 100
  adv : ∀ y ∈ x.advisories.drop 1, y.lo ≤ y.hi ∧ -100 ≤ y.lo ∧ y.lo ≤ 100 ∧ -100 ≤ y.hi ∧ y.hi ≤ 100
end Go.Proofs.YtppalofalmieaaaGreat
/- A state in a region that draws, said anew. By an AI agent. -/
namespace Go.Gv
open Go.RowKit
attribute [local semireducible] Gt
theorem gN {R R' : Rg} {c c' : Array Bool × List (Nat × Value)} {M : List (Nat × Obj)} {r r' : Rd} (h : Gt R' [] c' M r') (hR : R = R' := by kernel_rfl) (hc : c.1 = c'.1 := by kernel_rfl) (hs : hasAll c.2 (c'.2.map (·.1)) = true := by kernel_rfl) (hl : keep c.2 (c'.2.map (·.1)) = c'.2 := by kernel_rfl) (hr : r = r' := by kernel_rfl) : Gt R [] c M r := by
  subst hR hr
  obtain ⟨b, L⟩ := c
  obtain ⟨b', L'⟩ := c'
  cases hc
  exact fun h1 h2 f e a w Y k1 k2 k3 k4 k5 => h h1 h2 f e a w Y k1 (k2.as _ hs hl) k3 k4 k5
noncomputable abbrev mkG (P : Program) (Q : Exit → Act → World → Prop) (n : Nat) (w : World) (c : Cf) (w0 : World) (X Y : Hid) (M0 : List (Nat × Obj)) : Rg := mkR none 0 P Q n [] w c E0 w0 X Y M0 (tOf (dops c))
end Go.Gv
namespace Go.Proofs.YtppalofalmieaaaGreat
open Go Go.Gv Go.RowKit
set_option maxRecDepth 100000
set_option maxHeartbeats 1000000
noncomputable def clearwaykit_CopyRat_p (p0 : Raw) : Option (Raw) :=
  grd (p0.ln.length * 4 ≤ 140737488351232 ∧ p0.ld.length * 4 ≤ 140737488351232) (some p0)
theorem clearwaykit_CopyRat_c (w : World) (X : Hid) (hX : ∀ k o, X k o → k < w.heap.size) (p0 : Raw) (vp0 : Value) (hp0 : RawV (rd w X) vp0 p0) (y : Raw) (hp : clearwaykit_CopyRat_p p0 = some y) : Calls Tryz.prog 62 #[vp0] w (Ret E0 w fun w' v => RawV (rd w' X) v y) := by
  obtain ⟨a01, a02, a03, a04, a05, a06, rfl, h01, h02⟩ := hp0
  obtain ⟨⟨hm1, hm2⟩, hp⟩ := grdp hp
  obtain rfl := Option.some.inj hp
  obtain rfl := h01.hlen
  obtain rfl := h02.hlen
  exact (CopyRat_c w X hX p0 _ _ _ h01 _ _ _ h02 hm1 hm2).mono (by rintro e w' ⟨hu, v, rfl, h⟩; exact ⟨hu, _, rfl, h⟩)
noncomputable def clearwaykit_CopyInts_l5 (J2 : (List Int) → Option ((List Int))) : List Int → (List Int) → Option ((List Int))
  | [], v5_0 => J2 v5_0
  | x5 :: r5, v5_0 => grd ((v5_0.length + 1) * 8 ≤ 140737488355328) <| clearwaykit_CopyInts_l5 J2 r5 (v5_0 ++ [x5])
noncomputable def clearwaykit_CopyInts_p (p0 : List Int) : Option ((List Int)) :=
  lt (fun (v2_0 : List Int) => some v2_0) fun J2 => clearwaykit_CopyInts_l5 J2 (p0.drop 0)  ([] : List Int)
theorem clearwaykit_CopyInts_c (w : World) (X : Hid) (hX : ∀ k o, X k o → k < w.heap.size) (p0 : List Int) (vp0 : Value) (hp0 : SV Ints (rd w X) vp0 p0) (y : (List Int)) (hp : clearwaykit_CopyInts_p p0 = some y) : Calls Tryz.prog 59 #[vp0] w (Ret E0 w fun w' v => SV Ints (rd w' (old w)) v y) := by
 obtain ⟨p0a1, p0a2, rfl, p0a_h0⟩ := hp0
 unfold clearwaykit_CopyInts_p at hp
 refine zen Tryz.func59 ?_
 have B0 : St E0 w X w X [] := St.start hX
 refine zz 10 ?_
 have hob := ltd1 hp
 obtain ⟨J2, hJ2, hp⟩ := hob
 refine zjoin (fun ((v2_0, rb2_0, ad2_0, m2_0, cap2_0) : (List Int) × (List (Nat × Obj)) × (Option Addr) × Nat × Nat) => [(3, .slice ad2_0 m2_0 cap2_0)]) (fun ((v2_0, rb2_0, ad2_0, m2_0, cap2_0) : (List Int) × (List (Nat × Obj)) × (Option Addr) × Nat × Nat) w1 => ∃ Y1 : Hid, St E0 w X w1 Y1 (rb2_0) ∧ Le (rd w X) (rd w1 Y1) ∧ GRow IntCs 3 1 (rd w1 (orN Y1 w.heap.size)) rb2_0 ad2_0 m2_0 cap2_0 v2_0 ∧ J2 v2_0 = some y) ?_ ?_
 ·
  rintro ⟨v2_0, rb2_0, ad2_0, m2_0, cap2_0⟩ w2 ⟨Y2, B2, j2, hfv2_0_0, hp⟩
  have hp := (hJ2 _).symm.trans hp
  refine zz 7 ?_
  refine zr' (v := .slice ad2_0 m2_0 cap2_0) ?_
  have hob := St.pubGRN (A := []) (B := []) (fun rb => (rb)) B2 (fun _ => by simp only [List.append_assoc, List.cons_append, List.nil_append, List.append_nil]) hfv2_0_0 (Nat.le_refl _) IntCs.at
  obtain ⟨Y3, hSx3, j3, hRx3⟩ := hob
  have B3 : St E0 w X w2 Y3 [] := hSx3
  have hob := hRx3.hlen
  subst hob
  have hR3 : Ints (rd w2 (orN Y3 w.heap.size)) ad2_0 v2_0.length cap2_0 v2_0 := hRx3
  have hob := Option.some.inj hp
  subst hob
  exact ⟨B3.upd, _, rfl, ⟨_, _, rfl, ((hR3.mono (Le.or (Le.refl _) _))).mono Le.orr⟩⟩
 intro K4 G4
 refine zz 6 ?_
 have hb5 : (p0.length : Int) ≤ 9223372036854775807 := lenb (p0a_h0).hcap (p0a_h0).hbig
 refine zlp Tryz.f59 [K4] [1, 1, 9, 1, 0] (fun ((v5_0, k5, rb5_0, ad5_0, m5_0, cap5_0) : (List Int) × Nat × (List (Nat × Obj)) × (Option Addr) × Nat × Nat) => [(0, .slice p0a1 p0.length p0a2), (3, .slice ad5_0 m5_0 cap5_0), (4, .int .i64 (k5 : Int))]) (fun ((v5_0, k5, rb5_0, ad5_0, m5_0, cap5_0) : (List Int) × Nat × (List (Nat × Obj)) × (Option Addr) × Nat × Nat) w1 => ∃ Y1 : Hid, St E0 w X w1 Y1 (rb5_0) ∧ Le (rd w X) (rd w1 Y1) ∧ GRow IntCs 3 1 (rd w1 (orN Y1 w.heap.size)) rb5_0 ad5_0 m5_0 cap5_0 v5_0 ∧ clearwaykit_CopyInts_l5 J2 (p0.drop k5)  v5_0 = some y) (fun ((v5_0, k5, rb5_0, ad5_0, m5_0, cap5_0) : (List Int) × Nat × (List (Nat × Obj)) × (Option Addr) × Nat × Nat) => p0.length - k5) (([] : List Int), 0, [], none, 0, 0) ?_ ?_
 ·
  exact ⟨_, B0, Le.refl _, GRow.nil, hp⟩
 rintro ⟨v5_0, k5, rb5_0, ad5_0, m5_0, cap5_0⟩ w5 K5 G5 ⟨Y5, B5, j5, hfv5_0_0, hp⟩
 refine zz 9 ?_
 refine zt 8 (p := (k5 : Int) < (p0.length : Int)) (fun ht6 => ?_) (fun ht6 => ?_)
 ·
  have hob := get_lt (l := p0) (k := k5) (lt_of_int ht6)
  obtain ⟨x5, hqx5⟩ := hob
  rw [dropC hqx5, clearwaykit_CopyInts_l5] at hp
  have hzx5 : (0 : Int) ≤ (k5 : Int) := Int.natCast_nonneg _
  refine zz 9 ?_
  have hob := p0a_h0.opn hqx5
  obtain ⟨be7, oe7, rfl, j7, hEe7⟩ := hob
  have hAe7 : At (rd w X) ⟨be7, oe7 + k5 * 1, none⟩ [.int .i64 x5] := hEe7
  refine zi (b := be7) (off := oe7) (len := p0.length) (cap := p0a2) (kd := .i64) (i := (k5 : Int)) 1 (oe7 + k5 * 1) ?_ (h0 := hzx5) (h1 := (ix_b hzx5 j7))
  refine zl ((hAe7.mono j5)).cells ?_
  refine zn (fun b => .slice (some ⟨b, 0, none⟩) 1 1) (.cells #[.int .i64 x5] 3 (0, 0)) B5 ?_
  intro b9 w9 Y9 B9 j9 hu9
  have hob := grdp hp
  obtain ⟨hg11, hp⟩ := hob
  have hln12 : m5_0 = v5_0.length := GRow.len hfv5_0_0
  have hob := (hfv5_0_0.mono (Le.or j9 _))
  obtain ⟨es12, hr12, hq12, hk12, hm12⟩ := hob
  refine zop (at1 [K4, K5] Tryz.f59 [1, 1, 9, 1, 0, 0, 1, 0, 0]) 6 (fun a10 _ C10 hz10 => op_appEZ (b := 8) (m := 1) (c := 1) (ad := ⟨b9, 0, none⟩) (news := [.int .i64 x5]) (i0 := Tryz.t3) (rb := rb5_0) (R1 := []) 1 C10 B9 rfl hr12 (B9.cells 0 rfl rfl) (app_b1 hg11 hln12 rfl) (app_b2 hg11 hln12) ?_)
  intro rb13 ad13 cap13 w13 Y13 hrow13 B13 j13 a14 C14
  have hg13 : GRow IntCs 3 1 (rd w13 (orN Y13 w.heap.size)) rb13 ad13 (m5_0 + 1) cap13 (v5_0 ++ [x5]) := GRow.snoc hrow13 hq12 hk12 hm12 (Le.or j13 _) ⟨rfl, fun r2 h2 => rfl⟩
  refine hz10 C14 ?_
  refine zz 7 ?_
  refine zs 10 (v := .int .i64 (IntKind.i64.wrap ((k5 : Int) + 1))) (v' := .int .i64 ((k5 : Int) + 1)) (vint (wi64 (wk0 k5) (wk1 ht6 hb5))) ?_
  refine zz 2 ?_
  refine znext (fun a h => G5 ((v5_0 ++ [x5]), k5 + 1, rb13, ad13, (m5_0 + 1), cap13) _ a h ⟨_, B13.tail, (Le3 j5 j9 j13), hg13, hp⟩ ?_)
  exact mu_lt ht6
 rw [List.drop_eq_nil_of_le (nlt_of_int ht6), clearwaykit_CopyInts_l5] at hp
 refine zz 5 ?_
 exact znext (fun a h => G4 (v5_0, rb5_0, ad5_0, m5_0, cap5_0) _ a h ⟨_, B5, j5, hfv5_0_0, hp⟩)
noncomputable def clearwaykit_CopyNoise_p (p0 : NoiseD) : Option (NoiseD) :=
  (clearwaykit_CopyRat_p p0.p).bind fun y7 => some (NoiseD.mk p0.delta y7)
theorem clearwaykit_CopyNoise_c (w : World) (X : Hid) (hX : ∀ k o, X k o → k < w.heap.size) (p0 : NoiseD) (vp0 : Value) (hp0 : NoiseDV (rd w X) vp0 p0) (y : NoiseD) (hp : clearwaykit_CopyNoise_p p0 = some y) : Calls Tryz.prog 102 #[vp0] w (Ret E0 w fun w' v => NoiseDV (rd w' X) v y) := by
 have hVp0 := hp0
 obtain ⟨p0a1, p0a2, p0a3, p0a4, rfl, p0a_h0, p0a_h1⟩ := hp0
 unfold clearwaykit_CopyNoise_p at hp
 refine zen Tryz.func102 ?_
 have B0 : St E0 w X w X [] := St.start hX
 refine zz 2 ?_
 refine zn pn (.cells #[.int .i64 p0.delta, .bool p0.p.neg, .slice p0a1 p0.p.ln.length p0a2, .slice p0a3 p0.p.ld.length p0a4] 58 (0, 0)) B0 ?_
 intro b3 w3 Y3 B3 j3 hu3
 refine zn pn (.cells #[.int .i64 0, .bool false, .slice none 0 0, .slice none 0 0] 58 (0, 0)) B3 ?_
 intro b5 w5 Y5 B5 j5 hu5
 refine zz 3 ?_
 refine zdr B5 ?_
 refine gz [0] ?_
 refine gw 1 1 ?_
 refine gz [2] ?_
 refine gw 3 1 ?_
 refine bndk hp fun y7 hy7 hp => ?_
 refine gC 4 (fun w6 Y6 _ B6 j6 => (clearwaykit_CopyRat_c _ _ B6.lt p0.p _ ⟨_, _, _, _, _, _, rfl, (p0a_h0.mono (Le3 j3 j5 j6)), (p0a_h1.mono (Le3 j3 j5 j6))⟩ y7 hy7)) ?_
 rintro v8 w6 Y8 w8 B6 j8 ⟨u8_0_1, u8_0_2, u8_0_3, u8_0_4, u8_0_5, u8_0_6, rfl, u8_0__h0, u8_0__h1⟩
 have hob := u8_0__h0.hlen
 subst hob
 have hob := u8_0__h1.hlen
 subst hob
 refine gz [5] ?_
 refine gX 6 0 #[.int .i64 p0.delta, .bool y7.neg, .slice u8_0_1 y7.ln.length u8_0_3, .slice u8_0_4 y7.ld.length u8_0_6] ?_
 intro w9 Y9 j9
 refine gend (fun w10 Y10 B10 j10 => ?_)
 refine zz 2 ?_
 refine zrS [.cell 2 58] (v := .agg #[.int .i64 p0.delta, .bool y7.neg, .slice u8_0_1 y7.ln.length u8_0_3, .slice u8_0_4 y7.ld.length u8_0_6]) (Res.cM B10 0 Res.nil) ?_
 have hob := Option.some.inj hp
 subst hob
 exact ⟨B10.upd, _, rfl, ⟨_, _, _, _, rfl, ((u8_0__h0.mono (Le2 j9 j10))).mono B10.le, ((u8_0__h1.mono (Le2 j9 j10))).mono B10.le⟩⟩
end Go.Proofs.YtppalofalmieaaaGreat
namespace Go.Proofs.YtppalofalmieaaaGreat
open Go Go.Gv Go.RowKit
set_option maxRecDepth 100000
set_option maxHeartbeats 1000000
noncomputable def clearwaykit_CopyAdvisories_l5 (J2 : (List BoundsD) → Option ((List BoundsD))) : List BoundsD → (List BoundsD) → Option ((List BoundsD))
  | [], v5_0 => J2 v5_0
  | x5 :: r5, v5_0 => grd ((v5_0.length + 1) * 24 ≤ 140737488355328) <| clearwaykit_CopyAdvisories_l5 J2 r5 (v5_0 ++ [x5])
noncomputable def clearwaykit_CopyAdvisories_p (p0 : List BoundsD) : Option ((List BoundsD)) :=
  lt (fun (v2_0 : List BoundsD) => some v2_0) fun J2 => clearwaykit_CopyAdvisories_l5 J2 (p0.drop 0)  ([] : List BoundsD)
theorem clearwaykit_CopyAdvisories_c (w : World) (X : Hid) (hX : ∀ k o, X k o → k < w.heap.size) (p0 : List BoundsD) (vp0 : Value) (hp0 : SV BoundsDS (rd w X) vp0 p0) (y : (List BoundsD)) (hp : clearwaykit_CopyAdvisories_p p0 = some y) : Calls Tryz.prog 60 #[vp0] w (Ret E0 w fun w' v => SV BoundsDS (rd w' (old w)) v y) := by
 obtain ⟨p0a1, p0a2, rfl, p0a_h0⟩ := hp0
 unfold clearwaykit_CopyAdvisories_p at hp
 refine zen Tryz.func60 ?_
 have B0 : St E0 w X w X [] := St.start hX
 refine zz 10 ?_
 have hob := ltd1 hp
 obtain ⟨J2, hJ2, hp⟩ := hob
 refine zjoin (fun ((v2_0, rb2_0, ad2_0, m2_0, cap2_0) : (List BoundsD) × (List (Nat × Obj)) × (Option Addr) × Nat × Nat) => [(3, .slice ad2_0 m2_0 cap2_0)]) (fun ((v2_0, rb2_0, ad2_0, m2_0, cap2_0) : (List BoundsD) × (List (Nat × Obj)) × (Option Addr) × Nat × Nat) w1 => ∃ Y1 : Hid, St E0 w X w1 Y1 (rb2_0) ∧ Le (rd w X) (rd w1 Y1) ∧ GRow BoundsDCs 60 3 (rd w1 (orN Y1 w.heap.size)) rb2_0 ad2_0 m2_0 cap2_0 v2_0 ∧ J2 v2_0 = some y) ?_ ?_
 ·
  rintro ⟨v2_0, rb2_0, ad2_0, m2_0, cap2_0⟩ w2 ⟨Y2, B2, j2, hfv2_0_0, hp⟩
  have hp := (hJ2 _).symm.trans hp
  refine zz 7 ?_
  refine zr' (v := .slice ad2_0 m2_0 cap2_0) ?_
  have hob := St.pubGRN (A := []) (B := []) (fun rb => (rb)) B2 (fun _ => by simp only [List.append_assoc, List.cons_append, List.nil_append, List.append_nil]) hfv2_0_0 (Nat.le_refl _) BoundsDCs.at
  obtain ⟨Y3, hSx3, j3, hRx3⟩ := hob
  have B3 : St E0 w X w2 Y3 [] := hSx3
  have hob := hRx3.hlen
  subst hob
  have hR3 : BoundsDS (rd w2 (orN Y3 w.heap.size)) ad2_0 v2_0.length cap2_0 v2_0 := hRx3
  have hob := Option.some.inj hp
  subst hob
  exact ⟨B3.upd, _, rfl, ⟨_, _, rfl, ((hR3.mono (Le.or (Le.refl _) _))).mono Le.orr⟩⟩
 intro K4 G4
 refine zz 6 ?_
 have hb5 : (p0.length : Int) ≤ 9223372036854775807 := lenb (p0a_h0).hcap (p0a_h0).hbig
 refine zlp Tryz.f60 [K4] [1, 1, 9, 1, 0] (fun ((v5_0, k5, rb5_0, ad5_0, m5_0, cap5_0) : (List BoundsD) × Nat × (List (Nat × Obj)) × (Option Addr) × Nat × Nat) => [(0, .slice p0a1 p0.length p0a2), (3, .slice ad5_0 m5_0 cap5_0), (4, .int .i64 (k5 : Int))]) (fun ((v5_0, k5, rb5_0, ad5_0, m5_0, cap5_0) : (List BoundsD) × Nat × (List (Nat × Obj)) × (Option Addr) × Nat × Nat) w1 => ∃ Y1 : Hid, St E0 w X w1 Y1 (rb5_0) ∧ Le (rd w X) (rd w1 Y1) ∧ GRow BoundsDCs 60 3 (rd w1 (orN Y1 w.heap.size)) rb5_0 ad5_0 m5_0 cap5_0 v5_0 ∧ clearwaykit_CopyAdvisories_l5 J2 (p0.drop k5)  v5_0 = some y) (fun ((v5_0, k5, rb5_0, ad5_0, m5_0, cap5_0) : (List BoundsD) × Nat × (List (Nat × Obj)) × (Option Addr) × Nat × Nat) => p0.length - k5) (([] : List BoundsD), 0, [], none, 0, 0) ?_ ?_
 ·
  exact ⟨_, B0, Le.refl _, GRow.nil, hp⟩
 rintro ⟨v5_0, k5, rb5_0, ad5_0, m5_0, cap5_0⟩ w5 K5 G5 ⟨Y5, B5, j5, hfv5_0_0, hp⟩
 refine zz 9 ?_
 refine zt 8 (p := (k5 : Int) < (p0.length : Int)) (fun ht6 => ?_) (fun ht6 => ?_)
 ·
  have hob := get_lt (l := p0) (k := k5) (lt_of_int ht6)
  obtain ⟨x5, hqx5⟩ := hob
  rw [dropC hqx5, clearwaykit_CopyAdvisories_l5] at hp
  have hzx5 : (0 : Int) ≤ (k5 : Int) := Int.natCast_nonneg _
  refine zz 9 ?_
  have hob := p0a_h0.opn hqx5
  obtain ⟨be7, oe7, rfl, j7, hEe7⟩ := hob
  have e7_at : At (rd w X) ⟨be7, oe7 + k5 * 3, none⟩ [.int .u8 x5.sense, .int .i64 x5.lo, .int .i64 x5.hi] := hEe7
  refine zi (b := be7) (off := oe7) (len := p0.length) (cap := p0a2) (kd := .i64) (i := (k5 : Int)) 3 (oe7 + k5 * 3) ?_ (h0 := hzx5) (h1 := (ix_b hzx5 j7))
  refine zl ((e7_at.mono j5)).cells ?_
  refine zn (fun b => .slice (some ⟨b, 0, none⟩) 1 1) (.cells #[.int .u8 x5.sense, .int .i64 x5.lo, .int .i64 x5.hi] 60 (0, 0)) B5 ?_
  intro b9 w9 Y9 B9 j9 hu9
  have hob := grdp hp
  obtain ⟨hg11, hp⟩ := hob
  have hln12 : m5_0 = v5_0.length := GRow.len hfv5_0_0
  have hob := (hfv5_0_0.mono (Le.or j9 _))
  obtain ⟨es12, hr12, hq12, hk12, hm12⟩ := hob
  refine zop (at1 [K4, K5] Tryz.f60 [1, 1, 9, 1, 0, 0, 1, 0, 0]) 6 (fun a10 _ C10 hz10 => op_appEZ (b := 24) (m := 1) (c := 1) (ad := ⟨b9, 0, none⟩) (news := [.int .u8 x5.sense, .int .i64 x5.lo, .int .i64 x5.hi]) (i0 := Tryz.t60) (rb := rb5_0) (R1 := []) 1 C10 B9 rfl hr12 (B9.cells 0 rfl rfl) (app_b1 hg11 hln12 rfl) (app_b2 hg11 hln12) ?_)
  intro rb13 ad13 cap13 w13 Y13 hrow13 B13 j13 a14 C14
  have hg13 : GRow BoundsDCs 60 3 (rd w13 (orN Y13 w.heap.size)) rb13 ad13 (m5_0 + 1) cap13 (v5_0 ++ [x5]) := GRow.snoc hrow13 hq12 hk12 hm12 (Le.or j13 _) ⟨rfl, fun r2 h2 => rfl⟩
  refine hz10 C14 ?_
  refine zz 7 ?_
  refine zs 10 (v := .int .i64 (IntKind.i64.wrap ((k5 : Int) + 1))) (v' := .int .i64 ((k5 : Int) + 1)) (vint (wi64 (wk0 k5) (wk1 ht6 hb5))) ?_
  refine zz 2 ?_
  refine znext (fun a h => G5 ((v5_0 ++ [x5]), k5 + 1, rb13, ad13, (m5_0 + 1), cap13) _ a h ⟨_, B13.tail, (Le3 j5 j9 j13), hg13, hp⟩ ?_)
  exact mu_lt ht6
 rw [List.drop_eq_nil_of_le (nlt_of_int ht6), clearwaykit_CopyAdvisories_l5] at hp
 refine zz 5 ?_
 exact znext (fun a h => G4 (v5_0, rb5_0, ad5_0, m5_0, cap5_0) _ a h ⟨_, B5, j5, hfv5_0_0, hp⟩)
noncomputable def clearwaykit_CopyNoises_l5 (J2 : (List NoiseD) → Option ((List NoiseD))) : List NoiseD → (List NoiseD) → Option ((List NoiseD))
  | [], v5_0 => J2 v5_0
  | x5 :: r5, v5_0 => (clearwaykit_CopyNoise_p x5).bind fun y9 => grd ((v5_0.length + 1) * 64 ≤ 140737488355328) <| clearwaykit_CopyNoises_l5 J2 r5 (v5_0 ++ [y9])
noncomputable def clearwaykit_CopyNoises_p (p0 : List NoiseD) : Option ((List NoiseD)) :=
  lt (fun (v2_0 : List NoiseD) => some v2_0) fun J2 => clearwaykit_CopyNoises_l5 J2 (p0.drop 0)  ([] : List NoiseD)
theorem clearwaykit_CopyNoises_c (w : World) (X : Hid) (hX : ∀ k o, X k o → k < w.heap.size) (p0 : List NoiseD) (vp0 : Value) (hp0 : SV NoiseDS (rd w X) vp0 p0) (y : (List NoiseD)) (hp : clearwaykit_CopyNoises_p p0 = some y) : Calls Tryz.prog 61 #[vp0] w (Ret E0 w fun w' v => SV NoiseDS (rd w' X) v y) := by
 obtain ⟨p0a1, p0a2, rfl, p0a_h0⟩ := hp0
 unfold clearwaykit_CopyNoises_p at hp
 refine zen Tryz.func61 ?_
 have B0 : St E0 w X w X [] := St.start hX
 refine zz 10 ?_
 have hob := ltd1 hp
 obtain ⟨J2, hJ2, hp⟩ := hob
 refine zjoin (fun ((v2_0, rb2_0, ad2_0, m2_0, cap2_0) : (List NoiseD) × (List (Nat × Obj)) × (Option Addr) × Nat × Nat) => [(3, .slice ad2_0 m2_0 cap2_0)]) (fun ((v2_0, rb2_0, ad2_0, m2_0, cap2_0) : (List NoiseD) × (List (Nat × Obj)) × (Option Addr) × Nat × Nat) w1 => ∃ Y1 : Hid, St E0 w X w1 Y1 (rb2_0) ∧ Le (rd w X) (rd w1 Y1) ∧ GRow NoiseDCs 58 4 (rd w1 Y1) rb2_0 ad2_0 m2_0 cap2_0 v2_0 ∧ J2 v2_0 = some y) ?_ ?_
 ·
  rintro ⟨v2_0, rb2_0, ad2_0, m2_0, cap2_0⟩ w2 ⟨Y2, B2, j2, hfv2_0_0, hp⟩
  have hp := (hJ2 _).symm.trans hp
  refine zz 7 ?_
  refine zr' (v := .slice ad2_0 m2_0 cap2_0) ?_
  have hob := St.pubGR (A := []) (B := []) (fun rb => (rb)) B2 (fun _ => by simp only [List.append_assoc, List.cons_append, List.nil_append, List.append_nil]) hfv2_0_0 NoiseDCs.at
  obtain ⟨Y3, hSx3, j3, hRx3⟩ := hob
  have B3 : St E0 w X w2 Y3 [] := hSx3
  have hob := hRx3.hlen
  subst hob
  have hR3 : NoiseDS (rd w2 Y3) ad2_0 v2_0.length cap2_0 v2_0 := hRx3
  have hob := Option.some.inj hp
  subst hob
  exact ⟨B3.upd, _, rfl, ⟨_, _, rfl, (hR3).mono B3.le⟩⟩
 intro K4 G4
 refine zz 6 ?_
 have hb5 : (p0.length : Int) ≤ 9223372036854775807 := lenb (p0a_h0).hcap (p0a_h0).hbig
 refine zlp Tryz.f61 [K4] [1, 1, 9, 1, 0] (fun ((v5_0, k5, rb5_0, ad5_0, m5_0, cap5_0) : (List NoiseD) × Nat × (List (Nat × Obj)) × (Option Addr) × Nat × Nat) => [(0, .slice p0a1 p0.length p0a2), (3, .slice ad5_0 m5_0 cap5_0), (4, .int .i64 (k5 : Int))]) (fun ((v5_0, k5, rb5_0, ad5_0, m5_0, cap5_0) : (List NoiseD) × Nat × (List (Nat × Obj)) × (Option Addr) × Nat × Nat) w1 => ∃ Y1 : Hid, St E0 w X w1 Y1 (rb5_0) ∧ Le (rd w X) (rd w1 Y1) ∧ GRow NoiseDCs 58 4 (rd w1 Y1) rb5_0 ad5_0 m5_0 cap5_0 v5_0 ∧ clearwaykit_CopyNoises_l5 J2 (p0.drop k5)  v5_0 = some y) (fun ((v5_0, k5, rb5_0, ad5_0, m5_0, cap5_0) : (List NoiseD) × Nat × (List (Nat × Obj)) × (Option Addr) × Nat × Nat) => p0.length - k5) (([] : List NoiseD), 0, [], none, 0, 0) ?_ ?_
 ·
  exact ⟨_, B0, Le.refl _, GRow.nil, hp⟩
 rintro ⟨v5_0, k5, rb5_0, ad5_0, m5_0, cap5_0⟩ w5 K5 G5 ⟨Y5, B5, j5, hfv5_0_0, hp⟩
 refine zz 9 ?_
 refine zt 8 (p := (k5 : Int) < (p0.length : Int)) (fun ht6 => ?_) (fun ht6 => ?_)
 ·
  have hob := get_lt (l := p0) (k := k5) (lt_of_int ht6)
  obtain ⟨x5, hqx5⟩ := hob
  rw [dropC hqx5, clearwaykit_CopyNoises_l5] at hp
  have hzx5 : (0 : Int) ≤ (k5 : Int) := Int.natCast_nonneg _
  refine zz 9 ?_
  have hob := p0a_h0.opn hqx5
  obtain ⟨be7, oe7, rfl, j7, hEe7⟩ := hob
  obtain ⟨e71, e72, e73, e74, e7_at, e7_h0, e7_h1⟩ := hEe7
  refine zi (b := be7) (off := oe7) (len := p0.length) (cap := p0a2) (kd := .i64) (i := (k5 : Int)) 4 (oe7 + k5 * 4) ?_ (h0 := hzx5) (h1 := (ix_b hzx5 j7))
  refine zl ((e7_at.mono j5)).cells ?_
  refine bndk hp fun y9 hy9 hp => ?_
  refine zc B5 (clearwaykit_CopyNoise_c _ _ B5.lt x5 _ ⟨_, _, _, _, rfl, (e7_h0.mono j5), (e7_h1.mono j5)⟩ y9 hy9) ?_
  rintro v10 w10 B10 j10 hu10 ⟨u10_0_1, u10_0_2, u10_0_3, u10_0_4, rfl, u10_0__h0, u10_0__h1⟩
  refine zn (fun b => .slice (some ⟨b, 0, none⟩) 1 1) (.cells #[.int .i64 y9.delta, .bool y9.p.neg, .slice u10_0_1 y9.p.ln.length u10_0_2, .slice u10_0_3 y9.p.ld.length u10_0_4] 58 (0, 0)) B10 ?_
  intro b12 w12 Y12 B12 j12 hu12
  have hob := grdp hp
  obtain ⟨hg14, hp⟩ := hob
  have hln15 : m5_0 = v5_0.length := GRow.len hfv5_0_0
  have hob := (hfv5_0_0.mono (Le2 j10 j12))
  obtain ⟨es15, hr15, hq15, hk15, hm15⟩ := hob
  refine zop (at1 [K4, K5] Tryz.f61 [1, 1, 9, 1, 0, 0, 1, 0, 0]) 7 (fun a13 _ C13 hz13 => op_appEZ (b := 64) (m := 1) (c := 1) (ad := ⟨b12, 0, none⟩) (news := [.int .i64 y9.delta, .bool y9.p.neg, .slice u10_0_1 y9.p.ln.length u10_0_2, .slice u10_0_3 y9.p.ld.length u10_0_4]) (i0 := Tryz.t58) (rb := rb5_0) (R1 := []) 1 C13 B12 rfl hr15 (B12.cells 0 rfl rfl) (app_b1 hg14 hln15 rfl) (app_b2 hg14 hln15) ?_)
  intro rb16 ad16 cap16 w16 Y16 hrow16 B16 j16 a17 C17
  have hg16 : GRow NoiseDCs 58 4 (rd w16 Y16) rb16 ad16 (m5_0 + 1) cap16 (v5_0 ++ [y9]) := GRow.snoc hrow16 hq15 hk15 hm15 j16 ⟨rfl, fun r2 h2 => ⟨_, _, _, _, rfl, ((u10_0__h0.mono (Le2 j12 j16)).mono h2), ((u10_0__h1.mono (Le2 j12 j16)).mono h2)⟩⟩
  refine hz13 C17 ?_
  refine zz 7 ?_
  refine zs 10 (v := .int .i64 (IntKind.i64.wrap ((k5 : Int) + 1))) (v' := .int .i64 ((k5 : Int) + 1)) (vint (wi64 (wk0 k5) (wk1 ht6 hb5))) ?_
  refine zz 2 ?_
  have hc1_ := (Le3 j5 j10 j12).trans j16
  refine znext (fun a h => G5 ((v5_0 ++ [y9]), k5 + 1, rb16, ad16, (m5_0 + 1), cap16) _ a h ⟨_, B16.tail, hc1_, hg16, hp⟩ ?_)
  exact mu_lt ht6
 rw [List.drop_eq_nil_of_le (nlt_of_int ht6), clearwaykit_CopyNoises_l5] at hp
 refine zz 5 ?_
 exact znext (fun a h => G4 (v5_0, rb5_0, ad5_0, m5_0, cap5_0) _ a h ⟨_, B5, j5, hfv5_0_0, hp⟩)
noncomputable def clearwaykit_CopyModel_p (p0 : ModelD) : Option (ModelD) :=
  (clearwaykit_CopyInts_p p0.height).bind fun y7 => (clearwaykit_CopyInts_p p0.own).bind fun y10 => (clearwaykit_CopyInts_p p0.other).bind fun y13 => (clearwaykit_CopyAdvisories_p p0.advisories).bind fun y16 => (clearwaykit_CopyNoises_p p0.ownNoise).bind fun y19 => (clearwaykit_CopyNoises_p p0.otherNoise).bind fun y22 => (clearwaykit_CopyRat_p p0.alert).bind fun y25 => (clearwaykit_CopyRat_p p0.strengthen).bind fun y28 => (clearwaykit_CopyRat_p p0.reversal).bind fun y31 => some (ModelD.mk y7 y10 y13 y16 p0.pull p0.near p0.steps y19 y22 y25 y28 y31)
theorem clearwaykit_CopyModel_c (w : World) (X : Hid) (hX : ∀ k o, X k o → k < w.heap.size) (p0 : ModelD) (vp0 : Value) (hp0 : ModelDV (rd w X) vp0 p0) (y : ModelD) (hp : clearwaykit_CopyModel_p p0 = some y) : Calls Tryz.prog 16 #[vp0] w (Ret E0 w fun w' v => ModelDV (rd w' X) v y) := by
 have hVp0 := hp0
 refine ModelDV.op hp0 fun p0a1 p0a2 p0a3 p0a4 p0a5 p0a6 p0a7 p0a8 p0a9 p0a10 p0a11 p0a12 p0a13 p0a14 p0a15 p0a16 p0a17 p0a18 p0a19 p0a20 p0a21 p0a22 p0a23 p0a24 hv9 p0a_h0 p0a_h1 p0a_h2 p0a_h3 p0a_h4 p0a_h5 p0a_h6 p0a_h7 p0a_h8 p0a_h9 p0a_h10 p0a_h11 => ?_
 subst hv9
 unfold clearwaykit_CopyModel_p at hp
 refine zen Tryz.func16 ?_
 have B0 : St E0 w X w X [] := St.start hX
 refine zz 2 ?_
 refine zn pn (.cells #[.slice p0a1 p0.height.length p0a2, .slice p0a3 p0.own.length p0a4, .slice p0a5 p0.other.length p0a6, .slice p0a7 p0.advisories.length p0a8, .int .i64 p0.pull, .int .i64 p0.near, .int .i64 p0.steps, .slice p0a9 p0.ownNoise.length p0a10, .slice p0a11 p0.otherNoise.length p0a12, .bool p0.alert.neg, .slice p0a13 p0.alert.ln.length p0a14, .slice p0a15 p0.alert.ld.length p0a16, .bool p0.strengthen.neg, .slice p0a17 p0.strengthen.ln.length p0a18, .slice p0a19 p0.strengthen.ld.length p0a20, .bool p0.reversal.neg, .slice p0a21 p0.reversal.ln.length p0a22, .slice p0a23 p0.reversal.ld.length p0a24] 30 (0, 0)) B0 ?_
 intro b3 w3 Y3 B3 j3 hu3
 refine zn pn (.cells #[.slice none 0 0, .slice none 0 0, .slice none 0 0, .slice none 0 0, .int .i64 0, .int .i64 0, .int .i64 0, .slice none 0 0, .slice none 0 0, .bool false, .slice none 0 0, .slice none 0 0, .bool false, .slice none 0 0, .slice none 0 0, .bool false, .slice none 0 0, .slice none 0 0] 30 (0, 0)) B3 ?_
 intro b5 w5 Y5 B5 j5 hu5
 refine zz 3 ?_
 refine zdr B5 ?_
 refine gz [0] ?_
 refine gw 1 1 ?_
 refine gz [3] ?_
 refine gw 4 1 ?_
 refine gz [6] ?_
 refine gw 7 1 ?_
 refine gz [9] ?_
 refine gw 10 1 ?_
 refine gz [12] ?_
 refine gw 13 1 ?_
 refine gz [14] ?_
 refine gw 15 1 ?_
 refine gz [16] ?_
 refine gw 17 1 ?_
 refine gz [18] ?_
 refine gw 19 1 ?_
 refine gz [21] ?_
 refine gw 22 1 ?_
 refine gz [24] ?_
 refine gw 25 1 ?_
 refine gz [27] ?_
 refine gw 28 1 ?_
 refine gz [30] ?_
 refine gw 31 1 ?_
 refine bndk hp fun y7 hy7 hp => ?_
 refine gC 2 (fun w6 Y6 _ B6 j6 => (clearwaykit_CopyInts_c _ X0 (X0_lt _) p0.height _ ⟨_, _, rfl, ((p0a_h0.mono (Le3 j3 j5 j6)).mono Le.x0)⟩ y7 hy7)) ?_
 rintro v8 w6 Y8 w8 B6 j8 ⟨u8_0_1, u8_0_2, rfl, u8_0__h0⟩
 have hc1_ := (Le2 j3 j5).trans j8
 refine bndk hp fun y10 hy10 hp => ?_
 refine gC 5 (fun w9 Y9 _ B9 j9 => (clearwaykit_CopyInts_c _ X0 (X0_lt _) p0.own _ ⟨_, _, rfl, ((p0a_h1.mono (hc1_.trans j9)).mono Le.x0)⟩ y10 hy10)) ?_
 rintro v11 w9 Y11 w11 B9 j11 ⟨u11_0_1, u11_0_2, rfl, u11_0__h0⟩
 have hc2_ := hc1_.trans j11
 refine bndk hp fun y13 hy13 hp => ?_
 refine gC 8 (fun w12 Y12 _ B12 j12 => (clearwaykit_CopyInts_c _ X0 (X0_lt _) p0.other _ ⟨_, _, rfl, ((p0a_h2.mono (hc2_.trans j12)).mono Le.x0)⟩ y13 hy13)) ?_
 rintro v14 w12 Y14 w14 B12 j14 ⟨u14_0_1, u14_0_2, rfl, u14_0__h0⟩
 have hc3_ := hc2_.trans j14
 refine bndk hp fun y16 hy16 hp => ?_
 refine gC 11 (fun w15 Y15 _ B15 j15 => (clearwaykit_CopyAdvisories_c _ X0 (X0_lt _) p0.advisories _ ⟨_, _, rfl, ((p0a_h3.mono (hc3_.trans j15)).mono Le.x0)⟩ y16 hy16)) ?_
 rintro v17 w15 Y17 w17 B15 j17 ⟨u17_0_1, u17_0_2, rfl, u17_0__h0⟩
 have hc4_ := hc3_.trans j17
 refine bndk hp fun y19 hy19 hp => ?_
 refine gC 20 (fun w18 Y18 _ B18 j18 => (clearwaykit_CopyNoises_c _ _ B18.lt p0.ownNoise _ ⟨_, _, rfl, (p0a_h4.mono (hc4_.trans j18))⟩ y19 hy19)) ?_
 rintro v20 w18 Y20 w20 B18 j20 ⟨u20_0_1, u20_0_2, rfl, u20_0__h0⟩
 have hc5_ := hc4_.trans j20
 refine bndk hp fun y22 hy22 hp => ?_
 refine gC 23 (fun w21 Y21 _ B21 j21 => (clearwaykit_CopyNoises_c _ _ B21.lt p0.otherNoise _ ⟨_, _, rfl, (p0a_h5.mono (hc5_.trans j21))⟩ y22 hy22)) ?_
 rintro v23 w21 Y23 w23 B21 j23 ⟨u23_0_1, u23_0_2, rfl, u23_0__h0⟩
 have hc6_ := hc5_.trans j23
 refine bndk hp fun y25 hy25 hp => ?_
 refine gC 26 (fun w24 Y24 _ B24 j24 => (clearwaykit_CopyRat_c _ _ B24.lt p0.alert _ ⟨_, _, _, _, _, _, rfl, (p0a_h6.mono (hc6_.trans j24)), (p0a_h7.mono (hc6_.trans j24))⟩ y25 hy25)) ?_
 rintro v26 w24 Y26 w26 B24 j26 ⟨u26_0_1, u26_0_2, u26_0_3, u26_0_4, u26_0_5, u26_0_6, rfl, u26_0__h0, u26_0__h1⟩
 have hob := u26_0__h0.hlen
 subst hob
 have hob := u26_0__h1.hlen
 subst hob
 have hc7_ := hc6_.trans j26
 refine bndk hp fun y28 hy28 hp => ?_
 refine gC 29 (fun w27 Y27 _ B27 j27 => (clearwaykit_CopyRat_c _ _ B27.lt p0.strengthen _ ⟨_, _, _, _, _, _, rfl, (p0a_h8.mono (hc7_.trans j27)), (p0a_h9.mono (hc7_.trans j27))⟩ y28 hy28)) ?_
 rintro v29 w27 Y29 w29 B27 j29 ⟨u29_0_1, u29_0_2, u29_0_3, u29_0_4, u29_0_5, u29_0_6, rfl, u29_0__h0, u29_0__h1⟩
 have hob := u29_0__h0.hlen
 subst hob
 have hob := u29_0__h1.hlen
 subst hob
 have hc8_ := hc7_.trans j29
 refine bndk hp fun y31 hy31 hp => ?_
 refine gC 32 (fun w30 Y30 _ B30 j30 => (clearwaykit_CopyRat_c _ _ B30.lt p0.reversal _ ⟨_, _, _, _, _, _, rfl, (p0a_h10.mono (hc8_.trans j30)), (p0a_h11.mono (hc8_.trans j30))⟩ y31 hy31)) ?_
 rintro v32 w30 Y32 w32 B30 j32 ⟨u32_0_1, u32_0_2, u32_0_3, u32_0_4, u32_0_5, u32_0_6, rfl, u32_0__h0, u32_0__h1⟩
 have hob := u32_0__h0.hlen
 subst hob
 have hob := u32_0__h1.hlen
 subst hob
 refine gz [33] ?_
 refine gX 34 0 #[.slice u8_0_1 y7.length u8_0_2, .slice u11_0_1 y10.length u11_0_2, .slice u14_0_1 y13.length u14_0_2, .slice u17_0_1 y16.length u17_0_2, .int .i64 p0.pull, .int .i64 p0.near, .int .i64 p0.steps, .slice u20_0_1 y19.length u20_0_2, .slice u23_0_1 y22.length u23_0_2, .bool y25.neg, .slice u26_0_1 y25.ln.length u26_0_3, .slice u26_0_4 y25.ld.length u26_0_6, .bool y28.neg, .slice u29_0_1 y28.ln.length u29_0_3, .slice u29_0_4 y28.ld.length u29_0_6, .bool y31.neg, .slice u32_0_1 y31.ln.length u32_0_3, .slice u32_0_4 y31.ld.length u32_0_6] ?_
 intro w33 Y33 j33
 refine gend (fun w34 Y34 B34 j34 => ?_)
 refine zz 2 ?_
 refine zrS [.cell 2 30] (v := .agg #[.slice u8_0_1 y7.length u8_0_2, .slice u11_0_1 y10.length u11_0_2, .slice u14_0_1 y13.length u14_0_2, .slice u17_0_1 y16.length u17_0_2, .int .i64 p0.pull, .int .i64 p0.near, .int .i64 p0.steps, .slice u20_0_1 y19.length u20_0_2, .slice u23_0_1 y22.length u23_0_2, .bool y25.neg, .slice u26_0_1 y25.ln.length u26_0_3, .slice u26_0_4 y25.ld.length u26_0_6, .bool y28.neg, .slice u29_0_1 y28.ln.length u29_0_3, .slice u29_0_4 y28.ld.length u29_0_6, .bool y31.neg, .slice u32_0_1 y31.ln.length u32_0_3, .slice u32_0_4 y31.ld.length u32_0_6]) (Res.cM B34 0 Res.nil) ?_
 have hob := Option.some.inj hp
 subst hob
 have hc9_ := (Le9 j11 j14 j17 j20 j23 j26 j29 j32 j33).trans j34
 have hc10_ := (Le8 j14 j17 j20 j23 j26 j29 j32 j33).trans j34
 have hc11_ := (Le7 j17 j20 j23 j26 j29 j32 j33).trans j34
 have hc12_ := (Le6 j20 j23 j26 j29 j32 j33).trans j34
 have hc13_ := (Le5 j23 j26 j29 j32 j33).trans j34
 have hc14_ := (Le4 j26 j29 j32 j33).trans j34
 have hc15_ := (Le3 j29 j32 j33).trans j34
 exact ⟨B34.upd, _, rfl, ⟨_, _, _, _, _, _, _, _, _, _, _, _, _, _, _, _, _, _, _, _, _, _, _, _, rfl, (((u8_0__h0.mono (Le.new B6.lt)).mono hc9_)).mono B34.le, (((u11_0__h0.mono (Le.new B9.lt)).mono hc10_)).mono B34.le, (((u14_0__h0.mono (Le.new B12.lt)).mono hc11_)).mono B34.le, (((u17_0__h0.mono (Le.new B15.lt)).mono hc12_)).mono B34.le, ((u20_0__h0.mono hc13_)).mono B34.le, ((u23_0__h0.mono hc14_)).mono B34.le, ((u26_0__h0.mono hc15_)).mono B34.le, ((u26_0__h1.mono hc15_)).mono B34.le, ((u29_0__h0.mono (Le3 j32 j33 j34))).mono B34.le, ((u29_0__h1.mono (Le3 j32 j33 j34))).mono B34.le, ((u32_0__h0.mono (Le2 j33 j34))).mono B34.le, ((u32_0__h1.mono (Le2 j33 j34))).mono B34.le⟩⟩
noncomputable def clearwaylaw24_DynamicsExamples_l150 (y14 : Raw) (y23 : Raw × Int) (v50_0 : List Int) (J68 : Option (Bool)) : Nat → Nat → Option (Bool)
  | 0, k150 => J68
  | r150 + 1, k150 => (clearwaykit_CopyModel_p (ModelD.mk ([0]) ([0]) ([0]) ([(BoundsD.mk 0 0 0), (BoundsD.mk 1 0 5)]) 0 0 0 ([(NoiseD.mk 0 y14)]) ([(NoiseD.mk 0 y14)]) Raw.zero Raw.zero Raw.zero)).bind fun y153 => lt (fun (v158_0 : Int) (v158_1 : List Int) (v158_2 : List Int) (v158_3 : List Int) (v158_4 : List BoundsD) (v158_5 : Int) (v158_6 : Int) (v158_7 : Int) (v158_8 : List NoiseD) (v158_9 : List NoiseD) (v158_10 : Raw) (v158_11 : Raw) (v158_12 : Raw) => (dynamics_Spread_p (ModelD.mk v158_1 v158_2 v158_3 v158_4 v158_5 v158_6 v158_7 v158_8 v158_9 v158_10 v158_11 v158_12) (1099511627776 : Int) (0 : Int) (0 : Int) (9 : Int)).bind fun y161 => (dynamics_Check_p (ModelD.mk v158_1 v158_2 v158_3 v158_4 v158_5 v158_6 v158_7 v158_8 v158_9 v158_10 v158_11 v158_12)).bind fun y164 => if ((y164) != v158_0) = true then (some false) else (if ((v158_0) != 0) = true then (if ((y161.2) != v158_0) = true then (some false) else (if ((v158_0) == 0) = true then (if ((y161.2) != 1) = true then (some false) else (clearwaylaw24_DynamicsExamples_l150 y14 y23 v50_0 J68 r150 (k150 + 1))) else (clearwaylaw24_DynamicsExamples_l150 y14 y23 v50_0 J68 r150 (k150 + 1)))) else (if ((v158_0) == 0) = true then (if ((y161.2) != 1) = true then (some false) else (clearwaylaw24_DynamicsExamples_l150 y14 y23 v50_0 J68 r150 (k150 + 1))) else (clearwaylaw24_DynamicsExamples_l150 y14 y23 v50_0 J68 r150 (k150 + 1))))) fun J158 => if ((k150 : Int) == 0) = true then (J158 3 ([50001]) y153.own ([] : List Int) y153.advisories y153.pull y153.near y153.steps y153.ownNoise y153.otherNoise y153.alert y153.strengthen y153.reversal) else (if ((k150 : Int) == 1) = true then (J158 1 ([50001]) y153.own y153.other ([] : List BoundsD) y153.pull y153.near y153.steps y153.ownNoise y153.otherNoise y153.alert y153.strengthen y153.reversal) else (if ((k150 : Int) == 2) = true then (J158 1 y153.height ([(-101)]) y153.other y153.advisories y153.pull y153.near y153.steps y153.ownNoise y153.otherNoise y153.alert y153.strengthen y153.reversal) else (if ((k150 : Int) == 3) = true then (J158 3 y153.height y153.own y153.other ([] : List BoundsD) (-1) y153.near y153.steps y153.ownNoise y153.otherNoise y153.alert y153.strengthen y153.reversal) else (if ((k150 : Int) == 4) = true then (grd (0 ≤ (7 : Int) ∧ 24 * 7 ≤ 281474976710656 ∧ 7 ≤ 140737488355328) <| J158 4 y153.height y153.own y153.other (List.replicate 7 (BoundsD.mk 0 0 0)) y153.pull y153.near y153.steps y153.ownNoise y153.otherNoise y153.alert y153.strengthen y153.reversal) else (if ((k150 : Int) == 5) = true then (J158 6 y153.height y153.own y153.other ([(BoundsD.mk 9 0 0), (BoundsD.mk 0 5 0)]) y153.pull y153.near y153.steps y153.ownNoise y153.otherNoise y153.alert y153.strengthen y153.reversal) else (if ((k150 : Int) == 6) = true then (J158 1 y153.height y153.own y153.other ([(BoundsD.mk 0 0 0), (BoundsD.mk 1 5 4), (BoundsD.mk 0 0 0)]) y153.pull y153.near y153.steps y153.ownNoise y153.otherNoise y153.alert y153.strengthen y153.reversal) else (if ((k150 : Int) == 7) = true then (J158 1 y153.height y153.own y153.other ([(BoundsD.mk 0 0 0), (BoundsD.mk 2 (-101) 0)]) y153.pull y153.near y153.steps y153.ownNoise y153.otherNoise y153.alert y153.strengthen y153.reversal) else (if ((k150 : Int) == 8) = true then (J158 1 y153.height y153.own y153.other y153.advisories 101 y153.near y153.steps y153.ownNoise y153.otherNoise y153.alert y153.strengthen y153.reversal) else (if ((k150 : Int) == 9) = true then (J158 1 y153.height y153.own y153.other y153.advisories y153.pull (-1) y153.steps y153.ownNoise y153.otherNoise y153.alert y153.strengthen y153.reversal) else (if ((k150 : Int) == 10) = true then (J158 1 y153.height y153.own y153.other y153.advisories y153.pull y153.near 25 y153.ownNoise y153.otherNoise y153.alert y153.strengthen y153.reversal) else (if ((k150 : Int) == 11) = true then (J158 3 y153.height y153.own y153.other y153.advisories y153.pull y153.near y153.steps ([] : List NoiseD) ([(NoiseD.mk 0 y23.1)]) y153.alert y153.strengthen y153.reversal) else (if ((k150 : Int) == 12) = true then (grd (0 ≤ (6 : Int) ∧ 64 * 6 ≤ 281474976710656 ∧ 6 ≤ 140737488355328) <| J158 4 y153.height y153.own y153.other y153.advisories y153.pull y153.near y153.steps y153.ownNoise (List.replicate 6 (NoiseD.mk 0 Raw.zero)) y153.alert y153.strengthen y153.reversal) else (if ((k150 : Int) == 13) = true then (J158 1 y153.height y153.own y153.other y153.advisories y153.pull y153.near y153.steps ([(NoiseD.mk 101 (Raw.mk true ([] : List Nat) ([] : List Nat)))]) y153.otherNoise y153.alert y153.strengthen y153.reversal) else (if ((k150 : Int) == 14) = true then (J158 16 y153.height y153.own y153.other y153.advisories y153.pull y153.near y153.steps ([(NoiseD.mk 0 y23.1), (NoiseD.mk 0 (Raw.mk true ([] : List Nat) ([] : List Nat)))]) y153.otherNoise y153.alert y153.strengthen y153.reversal) else (if ((k150 : Int) == 15) = true then (J158 2 y153.height y153.own y153.other y153.advisories y153.pull y153.near y153.steps ([(NoiseD.mk 0 (Raw.mk true ([] : List Nat) ([] : List Nat)))]) y153.otherNoise y153.alert y153.strengthen y153.reversal) else (if ((k150 : Int) == 16) = true then (J158 4 y153.height y153.own y153.other y153.advisories y153.pull y153.near y153.steps ([(NoiseD.mk 0 (Raw.mk false ((List.replicate 8 (0 : Nat)) ++ [1]) ([] : List Nat)))]) y153.otherNoise y153.alert y153.strengthen y153.reversal) else (if ((k150 : Int) == 17) = true then (J158 1 y153.height y153.own y153.other y153.advisories y153.pull y153.near y153.steps ([(NoiseD.mk 0 Raw.zero)]) y153.otherNoise y153.alert y153.strengthen y153.reversal) else (if ((k150 : Int) == 18) = true then (J158 2 y153.height y153.own y153.other y153.advisories y153.pull y153.near y153.steps y153.ownNoise ([(NoiseD.mk 0 y23.1)]) y153.alert y153.strengthen y153.reversal) else (if ((k150 : Int) == 19) = true then (J158 2 y153.height y153.own y153.other y153.advisories y153.pull y153.near y153.steps y153.ownNoise y153.otherNoise (Raw.mk true ([] : List Nat) ([] : List Nat)) y153.strengthen y153.reversal) else (if ((k150 : Int) == 20) = true then (J158 4 y153.height y153.own y153.other y153.advisories y153.pull y153.near y153.steps y153.ownNoise y153.otherNoise y153.alert (Raw.mk false ((List.replicate 8 (0 : Nat)) ++ [1]) ([] : List Nat)) y153.reversal) else (if ((k150 : Int) == 21) = true then ((clearwayref06_From_p (-1)).bind fun y302 => J158 1 y153.height y153.own y153.other y153.advisories y153.pull y153.near y153.steps y153.ownNoise y153.otherNoise y153.alert y153.strengthen y302) else (if ((k150 : Int) == 22) = true then (J158 10 v50_0 ([0, 1, 2, 3]) y153.other y153.advisories y153.pull y153.near y153.steps y153.ownNoise y153.otherNoise y153.alert y153.strengthen y153.reversal) else (if ((k150 : Int) == 23) = true then (J158 0 v50_0 ([0, 1, 2]) y153.other y153.advisories y153.pull y153.near y153.steps y153.ownNoise y153.otherNoise y153.alert y153.strengthen y153.reversal) else (J158 1 y153.height y153.own y153.other y153.advisories y153.pull y153.near y153.steps y153.ownNoise y153.otherNoise y153.alert y153.strengthen y153.reversal))))))))))))))))))))))))
noncomputable def clearwaylaw24_DynamicsExamples_l318 (J50 : (List Int) → Option (Bool)) : Nat → Nat → (List Int) → Option (Bool)
  | 0, k318, v318_1 => J50 v318_1
  | r318 + 1, k318, v318_1 => (ix v318_1 (k318 : Int)).bind fun x320 => clearwaylaw24_DynamicsExamples_l318 J50 r318 (k318 + 1) (v318_1.set k318 (k318 : Int))
theorem clearwaylaw24_DynamicsExamples_cut125 (w : World) (X : Hid) (y : Bool) (MQ : List (Nat × Obj)) (Y90 : Hid) (b17 : Nat) (be119 : Nat) (oe119 : Nat) (u105_0_2 : Nat) (w105 : World) (y104 : (List Out) × Int)  (hp : (some false) = some y) : Gt (mkG Tryz.prog (bodyPost Tryz.prog Tryz.f5 (Ret E0 w fun w' v => v = .bool y)) Tryz.f5.ntmps w105 ⟨.code (at1 [] Tryz.f5 [1, 1, 1, 1, 1, 1, 1, 1, 1, 1, 1, 1, 1, 1, 1, 1, 1, 1, 1, 1, 1, 0]), at2 [] Tryz.f5 [1, 1, 1, 1, 1, 1, 1, 1, 1, 1, 1, 1, 1, 1, 1, 1, 1, 1, 1, 1, 1, 0], []⟩ w X Y90 (MQ)) [] (#[true, true, true, true, true, true, true, true, true, true, true, true, true, true, true, true, true, true, true, true, true, true, true, true, true, true, true, true, true, true, true, true, true, true, true, true, true, true, true, true, true, true, true, true, true, true, true, true, true, true, true, false, false, false, false, false, false, false, false], [(1, .pointer (some ⟨b17, 0, none⟩)), (35, .slice (some ⟨be119, oe119, none⟩) y104.1.length u105_0_2), (335, .bool false)]) MQ (rd w105 Y90) := by
 refine gz [51, 52, 53, 54, 55, 56, 57, 58] ?_
 refine gend (fun w126 Y126 B126 j126 => ?_)
 refine zz 2 ?_
 refine zr' (v := .bool false) ?_
 have hob := Option.some.inj hp
 subst hob
 exact ⟨B126.upd, _, rfl, rfl⟩
theorem clearwaylaw24_DynamicsExamples_cut127 (w : World) (X : Hid) (y : Bool) (MQ : List (Nat × Obj)) (Y90 : Hid) (b17 : Nat) (u105_0_1 : Option Addr) (u105_0_2 : Nat) (w105 : World) (y104 : (List Out) × Int)  (hp : (some false) = some y) : Gt (mkG Tryz.prog (bodyPost Tryz.prog Tryz.f5 (Ret E0 w fun w' v => v = .bool y)) Tryz.f5.ntmps w105 ⟨.code (at1 [] Tryz.f5 [1, 1, 1, 1, 1, 1, 1, 1, 1, 1, 1, 1, 1, 1, 1, 1, 1, 1, 1, 1, 1, 0]), at2 [] Tryz.f5 [1, 1, 1, 1, 1, 1, 1, 1, 1, 1, 1, 1, 1, 1, 1, 1, 1, 1, 1, 1, 1, 0], []⟩ w X Y90 (MQ)) [] (#[true, true, true, true, true, true, true, true, true, true, true, true, true, true, true, true, true, true, true, true, true, true, true, true, true, true, true, true, true, true, true, true, true, true, true, true, true, true, true, true, true, true, true, true, false, false, false, false, false, false, false, false, false, false, false, false, false, false, false], [(1, .pointer (some ⟨b17, 0, none⟩)), (35, .slice u105_0_1 y104.1.length u105_0_2), (328, .bool false)]) MQ (rd w105 Y90) := by
 refine gz [44, 45, 46, 47, 48, 49, 50, 51, 52, 53, 54, 55, 56, 57, 58] ?_
 refine gend (fun w128 Y128 B128 j128 => ?_)
 refine zz 2 ?_
 refine zr' (v := .bool false) ?_
 have hob := Option.some.inj hp
 subst hob
 exact ⟨B128.upd, _, rfl, rfl⟩
theorem clearwaylaw24_DynamicsExamples_cut129 (w : World) (X : Hid) (y : Bool) (MQ : List (Nat × Obj)) (Y90 : Hid) (b17 : Nat) (u105_0_1 : Option Addr) (u105_0_2 : Nat) (w105 : World) (y104 : (List Out) × Int)  (hp : (some false) = some y) : Gt (mkG Tryz.prog (bodyPost Tryz.prog Tryz.f5 (Ret E0 w fun w' v => v = .bool y)) Tryz.f5.ntmps w105 ⟨.code (at1 [] Tryz.f5 [1, 1, 1, 1, 1, 1, 1, 1, 1, 1, 1, 1, 1, 1, 1, 1, 1, 1, 1, 1, 1, 0]), at2 [] Tryz.f5 [1, 1, 1, 1, 1, 1, 1, 1, 1, 1, 1, 1, 1, 1, 1, 1, 1, 1, 1, 1, 1, 0], []⟩ w X Y90 (MQ)) [] (#[true, true, true, true, true, true, true, true, true, true, true, true, true, true, true, true, true, true, true, true, true, true, true, true, true, true, true, true, true, true, true, true, true, true, true, true, true, true, true, false, false, false, false, false, false, false, false, false, false, false, false, false, false, false, false, false, false, false, false], [(1, .pointer (some ⟨b17, 0, none⟩)), (35, .slice u105_0_1 y104.1.length u105_0_2), (323, .bool false)]) MQ (rd w105 Y90) := by
 refine gz [39, 40, 41, 42, 43, 44, 45, 46, 47, 48, 49, 50, 51, 52, 53, 54, 55, 56, 57, 58] ?_
 refine gend (fun w130 Y130 B130 j130 => ?_)
 refine zz 2 ?_
 refine zr' (v := .bool false) ?_
 have hob := Option.some.inj hp
 subst hob
 exact ⟨B130.upd, _, rfl, rfl⟩
theorem clearwaylaw24_DynamicsExamples_cut131 (w : World) (X : Hid) (y : Bool) (MQ : List (Nat × Obj)) (Y90 : Hid) (b17 : Nat) (u105_0_1 : Option Addr) (u105_0_2 : Nat) (w105 : World) (y104 : (List Out) × Int)  (hp : (some false) = some y) : Gt (mkG Tryz.prog (bodyPost Tryz.prog Tryz.f5 (Ret E0 w fun w' v => v = .bool y)) Tryz.f5.ntmps w105 ⟨.code (at1 [] Tryz.f5 [1, 1, 1, 1, 1, 1, 1, 1, 1, 1, 1, 1, 1, 1, 1, 1, 1, 1, 1, 1, 1, 0]), at2 [] Tryz.f5 [1, 1, 1, 1, 1, 1, 1, 1, 1, 1, 1, 1, 1, 1, 1, 1, 1, 1, 1, 1, 1, 0], []⟩ w X Y90 (MQ)) [] (#[true, true, true, true, true, true, true, true, true, true, true, true, true, true, true, true, true, true, true, true, true, true, true, true, true, true, true, true, true, true, true, true, true, true, true, false, false, false, false, false, false, false, false, false, false, false, false, false, false, false, false, false, false, false, false, false, false, false, false], [(1, .pointer (some ⟨b17, 0, none⟩)), (35, .slice u105_0_1 y104.1.length u105_0_2), (36, .int .i64 y104.2), (319, .bool false)]) MQ (rd w105 Y90) := by
 refine gz [35, 36, 37, 38, 39, 40, 41, 42, 43, 44, 45, 46, 47, 48, 49, 50, 51, 52, 53, 54, 55, 56, 57, 58] ?_
 refine gend (fun w132 Y132 B132 j132 => ?_)
 refine zz 2 ?_
 refine zr' (v := .bool false) ?_
 have hob := Option.some.inj hp
 subst hob
 exact ⟨B132.upd, _, rfl, rfl⟩
theorem clearwaylaw24_DynamicsExamples_cut133 (w : World) (X : Hid) (y : Bool) (MQ : List (Nat × Obj)) (Y90 : Hid) (b17 : Nat) (u105_0_1 : Option Addr) (u105_0_2 : Nat) (w105 : World) (y100 : (List Out) × Int) (y104 : (List Out) × Int)  (hp : (some false) = some y) : Gt (mkG Tryz.prog (bodyPost Tryz.prog Tryz.f5 (Ret E0 w fun w' v => v = .bool y)) Tryz.f5.ntmps w105 ⟨.code (at1 [] Tryz.f5 [1, 1, 1, 1, 1, 1, 1, 1, 1, 1, 1, 1, 1, 1, 1, 1, 1, 1, 1, 1, 1, 0]), at2 [] Tryz.f5 [1, 1, 1, 1, 1, 1, 1, 1, 1, 1, 1, 1, 1, 1, 1, 1, 1, 1, 1, 1, 1, 0], []⟩ w X Y90 (MQ)) [] (#[true, true, true, true, true, true, true, true, true, true, true, true, true, true, true, true, true, true, true, true, true, true, true, true, true, true, true, true, true, true, true, false, false, false, false, false, false, false, false, false, false, false, false, false, false, false, false, false, false, false, false, false, false, false, false, false, false, false, false], [(1, .pointer (some ⟨b17, 0, none⟩)), (34, .int .i64 y100.2), (35, .slice u105_0_1 y104.1.length u105_0_2), (36, .int .i64 y104.2), (315, .bool false)]) MQ (rd w105 Y90) := by
 refine gz [31, 32, 33, 34, 35, 36, 37, 38, 39, 40, 41, 42, 43, 44, 45, 46, 47, 48, 49, 50, 51, 52, 53, 54, 55, 56, 57, 58] ?_
 refine gend (fun w134 Y134 B134 j134 => ?_)
 refine zz 2 ?_
 refine zr' (v := .bool false) ?_
 have hob := Option.some.inj hp
 subst hob
 exact ⟨B134.upd, _, rfl, rfl⟩
theorem clearwaylaw24_DynamicsExamples_cut135 (w : World) (X : Hid) (y : Bool) (MQ : List (Nat × Obj)) (Y90 : Hid) (b17 : Nat) (u105_0_1 : Option Addr) (u105_0_2 : Nat) (w105 : World) (y100 : (List Out) × Int) (y104 : (List Out) × Int) (y97 : (List Out) × Int)  (hp : (some false) = some y) : Gt (mkG Tryz.prog (bodyPost Tryz.prog Tryz.f5 (Ret E0 w fun w' v => v = .bool y)) Tryz.f5.ntmps w105 ⟨.code (at1 [] Tryz.f5 [1, 1, 1, 1, 1, 1, 1, 1, 1, 1, 1, 1, 1, 1, 1, 1, 1, 1, 1, 1, 1, 0]), at2 [] Tryz.f5 [1, 1, 1, 1, 1, 1, 1, 1, 1, 1, 1, 1, 1, 1, 1, 1, 1, 1, 1, 1, 1, 0], []⟩ w X Y90 (MQ)) [] (#[true, true, true, true, true, true, true, true, true, true, true, true, true, true, true, true, true, true, true, true, true, true, true, true, true, true, true, false, false, false, false, false, false, false, false, false, false, false, false, false, false, false, false, false, false, false, false, false, false, false, false, false, false, false, false, false, false, false, false], [(1, .pointer (some ⟨b17, 0, none⟩)), (32, .int .i64 y97.2), (34, .int .i64 y100.2), (35, .slice u105_0_1 y104.1.length u105_0_2), (36, .int .i64 y104.2), (311, .bool false)]) MQ (rd w105 Y90) := by
 refine gz [27, 28, 29, 30, 31, 32, 33, 34, 35, 36, 37, 38, 39, 40, 41, 42, 43, 44, 45, 46, 47, 48, 49, 50, 51, 52, 53, 54, 55, 56, 57, 58] ?_
 refine gend (fun w136 Y136 B136 j136 => ?_)
 refine zz 2 ?_
 refine zr' (v := .bool false) ?_
 have hob := Option.some.inj hp
 subst hob
 exact ⟨B136.upd, _, rfl, rfl⟩
theorem clearwaylaw24_DynamicsExamples_cut137 (w : World) (X : Hid) (y : Bool) (MQ : List (Nat × Obj)) (Y90 : Hid) (b17 : Nat) (u105_0_1 : Option Addr) (u105_0_2 : Nat) (w105 : World) (y100 : (List Out) × Int) (y104 : (List Out) × Int) (y94 : (List Out) × Int) (y97 : (List Out) × Int)  (hp : (some false) = some y) : Gt (mkG Tryz.prog (bodyPost Tryz.prog Tryz.f5 (Ret E0 w fun w' v => v = .bool y)) Tryz.f5.ntmps w105 ⟨.code (at1 [] Tryz.f5 [1, 1, 1, 1, 1, 1, 1, 1, 1, 1, 1, 1, 1, 1, 1, 1, 1, 1, 1, 1, 1, 0]), at2 [] Tryz.f5 [1, 1, 1, 1, 1, 1, 1, 1, 1, 1, 1, 1, 1, 1, 1, 1, 1, 1, 1, 1, 1, 0], []⟩ w X Y90 (MQ)) [] (#[true, true, true, true, true, true, true, true, true, true, true, true, true, true, true, true, true, true, true, true, true, true, true, false, false, false, false, false, false, false, false, false, false, false, false, false, false, false, false, false, false, false, false, false, false, false, false, false, false, false, false, false, false, false, false, false, false, false, false], [(1, .pointer (some ⟨b17, 0, none⟩)), (30, .int .i64 y94.2), (32, .int .i64 y97.2), (34, .int .i64 y100.2), (35, .slice u105_0_1 y104.1.length u105_0_2), (36, .int .i64 y104.2), (307, .bool false)]) MQ (rd w105 Y90) := by
 refine gz [23, 24, 25, 26, 27, 28, 29, 30, 31, 32, 33, 34, 35, 36, 37, 38, 39, 40, 41, 42, 43, 44, 45, 46, 47, 48, 49, 50, 51, 52, 53, 54, 55, 56, 57, 58] ?_
 refine gend (fun w138 Y138 B138 j138 => ?_)
 refine zz 2 ?_
 refine zr' (v := .bool false) ?_
 have hob := Option.some.inj hp
 subst hob
 exact ⟨B138.upd, _, rfl, rfl⟩
theorem clearwaylaw24_DynamicsExamples_cut139 (w : World) (X : Hid) (y : Bool) (MQ : List (Nat × Obj)) (Y90 : Hid) (b17 : Nat) (u105_0_1 : Option Addr) (u105_0_2 : Nat) (w105 : World) (y100 : (List Out) × Int) (y104 : (List Out) × Int) (y87 : Raw × Int) (y94 : (List Out) × Int) (y97 : (List Out) × Int)  (hp : (some false) = some y) : Gt (mkG Tryz.prog (bodyPost Tryz.prog Tryz.f5 (Ret E0 w fun w' v => v = .bool y)) Tryz.f5.ntmps w105 ⟨.code (at1 [] Tryz.f5 [1, 1, 1, 1, 1, 1, 1, 1, 1, 1, 1, 1, 1, 1, 1, 1, 1, 1, 1, 1, 1, 0]), at2 [] Tryz.f5 [1, 1, 1, 1, 1, 1, 1, 1, 1, 1, 1, 1, 1, 1, 1, 1, 1, 1, 1, 1, 1, 0], []⟩ w X Y90 (MQ)) [] (#[true, true, true, true, true, true, true, true, true, true, true, true, true, true, true, true, true, true, true, false, false, false, false, false, false, false, false, false, false, false, false, false, false, false, false, false, false, false, false, false, false, false, false, false, false, false, false, false, false, false, false, false, false, false, false, false, false, false, false], [(1, .pointer (some ⟨b17, 0, none⟩)), (28, .int .i64 y87.2), (30, .int .i64 y94.2), (32, .int .i64 y97.2), (34, .int .i64 y100.2), (35, .slice u105_0_1 y104.1.length u105_0_2), (36, .int .i64 y104.2), (303, .bool false)]) MQ (rd w105 Y90) := by
 refine gz [19, 20, 21, 22, 23, 24, 25, 26, 27, 28, 29, 30, 31, 32, 33, 34, 35, 36, 37, 38, 39, 40, 41, 42, 43, 44, 45, 46, 47, 48, 49, 50, 51, 52, 53, 54, 55, 56, 57, 58] ?_
 refine gend (fun w140 Y140 B140 j140 => ?_)
 refine zz 2 ?_
 refine zr' (v := .bool false) ?_
 have hob := Option.some.inj hp
 subst hob
 exact ⟨B140.upd, _, rfl, rfl⟩
theorem clearwaylaw24_DynamicsExamples_cut141 (w : World) (X : Hid) (y : Bool) (MQ : List (Nat × Obj)) (Y90 : Hid) (b17 : Nat) (u105_0_1 : Option Addr) (u105_0_2 : Nat) (w105 : World) (y100 : (List Out) × Int) (y104 : (List Out) × Int) (y84 : Int × Int) (y87 : Raw × Int) (y94 : (List Out) × Int) (y97 : (List Out) × Int)  (hp : (some false) = some y) : Gt (mkG Tryz.prog (bodyPost Tryz.prog Tryz.f5 (Ret E0 w fun w' v => v = .bool y)) Tryz.f5.ntmps w105 ⟨.code (at1 [] Tryz.f5 [1, 1, 1, 1, 1, 1, 1, 1, 1, 1, 1, 1, 1, 1, 1, 1, 1, 1, 1, 1, 1, 0]), at2 [] Tryz.f5 [1, 1, 1, 1, 1, 1, 1, 1, 1, 1, 1, 1, 1, 1, 1, 1, 1, 1, 1, 1, 1, 0], []⟩ w X Y90 (MQ)) [] (#[true, true, true, true, true, true, true, true, true, true, true, true, true, true, true, false, false, false, false, false, false, false, false, false, false, false, false, false, false, false, false, false, false, false, false, false, false, false, false, false, false, false, false, false, false, false, false, false, false, false, false, false, false, false, false, false, false, false, false], [(1, .pointer (some ⟨b17, 0, none⟩)), (26, .int .i64 y84.2), (28, .int .i64 y87.2), (30, .int .i64 y94.2), (32, .int .i64 y97.2), (34, .int .i64 y100.2), (35, .slice u105_0_1 y104.1.length u105_0_2), (36, .int .i64 y104.2), (299, .bool false)]) MQ (rd w105 Y90) := by
 refine gz [15, 16, 17, 18, 19, 20, 21, 22, 23, 24, 25, 26, 27, 28, 29, 30, 31, 32, 33, 34, 35, 36, 37, 38, 39, 40, 41, 42, 43, 44, 45, 46, 47, 48, 49, 50, 51, 52, 53, 54, 55, 56, 57, 58] ?_
 refine gend (fun w142 Y142 B142 j142 => ?_)
 refine zz 2 ?_
 refine zr' (v := .bool false) ?_
 have hob := Option.some.inj hp
 subst hob
 exact ⟨B142.upd, _, rfl, rfl⟩
theorem clearwaylaw24_DynamicsExamples_cut143 (w : World) (X : Hid) (y : Bool) (MQ : List (Nat × Obj)) (Y90 : Hid) (b17 : Nat) (u105_0_1 : Option Addr) (u105_0_2 : Nat) (w105 : World) (y100 : (List Out) × Int) (y104 : (List Out) × Int) (y81 : Int × Int) (y84 : Int × Int) (y87 : Raw × Int) (y94 : (List Out) × Int) (y97 : (List Out) × Int)  (hp : (some false) = some y) : Gt (mkG Tryz.prog (bodyPost Tryz.prog Tryz.f5 (Ret E0 w fun w' v => v = .bool y)) Tryz.f5.ntmps w105 ⟨.code (at1 [] Tryz.f5 [1, 1, 1, 1, 1, 1, 1, 1, 1, 1, 1, 1, 1, 1, 1, 1, 1, 1, 1, 1, 1, 0]), at2 [] Tryz.f5 [1, 1, 1, 1, 1, 1, 1, 1, 1, 1, 1, 1, 1, 1, 1, 1, 1, 1, 1, 1, 1, 0], []⟩ w X Y90 (MQ)) [] (#[true, true, true, true, true, true, true, true, true, true, true, false, false, false, false, false, false, false, false, false, false, false, false, false, false, false, false, false, false, false, false, false, false, false, false, false, false, false, false, false, false, false, false, false, false, false, false, false, false, false, false, false, false, false, false, false, false, false, false], [(1, .pointer (some ⟨b17, 0, none⟩)), (24, .int .i64 y81.2), (26, .int .i64 y84.2), (28, .int .i64 y87.2), (30, .int .i64 y94.2), (32, .int .i64 y97.2), (34, .int .i64 y100.2), (35, .slice u105_0_1 y104.1.length u105_0_2), (36, .int .i64 y104.2), (295, .bool false)]) MQ (rd w105 Y90) := by
 refine gz [11, 12, 13, 14, 15, 16, 17, 18, 19, 20, 21, 22, 23, 24, 25, 26, 27, 28, 29, 30, 31, 32, 33, 34, 35, 36, 37, 38, 39, 40, 41, 42, 43, 44, 45, 46, 47, 48, 49, 50, 51, 52, 53, 54, 55, 56, 57, 58] ?_
 refine gend (fun w144 Y144 B144 j144 => ?_)
 refine zz 2 ?_
 refine zr' (v := .bool false) ?_
 have hob := Option.some.inj hp
 subst hob
 exact ⟨B144.upd, _, rfl, rfl⟩
theorem clearwaylaw24_DynamicsExamples_cut145 (w : World) (X : Hid) (y : Bool) (MQ : List (Nat × Obj)) (Y90 : Hid) (b17 : Nat) (u105_0_1 : Option Addr) (u105_0_2 : Nat) (w105 : World) (y100 : (List Out) × Int) (y104 : (List Out) × Int) (y77 : Int × Int × Int) (y81 : Int × Int) (y84 : Int × Int) (y87 : Raw × Int) (y94 : (List Out) × Int) (y97 : (List Out) × Int)  (hp : (some false) = some y) : Gt (mkG Tryz.prog (bodyPost Tryz.prog Tryz.f5 (Ret E0 w fun w' v => v = .bool y)) Tryz.f5.ntmps w105 ⟨.code (at1 [] Tryz.f5 [1, 1, 1, 1, 1, 1, 1, 1, 1, 1, 1, 1, 1, 1, 1, 1, 1, 1, 1, 1, 1, 0]), at2 [] Tryz.f5 [1, 1, 1, 1, 1, 1, 1, 1, 1, 1, 1, 1, 1, 1, 1, 1, 1, 1, 1, 1, 1, 0], []⟩ w X Y90 (MQ)) [] (#[true, true, true, true, true, true, true, false, false, false, false, false, false, false, false, false, false, false, false, false, false, false, false, false, false, false, false, false, false, false, false, false, false, false, false, false, false, false, false, false, false, false, false, false, false, false, false, false, false, false, false, false, false, false, false, false, false, false, false], [(1, .pointer (some ⟨b17, 0, none⟩)), (22, .int .i64 y77.2.2), (24, .int .i64 y81.2), (26, .int .i64 y84.2), (28, .int .i64 y87.2), (30, .int .i64 y94.2), (32, .int .i64 y97.2), (34, .int .i64 y100.2), (35, .slice u105_0_1 y104.1.length u105_0_2), (36, .int .i64 y104.2), (291, .bool false)]) MQ (rd w105 Y90) := by
 refine gz [7, 8, 9, 10, 11, 12, 13, 14, 15, 16, 17, 18, 19, 20, 21, 22, 23, 24, 25, 26, 27, 28, 29, 30, 31, 32, 33, 34, 35, 36, 37, 38, 39, 40, 41, 42, 43, 44, 45, 46, 47, 48, 49, 50, 51, 52, 53, 54, 55, 56, 57, 58] ?_
 refine gend (fun w146 Y146 B146 j146 => ?_)
 refine zz 2 ?_
 refine zr' (v := .bool false) ?_
 have hob := Option.some.inj hp
 subst hob
 exact ⟨B146.upd, _, rfl, rfl⟩
theorem clearwaylaw24_DynamicsExamples_cut147 (w : World) (X : Hid) (y : Bool) (MQ : List (Nat × Obj)) (Y90 : Hid) (b17 : Nat) (u105_0_1 : Option Addr) (u105_0_2 : Nat) (w105 : World) (y100 : (List Out) × Int) (y104 : (List Out) × Int) (y74 : Int × Int) (y77 : Int × Int × Int) (y81 : Int × Int) (y84 : Int × Int) (y87 : Raw × Int) (y94 : (List Out) × Int) (y97 : (List Out) × Int)  (hp : (some false) = some y) : Gt (mkG Tryz.prog (bodyPost Tryz.prog Tryz.f5 (Ret E0 w fun w' v => v = .bool y)) Tryz.f5.ntmps w105 ⟨.code (at1 [] Tryz.f5 [1, 1, 1, 1, 1, 1, 1, 1, 1, 1, 1, 1, 1, 1, 1, 1, 1, 1, 1, 1, 1, 0]), at2 [] Tryz.f5 [1, 1, 1, 1, 1, 1, 1, 1, 1, 1, 1, 1, 1, 1, 1, 1, 1, 1, 1, 1, 1, 0], []⟩ w X Y90 (MQ)) [] (#[true, true, true, false, false, false, false, false, false, false, false, false, false, false, false, false, false, false, false, false, false, false, false, false, false, false, false, false, false, false, false, false, false, false, false, false, false, false, false, false, false, false, false, false, false, false, false, false, false, false, false, false, false, false, false, false, false, false, false], [(1, .pointer (some ⟨b17, 0, none⟩)), (19, .int .i64 y74.2), (22, .int .i64 y77.2.2), (24, .int .i64 y81.2), (26, .int .i64 y84.2), (28, .int .i64 y87.2), (30, .int .i64 y94.2), (32, .int .i64 y97.2), (34, .int .i64 y100.2), (35, .slice u105_0_1 y104.1.length u105_0_2), (36, .int .i64 y104.2), (287, .bool false)]) MQ (rd w105 Y90) := by
 refine gz [3, 4, 5, 6, 7, 8, 9, 10, 11, 12, 13, 14, 15, 16, 17, 18, 19, 20, 21, 22, 23, 24, 25, 26, 27, 28, 29, 30, 31, 32, 33, 34, 35, 36, 37, 38, 39, 40, 41, 42, 43, 44, 45, 46, 47, 48, 49, 50, 51, 52, 53, 54, 55, 56, 57, 58] ?_
 refine gend (fun w148 Y148 B148 j148 => ?_)
 refine zz 2 ?_
 refine zr' (v := .bool false) ?_
 have hob := Option.some.inj hp
 subst hob
 exact ⟨B148.upd, _, rfl, rfl⟩
theorem clearwaylaw24_DynamicsExamples_cut106 (w : World) (X : Hid) (y : Bool) (Y90 : Hid) (ad37 : Option Addr) (b17 : Nat) (b19 : Nat) (b26 : Nat) (b33 : Nat) (b40 : Nat) (b43 : Nat) (b45 : Nat) (b52 : Nat) (b54 : Nat) (b56 : Nat) (b58 : Nat) (b90 : Nat) (cap37 : Nat) (u105_0_1 : Option Addr) (u105_0_2 : Nat) (u15_0_1 : Option Addr) (u15_0_3 : Nat) (u15_0_4 : Option Addr) (u15_0_6 : Nat) (u24_0_1 : Option Addr) (u24_0_3 : Nat) (u24_0_4 : Option Addr) (u24_0_6 : Nat) (u88_0_1 : Option Addr) (u88_0_3 : Nat) (u88_0_4 : Option Addr) (u88_0_6 : Nat) (w105 : World) (y100 : (List Out) × Int) (y104 : (List Out) × Int) (y14 : Raw) (y23 : Raw × Int) (y71 : Int × Int) (y74 : Int × Int) (y77 : Int × Int × Int) (y81 : Int × Int) (y84 : Int × Int) (y87 : Raw × Int) (y94 : (List Out) × Int) (y97 : (List Out) × Int) (B105 : St E0 w X w105 Y90 [(b90, .cells #[.bool y87.1.neg, .slice u88_0_1 y87.1.ln.length u88_0_3, .slice u88_0_4 y87.1.ld.length u88_0_6] 28 (0, 0)), (b58, .cells #[.slice (some ⟨b52, 0, none⟩) 1 1, .slice (some ⟨b54, 0, none⟩) 1 1, .slice (some ⟨b56, 0, none⟩) 1 1, .slice (some ⟨b45, 0, none⟩) 2 2, .int .i64 0, .int .i64 0, .int .i64 0, .slice (some ⟨b43, 0, none⟩) 1 1, .slice (some ⟨b43, 0, none⟩) 1 1, .bool false, .slice none 0 0, .slice none 0 0, .bool false, .slice none 0 0, .slice none 0 0, .bool false, .slice none 0 0, .slice none 0 0] 30 (0, 0)), (b40, .cells #[.bool false, .slice ad37 (8 + 1) cap37, .slice none 0 0] 28 (0, 0)), (b33, .cells #[.int .u32 1] 56 (0, 0)), (b26, .cells #[.bool y23.1.neg, .slice u24_0_1 y23.1.ln.length u24_0_3, .slice u24_0_4 y23.1.ld.length u24_0_6] 28 (0, 0)), (b19, .cells #[.bool true, .slice none 0 0, .slice none 0 0] 28 (0, 0)), (b17, .cells #[.bool y14.neg, .slice u15_0_1 y14.ln.length u15_0_3, .slice u15_0_4 y14.ld.length u15_0_6] 28 (0, 0))]) (hk106_1 : OutsR (rd w105 (orN Y90 w.heap.size)) u105_0_1 y104.1.length u105_0_2 y104.1) (hk106_16 : Limbs (rd w105 (orN Y90 w.heap.size)) u15_0_4 y14.ld.length u15_0_6 y14.ld) (hk106_17 : Limbs (rd w105 (orN Y90 w.heap.size)) u15_0_1 y14.ln.length u15_0_3 y14.ln) (hp : (if ((y71.2) == 8) = true then (if ((y74.2) == 8) = true then (if ((y77.2.2) == 8) = true then (if ((y81.2) == 1) = true then (if ((y84.2) == 8) = true then (if ((y87.2) == 8) = true then (if ((y94.2) == 1) = true then (if ((y97.2) == 1) = true then (if ((y100.2) == 8) = true then (if ((y104.2) == 0) = true then (if ((y104.1.length : Int) == 1) = true then ((ix y104.1 (0 : Int)).bind fun x118 => if ((x118.to) == 1) = true then ((clearwaykit_EqualRat_p x118.p y14).bind fun y122 => some y122) else (some false)) else (some false)) else (some false)) else (some false)) else (some false)) else (some false)) else (some false)) else (some false)) else (some false)) else (some false)) else (some false)) else (some false)) = some y) : Go none 0 Tryz.prog (bodyPost Tryz.prog Tryz.f5 (Ret E0 w fun w' v => v = .bool y)) Tryz.f5.ntmps [] w105 ⟨.code (at1 [] Tryz.f5 [1, 1, 1, 1, 1, 1, 1, 1, 1, 1, 1, 1, 1, 1, 1, 1, 1, 1, 1, 1, 1]), at2 [] Tryz.f5 [1, 1, 1, 1, 1, 1, 1, 1, 1, 1, 1, 1, 1, 1, 1, 1, 1, 1, 1, 1, 1], [(1, .pointer (some ⟨b17, 0, none⟩)), (17, .int .i64 y71.2), (19, .int .i64 y74.2), (22, .int .i64 y77.2.2), (24, .int .i64 y81.2), (26, .int .i64 y84.2), (28, .int .i64 y87.2), (30, .int .i64 y94.2), (32, .int .i64 y97.2), (34, .int .i64 y100.2), (35, .slice u105_0_1 y104.1.length u105_0_2), (36, .int .i64 y104.2)]⟩ := by
 refine zz 1 ?_
 refine zN ⟨.code (at1 [] Tryz.f5 [1, 1, 1, 1, 1, 1, 1, 1, 1, 1, 1, 1, 1, 1, 1, 1, 1, 1, 1, 1, 1, 0]), at2 [] Tryz.f5 [1, 1, 1, 1, 1, 1, 1, 1, 1, 1, 1, 1, 1, 1, 1, 1, 1, 1, 1, 1, 1, 0], [(1, .pointer (some ⟨b17, 0, none⟩)), (17, .int .i64 y71.2), (19, .int .i64 y74.2), (22, .int .i64 y77.2.2), (24, .int .i64 y81.2), (26, .int .i64 y84.2), (28, .int .i64 y87.2), (30, .int .i64 y94.2), (32, .int .i64 y97.2), (34, .int .i64 y100.2), (35, .slice u105_0_1 y104.1.length u105_0_2), (36, .int .i64 y104.2)]⟩ ?_
 refine zdr B105 ?_
 refine gz [0, 1, 2] ?_
 refine gb 287 (b := ((y71.2) == 8)) (fun hc107 => ?_) (fun hc107 => ?_)
 ·
  have hp := ipb hc107 hp
  refine gz [3, 4, 5, 6] ?_
  refine gb 291 (b := ((y74.2) == 8)) (fun hc108 => ?_) (fun hc108 => ?_)
  ·
   have hp := ipb hc108 hp
   refine gz [7, 8, 9, 10] ?_
   refine gb 295 (b := ((y77.2.2) == 8)) (fun hc109 => ?_) (fun hc109 => ?_)
   ·
    have hp := ipb hc109 hp
    refine gz [11, 12, 13, 14] ?_
    refine gb 299 (b := ((y81.2) == 1)) (fun hc110 => ?_) (fun hc110 => ?_)
    ·
     have hp := ipb hc110 hp
     refine gz [15, 16, 17, 18] ?_
     refine gb 303 (b := ((y84.2) == 8)) (fun hc111 => ?_) (fun hc111 => ?_)
     ·
      have hp := ipb hc111 hp
      refine gz [19, 20, 21, 22] ?_
      refine gb 307 (b := ((y87.2) == 8)) (fun hc112 => ?_) (fun hc112 => ?_)
      ·
       have hp := ipb hc112 hp
       refine gz [23, 24, 25, 26] ?_
       refine gb 311 (b := ((y94.2) == 1)) (fun hc113 => ?_) (fun hc113 => ?_)
       ·
        have hp := ipb hc113 hp
        refine gz [27, 28, 29, 30] ?_
        refine gb 315 (b := ((y97.2) == 1)) (fun hc114 => ?_) (fun hc114 => ?_)
        ·
         have hp := ipb hc114 hp
         refine gz [31, 32, 33, 34] ?_
         refine gb 319 (b := ((y100.2) == 8)) (fun hc115 => ?_) (fun hc115 => ?_)
         ·
          have hp := ipb hc115 hp
          refine gz [35, 36, 37, 38] ?_
          refine gb 323 (b := ((y104.2) == 0)) (fun hc116 => ?_) (fun hc116 => ?_)
          ·
           have hp := ipb hc116 hp
           refine gz [39, 40, 41, 42, 43] ?_
           refine gb 328 (b := ((y104.1.length : Int) == 1)) (fun hc117 => ?_) (fun hc117 => ?_)
           ·
            have hp := ipb hc117 hp
            refine bndk hp fun x118 hx118 hp => ?_
            have hob := ix_some hx118
            obtain ⟨hzx118, hqx118⟩ := hob
            have hwx118 : y104.1[0]? = some x118 := hqx118
            have hob := (hk106_1.mono Le.orl).opn hwx118
            obtain ⟨be119, oe119, rfl, j119, hEe119⟩ := hob
            obtain ⟨e1191, e1192, e1193, e1194, e1195, e1196, e119_at, e119_h0, e119_h1⟩ := hEe119
            have hob := e119_h0.hlen
            subst hob
            have hob := e119_h1.hlen
            subst hob
            refine gz [44] ?_
            refine gi 45 (b := be119) (off := oe119) (len := y104.1.length) (cap := u105_0_2) (kd := .i64) (i := 0) 4 (oe119 + 0 * 4) ?_ (h0 := hzx118) (h1 := (ix_b hzx118 j119))
            refine gz [46] ?_
            refine gl 47 (e119_at.sub 0 1) ?_
            refine gz [48, 49, 50] ?_
            refine gb 335 (b := ((x118.to) == 1)) (fun hc120 => ?_) (fun hc120 => ?_)
            ·
             have hp := ipb hc120 hp
             refine gz [51] ?_
             refine gi 52 (b := be119) (off := oe119) (len := y104.1.length) (cap := u105_0_2) (kd := .i64) (i := 0) 4 (oe119 + 0 * 4) ?_ (h0 := hzx118) (h1 := (ix_b hzx118 j119))
             refine gz [53] ?_
             refine gl 54 (e119_at.sub 1 3) ?_
             refine gw 55 6 ?_
             refine bndk hp fun y122 hy122 hp => ?_
             refine gC 56 (fun w121 Y121 _ B121 j121 => (clearwaykit_EqualRat_c _ X0 (X0_lt _) x118.p _ ⟨_, _, _, _, _, _, rfl, ((e119_h0.mono j121).mono Le.x0), ((e119_h1.mono j121).mono Le.x0)⟩ y14 _ ⟨_, _, _, _, _, _, rfl, (((hk106_17.mono Le.orl).mono j121).mono Le.x0), (((hk106_16.mono Le.orl).mono j121).mono Le.x0)⟩ y122 hy122)) ?_
             rintro v123 w121 Y123 w123 B121 j123 rfl
             refine gz [57, 58] ?_
             refine gend (fun w124 Y124 B124 j124 => ?_)
             refine zz 2 ?_
             refine zr' (v := .bool y122) ?_
             have hob := Option.some.inj hp
             subst hob
             exact ⟨B124.upd, _, rfl, rfl⟩
            have hp := iqb hc120 hp
            exact gN (clearwaylaw24_DynamicsExamples_cut125 w X y _ Y90 b17 be119 oe119 u105_0_2 w105 y104  hp)
           have hp := iqb hc117 hp
           exact gN (clearwaylaw24_DynamicsExamples_cut127 w X y _ Y90 b17 u105_0_1 u105_0_2 w105 y104  hp)
          have hp := iqb hc116 hp
          exact gN (clearwaylaw24_DynamicsExamples_cut129 w X y _ Y90 b17 u105_0_1 u105_0_2 w105 y104  hp)
         have hp := iqb hc115 hp
         exact gN (clearwaylaw24_DynamicsExamples_cut131 w X y _ Y90 b17 u105_0_1 u105_0_2 w105 y104  hp)
        have hp := iqb hc114 hp
        exact gN (clearwaylaw24_DynamicsExamples_cut133 w X y _ Y90 b17 u105_0_1 u105_0_2 w105 y100 y104  hp)
       have hp := iqb hc113 hp
       exact gN (clearwaylaw24_DynamicsExamples_cut135 w X y _ Y90 b17 u105_0_1 u105_0_2 w105 y100 y104 y97  hp)
      have hp := iqb hc112 hp
      exact gN (clearwaylaw24_DynamicsExamples_cut137 w X y _ Y90 b17 u105_0_1 u105_0_2 w105 y100 y104 y94 y97  hp)
     have hp := iqb hc111 hp
     exact gN (clearwaylaw24_DynamicsExamples_cut139 w X y _ Y90 b17 u105_0_1 u105_0_2 w105 y100 y104 y87 y94 y97  hp)
    have hp := iqb hc110 hp
    exact gN (clearwaylaw24_DynamicsExamples_cut141 w X y _ Y90 b17 u105_0_1 u105_0_2 w105 y100 y104 y84 y87 y94 y97  hp)
   have hp := iqb hc109 hp
   exact gN (clearwaylaw24_DynamicsExamples_cut143 w X y _ Y90 b17 u105_0_1 u105_0_2 w105 y100 y104 y81 y84 y87 y94 y97  hp)
  have hp := iqb hc108 hp
  exact gN (clearwaylaw24_DynamicsExamples_cut145 w X y _ Y90 b17 u105_0_1 u105_0_2 w105 y100 y104 y77 y81 y84 y87 y94 y97  hp)
 have hp := iqb hc107 hp
 exact gN (clearwaylaw24_DynamicsExamples_cut147 w X y _ Y90 b17 u105_0_1 u105_0_2 w105 y100 y104 y74 y77 y81 y84 y87 y94 y97  hp)
theorem clearwaylaw24_DynamicsExamples_cut102 (w : World) (X : Hid) (y : Bool) (Y90 : Hid) (ad37 : Option Addr) (b17 : Nat) (b19 : Nat) (b26 : Nat) (b33 : Nat) (b40 : Nat) (b43 : Nat) (b45 : Nat) (b52 : Nat) (b54 : Nat) (b56 : Nat) (b58 : Nat) (b90 : Nat) (cap37 : Nat) (u15_0_1 : Option Addr) (u15_0_3 : Nat) (u15_0_4 : Option Addr) (u15_0_6 : Nat) (u24_0_1 : Option Addr) (u24_0_3 : Nat) (u24_0_4 : Option Addr) (u24_0_6 : Nat) (u88_0_1 : Option Addr) (u88_0_3 : Nat) (u88_0_4 : Option Addr) (u88_0_6 : Nat) (w101 : World) (y100 : (List Out) × Int) (y14 : Raw) (y23 : Raw × Int) (y71 : Int × Int) (y74 : Int × Int) (y77 : Int × Int × Int) (y81 : Int × Int) (y84 : Int × Int) (y87 : Raw × Int) (y94 : (List Out) × Int) (y97 : (List Out) × Int) (B101 : St E0 w X w101 Y90 [(b90, .cells #[.bool y87.1.neg, .slice u88_0_1 y87.1.ln.length u88_0_3, .slice u88_0_4 y87.1.ld.length u88_0_6] 28 (0, 0)), (b58, .cells #[.slice (some ⟨b52, 0, none⟩) 1 1, .slice (some ⟨b54, 0, none⟩) 1 1, .slice (some ⟨b56, 0, none⟩) 1 1, .slice (some ⟨b45, 0, none⟩) 2 2, .int .i64 0, .int .i64 0, .int .i64 0, .slice (some ⟨b43, 0, none⟩) 1 1, .slice (some ⟨b43, 0, none⟩) 1 1, .bool false, .slice none 0 0, .slice none 0 0, .bool false, .slice none 0 0, .slice none 0 0, .bool false, .slice none 0 0, .slice none 0 0] 30 (0, 0)), (b40, .cells #[.bool false, .slice ad37 (8 + 1) cap37, .slice none 0 0] 28 (0, 0)), (b33, .cells #[.int .u32 1] 56 (0, 0)), (b26, .cells #[.bool y23.1.neg, .slice u24_0_1 y23.1.ln.length u24_0_3, .slice u24_0_4 y23.1.ld.length u24_0_6] 28 (0, 0)), (b19, .cells #[.bool true, .slice none 0 0, .slice none 0 0] 28 (0, 0)), (b17, .cells #[.bool y14.neg, .slice u15_0_1 y14.ln.length u15_0_3, .slice u15_0_4 y14.ld.length u15_0_6] 28 (0, 0))]) (hk102_6 : Ints (rd w101 (orN Y90 w.heap.size)) (some ⟨b52, 0, none⟩) 1 1 ([0])) (hk102_7 : Ints (rd w101 (orN Y90 w.heap.size)) (some ⟨b54, 0, none⟩) 1 1 ([0])) (hk102_8 : Ints (rd w101 (orN Y90 w.heap.size)) (some ⟨b56, 0, none⟩) 1 1 ([0])) (hk102_9 : BoundsDS (rd w101 (orN Y90 w.heap.size)) (some ⟨b45, 0, none⟩) 2 2 ([(BoundsD.mk 0 0 0), (BoundsD.mk 1 0 5)])) (hk102_10 : NoiseDS (rd w101 (orN Y90 w.heap.size)) (some ⟨b43, 0, none⟩) 1 1 ([(NoiseD.mk 0 y14)])) (hk102_15 : Limbs (rd w101 (orN Y90 w.heap.size)) u15_0_4 y14.ld.length u15_0_6 y14.ld) (hk102_16 : Limbs (rd w101 (orN Y90 w.heap.size)) u15_0_1 y14.ln.length u15_0_3 y14.ln) (hp : ((dynamics_Spread_p (ModelD.mk ([0]) ([0]) ([0]) ([(BoundsD.mk 0 0 0), (BoundsD.mk 1 0 5)]) 0 0 0 ([(NoiseD.mk 0 y14)]) ([(NoiseD.mk 0 y14)]) Raw.zero Raw.zero Raw.zero) (100000 : Int) (100 : Int) (-100) (1 : Int)).bind fun y104 => if ((y71.2) == 8) = true then (if ((y74.2) == 8) = true then (if ((y77.2.2) == 8) = true then (if ((y81.2) == 1) = true then (if ((y84.2) == 8) = true then (if ((y87.2) == 8) = true then (if ((y94.2) == 1) = true then (if ((y97.2) == 1) = true then (if ((y100.2) == 8) = true then (if ((y104.2) == 0) = true then (if ((y104.1.length : Int) == 1) = true then ((ix y104.1 (0 : Int)).bind fun x118 => if ((x118.to) == 1) = true then ((clearwaykit_EqualRat_p x118.p y14).bind fun y122 => some y122) else (some false)) else (some false)) else (some false)) else (some false)) else (some false)) else (some false)) else (some false)) else (some false)) else (some false)) else (some false)) else (some false)) else (some false)) = some y) : Go none 0 Tryz.prog (bodyPost Tryz.prog Tryz.f5 (Ret E0 w fun w' v => v = .bool y)) Tryz.f5.ntmps [] w101 ⟨.code (at1 [] Tryz.f5 [1, 1, 1, 1, 1, 1, 1, 1, 1, 1, 1, 1, 1, 1, 1, 1, 1, 1, 1, 1]), at2 [] Tryz.f5 [1, 1, 1, 1, 1, 1, 1, 1, 1, 1, 1, 1, 1, 1, 1, 1, 1, 1, 1, 1], [(1, .pointer (some ⟨b17, 0, none⟩)), (10, .pointer (some ⟨b58, 0, none⟩)), (17, .int .i64 y71.2), (19, .int .i64 y74.2), (22, .int .i64 y77.2.2), (24, .int .i64 y81.2), (26, .int .i64 y84.2), (28, .int .i64 y87.2), (30, .int .i64 y94.2), (32, .int .i64 y97.2), (34, .int .i64 y100.2)]⟩ := by
 refine zz 2 ?_
 refine zo 1 B101 ?_
 refine bndk hp fun y104 hy104 hp => ?_
 refine zc B101 (dynamics_Spread_c _ X0 (X0_lt _) (ModelD.mk ([0]) ([0]) ([0]) ([(BoundsD.mk 0 0 0), (BoundsD.mk 1 0 5)]) 0 0 0 ([(NoiseD.mk 0 y14)]) ([(NoiseD.mk 0 y14)]) Raw.zero Raw.zero Raw.zero) _ ⟨_, _, _, _, _, _, _, _, _, _, _, _, _, _, _, _, _, _, _, _, _, _, _, _, rfl, ((hk102_6.mono Le.orl).mono Le.x0), ((hk102_7.mono Le.orl).mono Le.x0), ((hk102_8.mono Le.orl).mono Le.x0), ((hk102_9.mono Le.orl).mono Le.x0), ((hk102_10.mono Le.orl).mono Le.x0), ((hk102_10.mono Le.orl).mono Le.x0), Limbs.nil0, Limbs.nil0, Limbs.nil0, Limbs.nil0, Limbs.nil0, Limbs.nil0⟩ (100000 : Int) (100 : Int) (-100) (1 : Int) y104 hy104) ?_ (vs := #[.agg #[.slice (some ⟨b52, 0, none⟩) 1 1, .slice (some ⟨b54, 0, none⟩) 1 1, .slice (some ⟨b56, 0, none⟩) 1 1, .slice (some ⟨b45, 0, none⟩) 2 2, .int .i64 0, .int .i64 0, .int .i64 0, .slice (some ⟨b43, 0, none⟩) 1 1, .slice (some ⟨b43, 0, none⟩) 1 1, .bool false, .slice none 0 0, .slice none 0 0, .bool false, .slice none 0 0, .slice none 0 0, .bool false, .slice none 0 0, .slice none 0 0], .int .i64 100000, .int .i64 100, .int .i64 (-100), .int .i64 1])
 rintro v105 w105 B105 j105 hu105 ⟨uu105_0, rfl, ⟨u105_0_1, u105_0_2, rfl, u105_0__h0⟩⟩
 refine zz 7 ?_
 refine zN ⟨.code (at1 [] Tryz.f5 [1, 1, 1, 1, 1, 1, 1, 1, 1, 1, 1, 1, 1, 1, 1, 1, 1, 1, 1, 1, 1]), at2 [] Tryz.f5 [1, 1, 1, 1, 1, 1, 1, 1, 1, 1, 1, 1, 1, 1, 1, 1, 1, 1, 1, 1, 1], [(1, .pointer (some ⟨b17, 0, none⟩)), (17, .int .i64 y71.2), (19, .int .i64 y74.2), (22, .int .i64 y77.2.2), (24, .int .i64 y81.2), (26, .int .i64 y84.2), (28, .int .i64 y87.2), (30, .int .i64 y94.2), (32, .int .i64 y97.2), (34, .int .i64 y100.2), (35, .slice u105_0_1 y104.1.length u105_0_2), (36, .int .i64 y104.2)]⟩ ?_
 exact clearwaylaw24_DynamicsExamples_cut106 w X y Y90 ad37 b17 b19 b26 b33 b40 b43 b45 b52 b54 b56 b58 b90 cap37 u105_0_1 u105_0_2 u15_0_1 u15_0_3 u15_0_4 u15_0_6 u24_0_1 u24_0_3 u24_0_4 u24_0_6 u88_0_1 u88_0_3 u88_0_4 u88_0_6 w105 y100 y104 y14 y23 y71 y74 y77 y81 y84 y87 y94 y97 B105 (u105_0__h0.mono (Le.own B101.lt B101.upd.size (Le.refl _))) (hk102_15.mono (Le.or j105 _)) (hk102_16.mono (Le.or j105 _)) hp
theorem clearwaylaw24_DynamicsExamples_cut92 (w : World) (X : Hid) (y : Bool) (Y90 : Hid) (ad37 : Option Addr) (b17 : Nat) (b19 : Nat) (b26 : Nat) (b33 : Nat) (b40 : Nat) (b43 : Nat) (b45 : Nat) (b52 : Nat) (b54 : Nat) (b56 : Nat) (b58 : Nat) (b90 : Nat) (cap37 : Nat) (u15_0_1 : Option Addr) (u15_0_3 : Nat) (u15_0_4 : Option Addr) (u15_0_6 : Nat) (u24_0_1 : Option Addr) (u24_0_3 : Nat) (u24_0_4 : Option Addr) (u24_0_6 : Nat) (u88_0_1 : Option Addr) (u88_0_3 : Nat) (u88_0_4 : Option Addr) (u88_0_6 : Nat) (w91 : World) (y14 : Raw) (y23 : Raw × Int) (y71 : Int × Int) (y74 : Int × Int) (y77 : Int × Int × Int) (y81 : Int × Int) (y84 : Int × Int) (y87 : Raw × Int) (B91 : St E0 w X w91 Y90 [(b90, .cells #[.bool y87.1.neg, .slice u88_0_1 y87.1.ln.length u88_0_3, .slice u88_0_4 y87.1.ld.length u88_0_6] 28 (0, 0)), (b58, .cells #[.slice (some ⟨b52, 0, none⟩) 1 1, .slice (some ⟨b54, 0, none⟩) 1 1, .slice (some ⟨b56, 0, none⟩) 1 1, .slice (some ⟨b45, 0, none⟩) 2 2, .int .i64 0, .int .i64 0, .int .i64 0, .slice (some ⟨b43, 0, none⟩) 1 1, .slice (some ⟨b43, 0, none⟩) 1 1, .bool false, .slice none 0 0, .slice none 0 0, .bool false, .slice none 0 0, .slice none 0 0, .bool false, .slice none 0 0, .slice none 0 0] 30 (0, 0)), (b40, .cells #[.bool false, .slice ad37 (8 + 1) cap37, .slice none 0 0] 28 (0, 0)), (b33, .cells #[.int .u32 1] 56 (0, 0)), (b26, .cells #[.bool y23.1.neg, .slice u24_0_1 y23.1.ln.length u24_0_3, .slice u24_0_4 y23.1.ld.length u24_0_6] 28 (0, 0)), (b19, .cells #[.bool true, .slice none 0 0, .slice none 0 0] 28 (0, 0)), (b17, .cells #[.bool y14.neg, .slice u15_0_1 y14.ln.length u15_0_3, .slice u15_0_4 y14.ld.length u15_0_6] 28 (0, 0))]) (hk92_3 : Ints (rd w91 (orN Y90 w.heap.size)) (some ⟨b52, 0, none⟩) 1 1 ([0])) (hk92_4 : Ints (rd w91 (orN Y90 w.heap.size)) (some ⟨b54, 0, none⟩) 1 1 ([0])) (hk92_5 : Ints (rd w91 (orN Y90 w.heap.size)) (some ⟨b56, 0, none⟩) 1 1 ([0])) (hk92_6 : BoundsDS (rd w91 (orN Y90 w.heap.size)) (some ⟨b45, 0, none⟩) 2 2 ([(BoundsD.mk 0 0 0), (BoundsD.mk 1 0 5)])) (hk92_7 : NoiseDS (rd w91 (orN Y90 w.heap.size)) (some ⟨b43, 0, none⟩) 1 1 ([(NoiseD.mk 0 y14)])) (hk92_12 : Limbs (rd w91 (orN Y90 w.heap.size)) u15_0_4 y14.ld.length u15_0_6 y14.ld) (hk92_13 : Limbs (rd w91 (orN Y90 w.heap.size)) u15_0_1 y14.ln.length u15_0_3 y14.ln) (hp : ((dynamics_Spread_p (ModelD.mk ([0]) ([0]) ([0]) ([(BoundsD.mk 0 0 0), (BoundsD.mk 1 0 5)]) 0 0 0 ([(NoiseD.mk 0 y14)]) ([(NoiseD.mk 0 y14)]) Raw.zero Raw.zero Raw.zero) (100001 : Int) (0 : Int) (0 : Int) (9 : Int)).bind fun y94 => (dynamics_Spread_p (ModelD.mk ([0]) ([0]) ([0]) ([(BoundsD.mk 0 0 0), (BoundsD.mk 1 0 5)]) 0 0 0 ([(NoiseD.mk 0 y14)]) ([(NoiseD.mk 0 y14)]) Raw.zero Raw.zero Raw.zero) (100000 : Int) (0 : Int) (101 : Int) (9 : Int)).bind fun y97 => (dynamics_Spread_p (ModelD.mk ([0]) ([0]) ([0]) ([(BoundsD.mk 0 0 0), (BoundsD.mk 1 0 5)]) 0 0 0 ([(NoiseD.mk 0 y14)]) ([(NoiseD.mk 0 y14)]) Raw.zero Raw.zero Raw.zero) (100000 : Int) (100 : Int) (-100) (2 : Int)).bind fun y100 => (dynamics_Spread_p (ModelD.mk ([0]) ([0]) ([0]) ([(BoundsD.mk 0 0 0), (BoundsD.mk 1 0 5)]) 0 0 0 ([(NoiseD.mk 0 y14)]) ([(NoiseD.mk 0 y14)]) Raw.zero Raw.zero Raw.zero) (100000 : Int) (100 : Int) (-100) (1 : Int)).bind fun y104 => if ((y71.2) == 8) = true then (if ((y74.2) == 8) = true then (if ((y77.2.2) == 8) = true then (if ((y81.2) == 1) = true then (if ((y84.2) == 8) = true then (if ((y87.2) == 8) = true then (if ((y94.2) == 1) = true then (if ((y97.2) == 1) = true then (if ((y100.2) == 8) = true then (if ((y104.2) == 0) = true then (if ((y104.1.length : Int) == 1) = true then ((ix y104.1 (0 : Int)).bind fun x118 => if ((x118.to) == 1) = true then ((clearwaykit_EqualRat_p x118.p y14).bind fun y122 => some y122) else (some false)) else (some false)) else (some false)) else (some false)) else (some false)) else (some false)) else (some false)) else (some false)) else (some false)) else (some false)) else (some false)) else (some false)) = some y) : Go none 0 Tryz.prog (bodyPost Tryz.prog Tryz.f5 (Ret E0 w fun w' v => v = .bool y)) Tryz.f5.ntmps [] w91 ⟨.code (at1 [] Tryz.f5 [1, 1, 1, 1, 1, 1, 1, 1, 1, 1, 1, 1, 1, 1, 1, 1, 1]), at2 [] Tryz.f5 [1, 1, 1, 1, 1, 1, 1, 1, 1, 1, 1, 1, 1, 1, 1, 1, 1], [(1, .pointer (some ⟨b17, 0, none⟩)), (10, .pointer (some ⟨b58, 0, none⟩)), (17, .int .i64 y71.2), (19, .int .i64 y74.2), (22, .int .i64 y77.2.2), (24, .int .i64 y81.2), (26, .int .i64 y84.2), (28, .int .i64 y87.2)]⟩ := by
 refine zz 2 ?_
 refine zo 1 B91 ?_
 refine bndk hp fun y94 hy94 hp => ?_
 refine zc B91 (dynamics_Spread_c _ X0 (X0_lt _) (ModelD.mk ([0]) ([0]) ([0]) ([(BoundsD.mk 0 0 0), (BoundsD.mk 1 0 5)]) 0 0 0 ([(NoiseD.mk 0 y14)]) ([(NoiseD.mk 0 y14)]) Raw.zero Raw.zero Raw.zero) _ ⟨_, _, _, _, _, _, _, _, _, _, _, _, _, _, _, _, _, _, _, _, _, _, _, _, rfl, ((hk92_3.mono Le.orl).mono Le.x0), ((hk92_4.mono Le.orl).mono Le.x0), ((hk92_5.mono Le.orl).mono Le.x0), ((hk92_6.mono Le.orl).mono Le.x0), ((hk92_7.mono Le.orl).mono Le.x0), ((hk92_7.mono Le.orl).mono Le.x0), Limbs.nil0, Limbs.nil0, Limbs.nil0, Limbs.nil0, Limbs.nil0, Limbs.nil0⟩ (100001 : Int) (0 : Int) (0 : Int) (9 : Int) y94 hy94) ?_ (vs := #[.agg #[.slice (some ⟨b52, 0, none⟩) 1 1, .slice (some ⟨b54, 0, none⟩) 1 1, .slice (some ⟨b56, 0, none⟩) 1 1, .slice (some ⟨b45, 0, none⟩) 2 2, .int .i64 0, .int .i64 0, .int .i64 0, .slice (some ⟨b43, 0, none⟩) 1 1, .slice (some ⟨b43, 0, none⟩) 1 1, .bool false, .slice none 0 0, .slice none 0 0, .bool false, .slice none 0 0, .slice none 0 0, .bool false, .slice none 0 0, .slice none 0 0], .int .i64 100001, .int .i64 0, .int .i64 0, .int .i64 9])
 rintro v95 w95 B95 j95 hu95 ⟨uu95_0, rfl, ⟨u95_0_1, u95_0_2, rfl, u95_0__h0⟩⟩
 refine zz 9 ?_
 refine zo 1 B95 ?_
 refine bndk hp fun y97 hy97 hp => ?_
 refine zc B95 (dynamics_Spread_c _ X0 (X0_lt _) (ModelD.mk ([0]) ([0]) ([0]) ([(BoundsD.mk 0 0 0), (BoundsD.mk 1 0 5)]) 0 0 0 ([(NoiseD.mk 0 y14)]) ([(NoiseD.mk 0 y14)]) Raw.zero Raw.zero Raw.zero) _ ⟨_, _, _, _, _, _, _, _, _, _, _, _, _, _, _, _, _, _, _, _, _, _, _, _, rfl, (((hk92_3.mono Le.orl).mono j95).mono Le.x0), (((hk92_4.mono Le.orl).mono j95).mono Le.x0), (((hk92_5.mono Le.orl).mono j95).mono Le.x0), (((hk92_6.mono Le.orl).mono j95).mono Le.x0), (((hk92_7.mono Le.orl).mono j95).mono Le.x0), (((hk92_7.mono Le.orl).mono j95).mono Le.x0), Limbs.nil0, Limbs.nil0, Limbs.nil0, Limbs.nil0, Limbs.nil0, Limbs.nil0⟩ (100000 : Int) (0 : Int) (101 : Int) (9 : Int) y97 hy97) ?_ (vs := #[.agg #[.slice (some ⟨b52, 0, none⟩) 1 1, .slice (some ⟨b54, 0, none⟩) 1 1, .slice (some ⟨b56, 0, none⟩) 1 1, .slice (some ⟨b45, 0, none⟩) 2 2, .int .i64 0, .int .i64 0, .int .i64 0, .slice (some ⟨b43, 0, none⟩) 1 1, .slice (some ⟨b43, 0, none⟩) 1 1, .bool false, .slice none 0 0, .slice none 0 0, .bool false, .slice none 0 0, .slice none 0 0, .bool false, .slice none 0 0, .slice none 0 0], .int .i64 100000, .int .i64 0, .int .i64 101, .int .i64 9])
 rintro v98 w98 B98 j98 hu98 ⟨uu98_0, rfl, ⟨u98_0_1, u98_0_2, rfl, u98_0__h0⟩⟩
 refine zz 9 ?_
 refine zo 1 B98 ?_
 refine bndk hp fun y100 hy100 hp => ?_
 refine zc B98 (dynamics_Spread_c _ X0 (X0_lt _) (ModelD.mk ([0]) ([0]) ([0]) ([(BoundsD.mk 0 0 0), (BoundsD.mk 1 0 5)]) 0 0 0 ([(NoiseD.mk 0 y14)]) ([(NoiseD.mk 0 y14)]) Raw.zero Raw.zero Raw.zero) _ ⟨_, _, _, _, _, _, _, _, _, _, _, _, _, _, _, _, _, _, _, _, _, _, _, _, rfl, (((hk92_3.mono Le.orl).mono (Le2 j95 j98)).mono Le.x0), (((hk92_4.mono Le.orl).mono (Le2 j95 j98)).mono Le.x0), (((hk92_5.mono Le.orl).mono (Le2 j95 j98)).mono Le.x0), (((hk92_6.mono Le.orl).mono (Le2 j95 j98)).mono Le.x0), (((hk92_7.mono Le.orl).mono (Le2 j95 j98)).mono Le.x0), (((hk92_7.mono Le.orl).mono (Le2 j95 j98)).mono Le.x0), Limbs.nil0, Limbs.nil0, Limbs.nil0, Limbs.nil0, Limbs.nil0, Limbs.nil0⟩ (100000 : Int) (100 : Int) (-100) (2 : Int) y100 hy100) ?_ (vs := #[.agg #[.slice (some ⟨b52, 0, none⟩) 1 1, .slice (some ⟨b54, 0, none⟩) 1 1, .slice (some ⟨b56, 0, none⟩) 1 1, .slice (some ⟨b45, 0, none⟩) 2 2, .int .i64 0, .int .i64 0, .int .i64 0, .slice (some ⟨b43, 0, none⟩) 1 1, .slice (some ⟨b43, 0, none⟩) 1 1, .bool false, .slice none 0 0, .slice none 0 0, .bool false, .slice none 0 0, .slice none 0 0, .bool false, .slice none 0 0, .slice none 0 0], .int .i64 100000, .int .i64 100, .int .i64 (-100), .int .i64 2])
 rintro v101 w101 B101 j101 hu101 ⟨uu101_0, rfl, ⟨u101_0_1, u101_0_2, rfl, u101_0__h0⟩⟩
 refine zz 7 ?_
 refine zN ⟨.code (at1 [] Tryz.f5 [1, 1, 1, 1, 1, 1, 1, 1, 1, 1, 1, 1, 1, 1, 1, 1, 1, 1, 1, 1]), at2 [] Tryz.f5 [1, 1, 1, 1, 1, 1, 1, 1, 1, 1, 1, 1, 1, 1, 1, 1, 1, 1, 1, 1], [(1, .pointer (some ⟨b17, 0, none⟩)), (10, .pointer (some ⟨b58, 0, none⟩)), (17, .int .i64 y71.2), (19, .int .i64 y74.2), (22, .int .i64 y77.2.2), (24, .int .i64 y81.2), (26, .int .i64 y84.2), (28, .int .i64 y87.2), (30, .int .i64 y94.2), (32, .int .i64 y97.2), (34, .int .i64 y100.2)]⟩ ?_
 exact clearwaylaw24_DynamicsExamples_cut102 w X y Y90 ad37 b17 b19 b26 b33 b40 b43 b45 b52 b54 b56 b58 b90 cap37 u15_0_1 u15_0_3 u15_0_4 u15_0_6 u24_0_1 u24_0_3 u24_0_4 u24_0_6 u88_0_1 u88_0_3 u88_0_4 u88_0_6 w101 y100 y14 y23 y71 y74 y77 y81 y84 y87 y94 y97 B101 (hk92_3.mono (Le.or (Le3 j95 j98 j101) _)) (hk92_4.mono (Le.or (Le3 j95 j98 j101) _)) (hk92_5.mono (Le.or (Le3 j95 j98 j101) _)) (hk92_6.mono (Le.or (Le3 j95 j98 j101) _)) (hk92_7.mono (Le.or (Le3 j95 j98 j101) _)) (hk92_12.mono (Le.or (Le3 j95 j98 j101) _)) (hk92_13.mono (Le.or (Le3 j95 j98 j101) _)) hp
theorem clearwaylaw24_DynamicsExamples_cut79 (w : World) (X : Hid) (y : Bool) (Y68 : Hid) (ad37 : Option Addr) (b17 : Nat) (b19 : Nat) (b26 : Nat) (b33 : Nat) (b40 : Nat) (b43 : Nat) (b45 : Nat) (b52 : Nat) (b54 : Nat) (b56 : Nat) (b58 : Nat) (cap37 : Nat) (u15_0_1 : Option Addr) (u15_0_3 : Nat) (u15_0_4 : Option Addr) (u15_0_6 : Nat) (u24_0_1 : Option Addr) (u24_0_3 : Nat) (u24_0_4 : Option Addr) (u24_0_6 : Nat) (w78 : World) (y14 : Raw) (y23 : Raw × Int) (y71 : Int × Int) (y74 : Int × Int) (y77 : Int × Int × Int) (B78 : St E0 w X w78 Y68 [(b58, .cells #[.slice (some ⟨b52, 0, none⟩) 1 1, .slice (some ⟨b54, 0, none⟩) 1 1, .slice (some ⟨b56, 0, none⟩) 1 1, .slice (some ⟨b45, 0, none⟩) 2 2, .int .i64 0, .int .i64 0, .int .i64 0, .slice (some ⟨b43, 0, none⟩) 1 1, .slice (some ⟨b43, 0, none⟩) 1 1, .bool false, .slice none 0 0, .slice none 0 0, .bool false, .slice none 0 0, .slice none 0 0, .bool false, .slice none 0 0, .slice none 0 0] 30 (0, 0)), (b40, .cells #[.bool false, .slice ad37 (8 + 1) cap37, .slice none 0 0] 28 (0, 0)), (b33, .cells #[.int .u32 1] 56 (0, 0)), (b26, .cells #[.bool y23.1.neg, .slice u24_0_1 y23.1.ln.length u24_0_3, .slice u24_0_4 y23.1.ld.length u24_0_6] 28 (0, 0)), (b19, .cells #[.bool true, .slice none 0 0, .slice none 0 0] 28 (0, 0)), (b17, .cells #[.bool y14.neg, .slice u15_0_1 y14.ln.length u15_0_3, .slice u15_0_4 y14.ld.length u15_0_6] 28 (0, 0))]) (hk79_1 : Ints (rd w78 (orN Y68 w.heap.size)) (some ⟨b52, 0, none⟩) 1 1 ([0])) (hk79_2 : Ints (rd w78 (orN Y68 w.heap.size)) (some ⟨b54, 0, none⟩) 1 1 ([0])) (hk79_3 : Ints (rd w78 (orN Y68 w.heap.size)) (some ⟨b56, 0, none⟩) 1 1 ([0])) (hk79_4 : BoundsDS (rd w78 (orN Y68 w.heap.size)) (some ⟨b45, 0, none⟩) 2 2 ([(BoundsD.mk 0 0 0), (BoundsD.mk 1 0 5)])) (hk79_5 : NoiseDS (rd w78 (orN Y68 w.heap.size)) (some ⟨b43, 0, none⟩) 1 1 ([(NoiseD.mk 0 y14)])) (hk79_10 : Limbs (rd w78 (orN Y68 w.heap.size)) u15_0_4 y14.ld.length u15_0_6 y14.ld) (hk79_11 : Limbs (rd w78 (orN Y68 w.heap.size)) u15_0_1 y14.ln.length u15_0_3 y14.ln) (hp : ((dynamics_Respond_p (ModelD.mk ([0]) ([0]) ([0]) ([(BoundsD.mk 0 0 0), (BoundsD.mk 1 0 5)]) 0 0 0 ([(NoiseD.mk 0 y14)]) ([(NoiseD.mk 0 y14)]) Raw.zero Raw.zero Raw.zero) (101 : Int) (9 : Int)).bind fun y81 => (dynamics_Respond_p (ModelD.mk ([0]) ([0]) ([0]) ([(BoundsD.mk 0 0 0), (BoundsD.mk 1 0 5)]) 0 0 0 ([(NoiseD.mk 0 y14)]) ([(NoiseD.mk 0 y14)]) Raw.zero Raw.zero Raw.zero) (100 : Int) (2 : Int)).bind fun y84 => (dynamics_Cost_p (ModelD.mk ([0]) ([0]) ([0]) ([(BoundsD.mk 0 0 0), (BoundsD.mk 1 0 5)]) 0 0 0 ([(NoiseD.mk 0 y14)]) ([(NoiseD.mk 0 y14)]) Raw.zero Raw.zero Raw.zero) (-1) (0 : Int)).bind fun y87 => (dynamics_Spread_p (ModelD.mk ([0]) ([0]) ([0]) ([(BoundsD.mk 0 0 0), (BoundsD.mk 1 0 5)]) 0 0 0 ([(NoiseD.mk 0 y14)]) ([(NoiseD.mk 0 y14)]) Raw.zero Raw.zero Raw.zero) (100001 : Int) (0 : Int) (0 : Int) (9 : Int)).bind fun y94 => (dynamics_Spread_p (ModelD.mk ([0]) ([0]) ([0]) ([(BoundsD.mk 0 0 0), (BoundsD.mk 1 0 5)]) 0 0 0 ([(NoiseD.mk 0 y14)]) ([(NoiseD.mk 0 y14)]) Raw.zero Raw.zero Raw.zero) (100000 : Int) (0 : Int) (101 : Int) (9 : Int)).bind fun y97 => (dynamics_Spread_p (ModelD.mk ([0]) ([0]) ([0]) ([(BoundsD.mk 0 0 0), (BoundsD.mk 1 0 5)]) 0 0 0 ([(NoiseD.mk 0 y14)]) ([(NoiseD.mk 0 y14)]) Raw.zero Raw.zero Raw.zero) (100000 : Int) (100 : Int) (-100) (2 : Int)).bind fun y100 => (dynamics_Spread_p (ModelD.mk ([0]) ([0]) ([0]) ([(BoundsD.mk 0 0 0), (BoundsD.mk 1 0 5)]) 0 0 0 ([(NoiseD.mk 0 y14)]) ([(NoiseD.mk 0 y14)]) Raw.zero Raw.zero Raw.zero) (100000 : Int) (100 : Int) (-100) (1 : Int)).bind fun y104 => if ((y71.2) == 8) = true then (if ((y74.2) == 8) = true then (if ((y77.2.2) == 8) = true then (if ((y81.2) == 1) = true then (if ((y84.2) == 8) = true then (if ((y87.2) == 8) = true then (if ((y94.2) == 1) = true then (if ((y97.2) == 1) = true then (if ((y100.2) == 8) = true then (if ((y104.2) == 0) = true then (if ((y104.1.length : Int) == 1) = true then ((ix y104.1 (0 : Int)).bind fun x118 => if ((x118.to) == 1) = true then ((clearwaykit_EqualRat_p x118.p y14).bind fun y122 => some y122) else (some false)) else (some false)) else (some false)) else (some false)) else (some false)) else (some false)) else (some false)) else (some false)) else (some false)) else (some false)) else (some false)) else (some false)) = some y) : Go none 0 Tryz.prog (bodyPost Tryz.prog Tryz.f5 (Ret E0 w fun w' v => v = .bool y)) Tryz.f5.ntmps [] w78 ⟨.code (at1 [] Tryz.f5 [1, 1, 1, 1, 1, 1, 1, 1, 1, 1, 1, 1, 1, 1]), at2 [] Tryz.f5 [1, 1, 1, 1, 1, 1, 1, 1, 1, 1, 1, 1, 1, 1], [(1, .pointer (some ⟨b17, 0, none⟩)), (10, .pointer (some ⟨b58, 0, none⟩)), (17, .int .i64 y71.2), (19, .int .i64 y74.2), (22, .int .i64 y77.2.2)]⟩ := by
 refine zz 2 ?_
 refine zo 0 B78 ?_
 refine bndk hp fun y81 hy81 hp => ?_
 refine zc B78 (dynamics_Respond_c _ X0 (X0_lt _) (ModelD.mk ([0]) ([0]) ([0]) ([(BoundsD.mk 0 0 0), (BoundsD.mk 1 0 5)]) 0 0 0 ([(NoiseD.mk 0 y14)]) ([(NoiseD.mk 0 y14)]) Raw.zero Raw.zero Raw.zero) _ ⟨_, _, _, _, _, _, _, _, _, _, _, _, _, _, _, _, _, _, _, _, _, _, _, _, rfl, ((hk79_1.mono Le.orl).mono Le.x0), ((hk79_2.mono Le.orl).mono Le.x0), ((hk79_3.mono Le.orl).mono Le.x0), ((hk79_4.mono Le.orl).mono Le.x0), ((hk79_5.mono Le.orl).mono Le.x0), ((hk79_5.mono Le.orl).mono Le.x0), Limbs.nil0, Limbs.nil0, Limbs.nil0, Limbs.nil0, Limbs.nil0, Limbs.nil0⟩ (101 : Int) (9 : Int) y81 hy81) ?_ (vs := #[.agg #[.slice (some ⟨b52, 0, none⟩) 1 1, .slice (some ⟨b54, 0, none⟩) 1 1, .slice (some ⟨b56, 0, none⟩) 1 1, .slice (some ⟨b45, 0, none⟩) 2 2, .int .i64 0, .int .i64 0, .int .i64 0, .slice (some ⟨b43, 0, none⟩) 1 1, .slice (some ⟨b43, 0, none⟩) 1 1, .bool false, .slice none 0 0, .slice none 0 0, .bool false, .slice none 0 0, .slice none 0 0, .bool false, .slice none 0 0, .slice none 0 0], .int .i64 101, .int .i64 9])
 rintro v82 w82 B82 j82 hu82 rfl
 refine zz 9 ?_
 refine zo 0 B82 ?_
 refine bndk hp fun y84 hy84 hp => ?_
 refine zc B82 (dynamics_Respond_c _ X0 (X0_lt _) (ModelD.mk ([0]) ([0]) ([0]) ([(BoundsD.mk 0 0 0), (BoundsD.mk 1 0 5)]) 0 0 0 ([(NoiseD.mk 0 y14)]) ([(NoiseD.mk 0 y14)]) Raw.zero Raw.zero Raw.zero) _ ⟨_, _, _, _, _, _, _, _, _, _, _, _, _, _, _, _, _, _, _, _, _, _, _, _, rfl, (((hk79_1.mono Le.orl).mono j82).mono Le.x0), (((hk79_2.mono Le.orl).mono j82).mono Le.x0), (((hk79_3.mono Le.orl).mono j82).mono Le.x0), (((hk79_4.mono Le.orl).mono j82).mono Le.x0), (((hk79_5.mono Le.orl).mono j82).mono Le.x0), (((hk79_5.mono Le.orl).mono j82).mono Le.x0), Limbs.nil0, Limbs.nil0, Limbs.nil0, Limbs.nil0, Limbs.nil0, Limbs.nil0⟩ (100 : Int) (2 : Int) y84 hy84) ?_ (vs := #[.agg #[.slice (some ⟨b52, 0, none⟩) 1 1, .slice (some ⟨b54, 0, none⟩) 1 1, .slice (some ⟨b56, 0, none⟩) 1 1, .slice (some ⟨b45, 0, none⟩) 2 2, .int .i64 0, .int .i64 0, .int .i64 0, .slice (some ⟨b43, 0, none⟩) 1 1, .slice (some ⟨b43, 0, none⟩) 1 1, .bool false, .slice none 0 0, .slice none 0 0, .bool false, .slice none 0 0, .slice none 0 0, .bool false, .slice none 0 0, .slice none 0 0], .int .i64 100, .int .i64 2])
 rintro v85 w85 B85 j85 hu85 rfl
 refine zz 9 ?_
 refine zo 0 B85 ?_
 refine bndk hp fun y87 hy87 hp => ?_
 refine zc B85 (dynamics_Cost_c _ X0 (X0_lt _) (ModelD.mk ([0]) ([0]) ([0]) ([(BoundsD.mk 0 0 0), (BoundsD.mk 1 0 5)]) 0 0 0 ([(NoiseD.mk 0 y14)]) ([(NoiseD.mk 0 y14)]) Raw.zero Raw.zero Raw.zero) _ ⟨_, _, _, _, _, _, _, _, _, _, _, _, _, _, _, _, _, _, _, _, _, _, _, _, rfl, (((hk79_1.mono Le.orl).mono (Le2 j82 j85)).mono Le.x0), (((hk79_2.mono Le.orl).mono (Le2 j82 j85)).mono Le.x0), (((hk79_3.mono Le.orl).mono (Le2 j82 j85)).mono Le.x0), (((hk79_4.mono Le.orl).mono (Le2 j82 j85)).mono Le.x0), (((hk79_5.mono Le.orl).mono (Le2 j82 j85)).mono Le.x0), (((hk79_5.mono Le.orl).mono (Le2 j82 j85)).mono Le.x0), Limbs.nil0, Limbs.nil0, Limbs.nil0, Limbs.nil0, Limbs.nil0, Limbs.nil0⟩ (-1) (0 : Int) y87 hy87) ?_ (vs := #[.agg #[.slice (some ⟨b52, 0, none⟩) 1 1, .slice (some ⟨b54, 0, none⟩) 1 1, .slice (some ⟨b56, 0, none⟩) 1 1, .slice (some ⟨b45, 0, none⟩) 2 2, .int .i64 0, .int .i64 0, .int .i64 0, .slice (some ⟨b43, 0, none⟩) 1 1, .slice (some ⟨b43, 0, none⟩) 1 1, .bool false, .slice none 0 0, .slice none 0 0, .bool false, .slice none 0 0, .slice none 0 0, .bool false, .slice none 0 0, .slice none 0 0], .int .i64 (-1), .int .i64 0])
 rintro v88 w88 B88 j88 hu88 ⟨uu88_0, rfl, ⟨u88_0_1, u88_0_2, u88_0_3, u88_0_4, u88_0_5, u88_0_6, rfl, u88_0__h0, u88_0__h1⟩⟩
 have hob := u88_0__h0.hlen
 subst hob
 have hob := u88_0__h1.hlen
 subst hob
 refine zz 3 ?_
 refine zn pn (.cells #[.bool false, .slice none 0 0, .slice none 0 0] 28 (0, 0)) B88 ?_
 intro b90 w90 Y90 B90 j90 hu90
 refine zx 0 #[.bool y87.1.neg, .slice u88_0_1 y87.1.ln.length u88_0_3, .slice u88_0_4 y87.1.ld.length u88_0_6] B90 ?_
 intro w91 B91 j91
 refine zz 3 ?_
 have hc14_ := (Le4 j82 j85 j88 j90).trans j91
 have hc15_ := (Le4 j82 j85 j88 j90).trans j91
 have hc16_ := (Le4 j82 j85 j88 j90).trans j91
 have hc17_ := (Le4 j82 j85 j88 j90).trans j91
 have hc18_ := (Le4 j82 j85 j88 j90).trans j91
 have hc19_ := (Le4 j82 j85 j88 j90).trans j91
 have hc20_ := (Le4 j82 j85 j88 j90).trans j91
 have hc21_ := (Le4 j82 j85 j88 j90).trans j91
 have hc22_ := (Le4 j82 j85 j88 j90).trans j91
 have hc23_ := (Le4 j82 j85 j88 j90).trans j91
 have hc24_ := (Le4 j82 j85 j88 j90).trans j91
 have hc25_ := (Le4 j82 j85 j88 j90).trans j91
 have hc26_ := (Le4 j82 j85 j88 j90).trans j91
 have hc27_ := (Le4 j82 j85 j88 j90).trans j91
 have hc28_ := (Le4 j82 j85 j88 j90).trans j91
 have hc29_ := (Le4 j82 j85 j88 j90).trans j91
 refine zN ⟨.code (at1 [] Tryz.f5 [1, 1, 1, 1, 1, 1, 1, 1, 1, 1, 1, 1, 1, 1, 1, 1, 1]), at2 [] Tryz.f5 [1, 1, 1, 1, 1, 1, 1, 1, 1, 1, 1, 1, 1, 1, 1, 1, 1], [(1, .pointer (some ⟨b17, 0, none⟩)), (10, .pointer (some ⟨b58, 0, none⟩)), (17, .int .i64 y71.2), (19, .int .i64 y74.2), (22, .int .i64 y77.2.2), (24, .int .i64 y81.2), (26, .int .i64 y84.2), (28, .int .i64 y87.2)]⟩ ?_
 exact clearwaylaw24_DynamicsExamples_cut92 w X y Y90 ad37 b17 b19 b26 b33 b40 b43 b45 b52 b54 b56 b58 b90 cap37 u15_0_1 u15_0_3 u15_0_4 u15_0_6 u24_0_1 u24_0_3 u24_0_4 u24_0_6 u88_0_1 u88_0_3 u88_0_4 u88_0_6 w91 y14 y23 y71 y74 y77 y81 y84 y87 B91 (hk79_1.mono (Le.or hc14_ _)) (hk79_2.mono (Le.or hc15_ _)) (hk79_3.mono (Le.or hc16_ _)) (hk79_4.mono (Le.or hc17_ _)) (hk79_5.mono (Le.or hc18_ _)) (hk79_10.mono (Le.or hc23_ _)) (hk79_11.mono (Le.or hc24_ _)) hp
theorem clearwaylaw24_DynamicsExamples_cut69 (w : World) (X : Hid) (y : Bool) (Y68 : Hid) (ad37 : Option Addr) (b17 : Nat) (b19 : Nat) (b26 : Nat) (b33 : Nat) (b40 : Nat) (b43 : Nat) (b45 : Nat) (b52 : Nat) (b54 : Nat) (b56 : Nat) (b58 : Nat) (cap37 : Nat) (u15_0_1 : Option Addr) (u15_0_3 : Nat) (u15_0_4 : Option Addr) (u15_0_6 : Nat) (u24_0_1 : Option Addr) (u24_0_3 : Nat) (u24_0_4 : Option Addr) (u24_0_6 : Nat) (w68 : World) (y14 : Raw) (y23 : Raw × Int) (B68 : St E0 w X w68 Y68 [(b58, .cells #[.slice (some ⟨b52, 0, none⟩) 1 1, .slice (some ⟨b54, 0, none⟩) 1 1, .slice (some ⟨b56, 0, none⟩) 1 1, .slice (some ⟨b45, 0, none⟩) 2 2, .int .i64 0, .int .i64 0, .int .i64 0, .slice (some ⟨b43, 0, none⟩) 1 1, .slice (some ⟨b43, 0, none⟩) 1 1, .bool false, .slice none 0 0, .slice none 0 0, .bool false, .slice none 0 0, .slice none 0 0, .bool false, .slice none 0 0, .slice none 0 0] 30 (0, 0)), (b40, .cells #[.bool false, .slice ad37 (8 + 1) cap37, .slice none 0 0] 28 (0, 0)), (b33, .cells #[.int .u32 1] 56 (0, 0)), (b26, .cells #[.bool y23.1.neg, .slice u24_0_1 y23.1.ln.length u24_0_3, .slice u24_0_4 y23.1.ld.length u24_0_6] 28 (0, 0)), (b19, .cells #[.bool true, .slice none 0 0, .slice none 0 0] 28 (0, 0)), (b17, .cells #[.bool y14.neg, .slice u15_0_1 y14.ln.length u15_0_3, .slice u15_0_4 y14.ld.length u15_0_6] 28 (0, 0))]) (hk69_1 : Ints (rd w68 (orN Y68 w.heap.size)) (some ⟨b52, 0, none⟩) 1 1 ([0])) (hk69_2 : Ints (rd w68 (orN Y68 w.heap.size)) (some ⟨b54, 0, none⟩) 1 1 ([0])) (hk69_3 : Ints (rd w68 (orN Y68 w.heap.size)) (some ⟨b56, 0, none⟩) 1 1 ([0])) (hk69_4 : BoundsDS (rd w68 (orN Y68 w.heap.size)) (some ⟨b45, 0, none⟩) 2 2 ([(BoundsD.mk 0 0 0), (BoundsD.mk 1 0 5)])) (hk69_5 : NoiseDS (rd w68 (orN Y68 w.heap.size)) (some ⟨b43, 0, none⟩) 1 1 ([(NoiseD.mk 0 y14)])) (hk69_10 : Limbs (rd w68 (orN Y68 w.heap.size)) u15_0_4 y14.ld.length u15_0_6 y14.ld) (hk69_11 : Limbs (rd w68 (orN Y68 w.heap.size)) u15_0_1 y14.ln.length u15_0_3 y14.ln) (hp : ((dynamics_Number_p (ModelD.mk ([0]) ([0]) ([0]) ([(BoundsD.mk 0 0 0), (BoundsD.mk 1 0 5)]) 0 0 0 ([(NoiseD.mk 0 y14)]) ([(NoiseD.mk 0 y14)]) Raw.zero Raw.zero Raw.zero) (1 : Int) (0 : Int)).bind fun y71 => (dynamics_Number_p (ModelD.mk ([0]) ([0]) ([0]) ([(BoundsD.mk 0 0 0), (BoundsD.mk 1 0 5)]) 0 0 0 ([(NoiseD.mk 0 y14)]) ([(NoiseD.mk 0 y14)]) Raw.zero Raw.zero Raw.zero) (0 : Int) (2 : Int)).bind fun y74 => (dynamics_Split_p (ModelD.mk ([0]) ([0]) ([0]) ([(BoundsD.mk 0 0 0), (BoundsD.mk 1 0 5)]) 0 0 0 ([(NoiseD.mk 0 y14)]) ([(NoiseD.mk 0 y14)]) Raw.zero Raw.zero Raw.zero) (2 : Int)).bind fun y77 => (dynamics_Respond_p (ModelD.mk ([0]) ([0]) ([0]) ([(BoundsD.mk 0 0 0), (BoundsD.mk 1 0 5)]) 0 0 0 ([(NoiseD.mk 0 y14)]) ([(NoiseD.mk 0 y14)]) Raw.zero Raw.zero Raw.zero) (101 : Int) (9 : Int)).bind fun y81 => (dynamics_Respond_p (ModelD.mk ([0]) ([0]) ([0]) ([(BoundsD.mk 0 0 0), (BoundsD.mk 1 0 5)]) 0 0 0 ([(NoiseD.mk 0 y14)]) ([(NoiseD.mk 0 y14)]) Raw.zero Raw.zero Raw.zero) (100 : Int) (2 : Int)).bind fun y84 => (dynamics_Cost_p (ModelD.mk ([0]) ([0]) ([0]) ([(BoundsD.mk 0 0 0), (BoundsD.mk 1 0 5)]) 0 0 0 ([(NoiseD.mk 0 y14)]) ([(NoiseD.mk 0 y14)]) Raw.zero Raw.zero Raw.zero) (-1) (0 : Int)).bind fun y87 => (dynamics_Spread_p (ModelD.mk ([0]) ([0]) ([0]) ([(BoundsD.mk 0 0 0), (BoundsD.mk 1 0 5)]) 0 0 0 ([(NoiseD.mk 0 y14)]) ([(NoiseD.mk 0 y14)]) Raw.zero Raw.zero Raw.zero) (100001 : Int) (0 : Int) (0 : Int) (9 : Int)).bind fun y94 => (dynamics_Spread_p (ModelD.mk ([0]) ([0]) ([0]) ([(BoundsD.mk 0 0 0), (BoundsD.mk 1 0 5)]) 0 0 0 ([(NoiseD.mk 0 y14)]) ([(NoiseD.mk 0 y14)]) Raw.zero Raw.zero Raw.zero) (100000 : Int) (0 : Int) (101 : Int) (9 : Int)).bind fun y97 => (dynamics_Spread_p (ModelD.mk ([0]) ([0]) ([0]) ([(BoundsD.mk 0 0 0), (BoundsD.mk 1 0 5)]) 0 0 0 ([(NoiseD.mk 0 y14)]) ([(NoiseD.mk 0 y14)]) Raw.zero Raw.zero Raw.zero) (100000 : Int) (100 : Int) (-100) (2 : Int)).bind fun y100 => (dynamics_Spread_p (ModelD.mk ([0]) ([0]) ([0]) ([(BoundsD.mk 0 0 0), (BoundsD.mk 1 0 5)]) 0 0 0 ([(NoiseD.mk 0 y14)]) ([(NoiseD.mk 0 y14)]) Raw.zero Raw.zero Raw.zero) (100000 : Int) (100 : Int) (-100) (1 : Int)).bind fun y104 => if ((y71.2) == 8) = true then (if ((y74.2) == 8) = true then (if ((y77.2.2) == 8) = true then (if ((y81.2) == 1) = true then (if ((y84.2) == 8) = true then (if ((y87.2) == 8) = true then (if ((y94.2) == 1) = true then (if ((y97.2) == 1) = true then (if ((y100.2) == 8) = true then (if ((y104.2) == 0) = true then (if ((y104.1.length : Int) == 1) = true then ((ix y104.1 (0 : Int)).bind fun x118 => if ((x118.to) == 1) = true then ((clearwaykit_EqualRat_p x118.p y14).bind fun y122 => some y122) else (some false)) else (some false)) else (some false)) else (some false)) else (some false)) else (some false)) else (some false)) else (some false)) else (some false)) else (some false)) else (some false)) else (some false)) = some y) : Go none 0 Tryz.prog (bodyPost Tryz.prog Tryz.f5 (Ret E0 w fun w' v => v = .bool y)) Tryz.f5.ntmps [] w68 ⟨.code (at1 [] Tryz.f5 [1, 1, 1, 1, 1, 1, 1, 1, 1, 1, 1]), at2 [] Tryz.f5 [1, 1, 1, 1, 1, 1, 1, 1, 1, 1, 1], [(1, .pointer (some ⟨b17, 0, none⟩)), (10, .pointer (some ⟨b58, 0, none⟩))]⟩ := by
 refine zz 2 ?_
 refine zo 0 B68 ?_
 refine bndk hp fun y71 hy71 hp => ?_
 refine zc B68 (dynamics_Number_c _ X0 (X0_lt _) (ModelD.mk ([0]) ([0]) ([0]) ([(BoundsD.mk 0 0 0), (BoundsD.mk 1 0 5)]) 0 0 0 ([(NoiseD.mk 0 y14)]) ([(NoiseD.mk 0 y14)]) Raw.zero Raw.zero Raw.zero) _ ⟨_, _, _, _, _, _, _, _, _, _, _, _, _, _, _, _, _, _, _, _, _, _, _, _, rfl, ((hk69_1.mono Le.orl).mono Le.x0), ((hk69_2.mono Le.orl).mono Le.x0), ((hk69_3.mono Le.orl).mono Le.x0), ((hk69_4.mono Le.orl).mono Le.x0), ((hk69_5.mono Le.orl).mono Le.x0), ((hk69_5.mono Le.orl).mono Le.x0), Limbs.nil0, Limbs.nil0, Limbs.nil0, Limbs.nil0, Limbs.nil0, Limbs.nil0⟩ (1 : Int) (0 : Int) y71 hy71) ?_ (vs := #[.agg #[.slice (some ⟨b52, 0, none⟩) 1 1, .slice (some ⟨b54, 0, none⟩) 1 1, .slice (some ⟨b56, 0, none⟩) 1 1, .slice (some ⟨b45, 0, none⟩) 2 2, .int .i64 0, .int .i64 0, .int .i64 0, .slice (some ⟨b43, 0, none⟩) 1 1, .slice (some ⟨b43, 0, none⟩) 1 1, .bool false, .slice none 0 0, .slice none 0 0, .bool false, .slice none 0 0, .slice none 0 0, .bool false, .slice none 0 0, .slice none 0 0], .int .i64 1, .int .i64 0])
 rintro v72 w72 B72 j72 hu72 rfl
 refine zz 9 ?_
 refine zo 0 B72 ?_
 refine bndk hp fun y74 hy74 hp => ?_
 refine zc B72 (dynamics_Number_c _ X0 (X0_lt _) (ModelD.mk ([0]) ([0]) ([0]) ([(BoundsD.mk 0 0 0), (BoundsD.mk 1 0 5)]) 0 0 0 ([(NoiseD.mk 0 y14)]) ([(NoiseD.mk 0 y14)]) Raw.zero Raw.zero Raw.zero) _ ⟨_, _, _, _, _, _, _, _, _, _, _, _, _, _, _, _, _, _, _, _, _, _, _, _, rfl, (((hk69_1.mono Le.orl).mono j72).mono Le.x0), (((hk69_2.mono Le.orl).mono j72).mono Le.x0), (((hk69_3.mono Le.orl).mono j72).mono Le.x0), (((hk69_4.mono Le.orl).mono j72).mono Le.x0), (((hk69_5.mono Le.orl).mono j72).mono Le.x0), (((hk69_5.mono Le.orl).mono j72).mono Le.x0), Limbs.nil0, Limbs.nil0, Limbs.nil0, Limbs.nil0, Limbs.nil0, Limbs.nil0⟩ (0 : Int) (2 : Int) y74 hy74) ?_ (vs := #[.agg #[.slice (some ⟨b52, 0, none⟩) 1 1, .slice (some ⟨b54, 0, none⟩) 1 1, .slice (some ⟨b56, 0, none⟩) 1 1, .slice (some ⟨b45, 0, none⟩) 2 2, .int .i64 0, .int .i64 0, .int .i64 0, .slice (some ⟨b43, 0, none⟩) 1 1, .slice (some ⟨b43, 0, none⟩) 1 1, .bool false, .slice none 0 0, .slice none 0 0, .bool false, .slice none 0 0, .slice none 0 0, .bool false, .slice none 0 0, .slice none 0 0], .int .i64 0, .int .i64 2])
 rintro v75 w75 B75 j75 hu75 rfl
 refine zz 9 ?_
 refine zo 0 B75 ?_
 refine bndk hp fun y77 hy77 hp => ?_
 refine zc B75 (dynamics_Split_c _ X0 (X0_lt _) (ModelD.mk ([0]) ([0]) ([0]) ([(BoundsD.mk 0 0 0), (BoundsD.mk 1 0 5)]) 0 0 0 ([(NoiseD.mk 0 y14)]) ([(NoiseD.mk 0 y14)]) Raw.zero Raw.zero Raw.zero) _ ⟨_, _, _, _, _, _, _, _, _, _, _, _, _, _, _, _, _, _, _, _, _, _, _, _, rfl, (((hk69_1.mono Le.orl).mono (Le2 j72 j75)).mono Le.x0), (((hk69_2.mono Le.orl).mono (Le2 j72 j75)).mono Le.x0), (((hk69_3.mono Le.orl).mono (Le2 j72 j75)).mono Le.x0), (((hk69_4.mono Le.orl).mono (Le2 j72 j75)).mono Le.x0), (((hk69_5.mono Le.orl).mono (Le2 j72 j75)).mono Le.x0), (((hk69_5.mono Le.orl).mono (Le2 j72 j75)).mono Le.x0), Limbs.nil0, Limbs.nil0, Limbs.nil0, Limbs.nil0, Limbs.nil0, Limbs.nil0⟩ (2 : Int) y77 hy77) ?_ (vs := #[.agg #[.slice (some ⟨b52, 0, none⟩) 1 1, .slice (some ⟨b54, 0, none⟩) 1 1, .slice (some ⟨b56, 0, none⟩) 1 1, .slice (some ⟨b45, 0, none⟩) 2 2, .int .i64 0, .int .i64 0, .int .i64 0, .slice (some ⟨b43, 0, none⟩) 1 1, .slice (some ⟨b43, 0, none⟩) 1 1, .bool false, .slice none 0 0, .slice none 0 0, .bool false, .slice none 0 0, .slice none 0 0, .bool false, .slice none 0 0, .slice none 0 0], .int .i64 2])
 rintro v78 w78 B78 j78 hu78 rfl
 refine zz 9 ?_
 refine zN ⟨.code (at1 [] Tryz.f5 [1, 1, 1, 1, 1, 1, 1, 1, 1, 1, 1, 1, 1, 1]), at2 [] Tryz.f5 [1, 1, 1, 1, 1, 1, 1, 1, 1, 1, 1, 1, 1, 1], [(1, .pointer (some ⟨b17, 0, none⟩)), (10, .pointer (some ⟨b58, 0, none⟩)), (17, .int .i64 y71.2), (19, .int .i64 y74.2), (22, .int .i64 y77.2.2)]⟩ ?_
 exact clearwaylaw24_DynamicsExamples_cut79 w X y Y68 ad37 b17 b19 b26 b33 b40 b43 b45 b52 b54 b56 b58 cap37 u15_0_1 u15_0_3 u15_0_4 u15_0_6 u24_0_1 u24_0_3 u24_0_4 u24_0_6 w78 y14 y23 y71 y74 y77 B78 (hk69_1.mono (Le.or (Le3 j72 j75 j78) _)) (hk69_2.mono (Le.or (Le3 j72 j75 j78) _)) (hk69_3.mono (Le.or (Le3 j72 j75 j78) _)) (hk69_4.mono (Le.or (Le3 j72 j75 j78) _)) (hk69_5.mono (Le.or (Le3 j72 j75 j78) _)) (hk69_10.mono (Le.or (Le3 j72 j75 j78) _)) (hk69_11.mono (Le.or (Le3 j72 j75 j78) _)) hp
theorem clearwaylaw24_DynamicsExamples_cut159 (w : World) (X : Hid) (y : Bool) (J68 : Option (Bool)) (K149 : Act → World → Prop) (K150 : Act → World → Prop) (Y150 : Hid) (Y156 : Hid) (Y158 : Hid) (Y67 : Hid) (a158_10_1 : Option Addr) (a158_10_2 : Nat) (a158_10_3 : Option Addr) (a158_10_4 : Nat) (a158_11_1 : Option Addr) (a158_11_2 : Nat) (a158_11_3 : Option Addr) (a158_11_4 : Nat) (a158_12_1 : Option Addr) (a158_12_2 : Nat) (a158_12_3 : Option Addr) (a158_12_4 : Nat) (ad158_1 : Option Addr) (ad158_2 : Option Addr) (ad158_3 : Option Addr) (ad158_4 : Option Addr) (ad158_8 : Option Addr) (ad158_9 : Option Addr) (ad37 : Option Addr) (ad48 : Option Addr) (b156 : Nat) (b17 : Nat) (b19 : Nat) (b26 : Nat) (b33 : Nat) (b40 : Nat) (b43 : Nat) (b45 : Nat) (b52 : Nat) (b54 : Nat) (b56 : Nat) (b58 : Nat) (cap158_1 : Nat) (cap158_2 : Nat) (cap158_3 : Nat) (cap158_4 : Nat) (cap158_8 : Nat) (cap158_9 : Nat) (cap37 : Nat) (k150 : Nat) (r150 : Nat) (u15_0_1 : Option Addr) (u15_0_3 : Nat) (u15_0_4 : Option Addr) (u15_0_6 : Nat) (u24_0_1 : Option Addr) (u24_0_3 : Nat) (u24_0_4 : Option Addr) (u24_0_6 : Nat) (v158_0 : Int) (v158_1 : List Int) (v158_10 : Raw) (v158_11 : Raw) (v158_12 : Raw) (v158_2 : List Int) (v158_3 : List Int) (v158_4 : List BoundsD) (v158_5 : Int) (v158_6 : Int) (v158_7 : Int) (v158_8 : List NoiseD) (v158_9 : List NoiseD) (v50_0 : List Int) (w150 : World) (w154 : World) (w156 : World) (w157 : World) (w158 : World) (w59 : World) (y14 : Raw) (y23 : Raw × Int) (j158 : Le (rd w157 Y156) (rd w158 Y158)) (j157 : Le (rd w156 Y156) (rd w157 Y156)) (j156 : Le (rd w154 Y150) (rd w156 Y156)) (j154 : Le (rd w150 Y150) (rd w154 Y150)) (j150 : Le (rd w59 Y67) (rd w150 Y150)) (B158 : St E0 w X w158 Y158 [(b156, .cells #[.slice ad158_1 v158_1.length cap158_1, .slice ad158_2 v158_2.length cap158_2, .slice ad158_3 v158_3.length cap158_3, .slice ad158_4 v158_4.length cap158_4, .int .i64 v158_5, .int .i64 v158_6, .int .i64 v158_7, .slice ad158_8 v158_8.length cap158_8, .slice ad158_9 v158_9.length cap158_9, .bool v158_10.neg, .slice a158_10_1 v158_10.ln.length a158_10_2, .slice a158_10_3 v158_10.ld.length a158_10_4, .bool v158_11.neg, .slice a158_11_1 v158_11.ln.length a158_11_2, .slice a158_11_3 v158_11.ld.length a158_11_4, .bool v158_12.neg, .slice a158_12_1 v158_12.ln.length a158_12_2, .slice a158_12_3 v158_12.ld.length a158_12_4] 30 (0, 0)), (b58, .cells #[.slice (some ⟨b52, 0, none⟩) 1 1, .slice (some ⟨b54, 0, none⟩) 1 1, .slice (some ⟨b56, 0, none⟩) 1 1, .slice (some ⟨b45, 0, none⟩) 2 2, .int .i64 0, .int .i64 0, .int .i64 0, .slice (some ⟨b43, 0, none⟩) 1 1, .slice (some ⟨b43, 0, none⟩) 1 1, .bool false, .slice none 0 0, .slice none 0 0, .bool false, .slice none 0 0, .slice none 0 0, .bool false, .slice none 0 0, .slice none 0 0] 30 (0, 0)), (b40, .cells #[.bool false, .slice ad37 (8 + 1) cap37, .slice none 0 0] 28 (0, 0)), (b33, .cells #[.int .u32 1] 56 (0, 0)), (b26, .cells #[.bool y23.1.neg, .slice u24_0_1 y23.1.ln.length u24_0_3, .slice u24_0_4 y23.1.ld.length u24_0_6] 28 (0, 0)), (b19, .cells #[.bool true, .slice none 0 0, .slice none 0 0] 28 (0, 0)), (b17, .cells #[.bool y14.neg, .slice u15_0_1 y14.ln.length u15_0_3, .slice u15_0_4 y14.ld.length u15_0_6] 28 (0, 0))]) (hk159_1 : Limbs (rd w158 Y158) a158_12_3 v158_12.ld.length a158_12_4 v158_12.ld) (hk159_2 : Limbs (rd w158 Y158) a158_12_1 v158_12.ln.length a158_12_2 v158_12.ln) (hk159_3 : Limbs (rd w158 Y158) a158_11_3 v158_11.ld.length a158_11_4 v158_11.ld) (hk159_4 : Limbs (rd w158 Y158) a158_11_1 v158_11.ln.length a158_11_2 v158_11.ln) (hk159_5 : Limbs (rd w158 Y158) a158_10_3 v158_10.ld.length a158_10_4 v158_10.ld) (hk159_6 : Limbs (rd w158 Y158) a158_10_1 v158_10.ln.length a158_10_2 v158_10.ln) (hk159_7 : NoiseDS (rd w158 Y158) ad158_9 v158_9.length cap158_9 v158_9) (hk159_8 : NoiseDS (rd w158 Y158) ad158_8 v158_8.length cap158_8 v158_8) (hk159_9 : BoundsDS (rd w158 Y158) ad158_4 v158_4.length cap158_4 v158_4) (hk159_10 : Ints (rd w158 Y158) ad158_3 v158_3.length cap158_3 v158_3) (hk159_11 : Ints (rd w158 Y158) ad158_2 v158_2.length cap158_2 v158_2) (hk159_12 : Ints (rd w158 Y158) ad158_1 v158_1.length cap158_1 v158_1) (G150 : ∀ (gq : Nat) (wq : World) (aq : Act), Fr Tryz.f5.ntmps aq ((fun (k150 : Nat) => [(1, .pointer (some ⟨b17, 0, none⟩)), (2, .pointer (some ⟨b19, 0, none⟩)), (3, .pointer (some ⟨b26, 0, none⟩)), (5, .pointer (some ⟨b40, 0, none⟩)), (8, .slice ad48 32 32), (10, .pointer (some ⟨b58, 0, none⟩)), (11, .int .i64 (k150 : Int))]) gq) [] → (fun (k150 : Nat) (w1 : World) => ∃ Y1 : Hid, St E0 w X w1 Y1 [(b58, .cells #[.slice (some ⟨b52, 0, none⟩) 1 1, .slice (some ⟨b54, 0, none⟩) 1 1, .slice (some ⟨b56, 0, none⟩) 1 1, .slice (some ⟨b45, 0, none⟩) 2 2, .int .i64 0, .int .i64 0, .int .i64 0, .slice (some ⟨b43, 0, none⟩) 1 1, .slice (some ⟨b43, 0, none⟩) 1 1, .bool false, .slice none 0 0, .slice none 0 0, .bool false, .slice none 0 0, .slice none 0 0, .bool false, .slice none 0 0, .slice none 0 0] 30 (0, 0)), (b40, .cells #[.bool false, .slice ad37 (8 + 1) cap37, .slice none 0 0] 28 (0, 0)), (b33, .cells #[.int .u32 1] 56 (0, 0)), (b26, .cells #[.bool y23.1.neg, .slice u24_0_1 y23.1.ln.length u24_0_3, .slice u24_0_4 y23.1.ld.length u24_0_6] 28 (0, 0)), (b19, .cells #[.bool true, .slice none 0 0, .slice none 0 0] 28 (0, 0)), (b17, .cells #[.bool y14.neg, .slice u15_0_1 y14.ln.length u15_0_3, .slice u15_0_4 y14.ld.length u15_0_6] 28 (0, 0))] ∧ Le (rd w59 Y67) (rd w1 Y1) ∧ clearwaylaw24_DynamicsExamples_l150 y14 y23 v50_0 J68 ((24 : Int).toNat - k150) k150 = some y) gq wq → (fun (k150 : Nat) => (24 : Int).toNat - k150) gq < (fun (k150 : Nat) => (24 : Int).toNat - k150) k150 → K150 aq wq) (ht151 : (k150 : Int) < (24 : Int)) (hn150 : ((24 : Int)).toNat - (k150 + 1) = r150) (hp : ((dynamics_Spread_p (ModelD.mk v158_1 v158_2 v158_3 v158_4 v158_5 v158_6 v158_7 v158_8 v158_9 v158_10 v158_11 v158_12) (1099511627776 : Int) (0 : Int) (0 : Int) (9 : Int)).bind fun y161 => (dynamics_Check_p (ModelD.mk v158_1 v158_2 v158_3 v158_4 v158_5 v158_6 v158_7 v158_8 v158_9 v158_10 v158_11 v158_12)).bind fun y164 => if ((y164) != v158_0) = true then (some false) else (if ((v158_0) != 0) = true then (if ((y161.2) != v158_0) = true then (some false) else (if ((v158_0) == 0) = true then (if ((y161.2) != 1) = true then (some false) else (clearwaylaw24_DynamicsExamples_l150 y14 y23 v50_0 J68 r150 (k150 + 1))) else (clearwaylaw24_DynamicsExamples_l150 y14 y23 v50_0 J68 r150 (k150 + 1)))) else (if ((v158_0) == 0) = true then (if ((y161.2) != 1) = true then (some false) else (clearwaylaw24_DynamicsExamples_l150 y14 y23 v50_0 J68 r150 (k150 + 1))) else (clearwaylaw24_DynamicsExamples_l150 y14 y23 v50_0 J68 r150 (k150 + 1))))) = some y) : Go none 0 Tryz.prog (bodyPost Tryz.prog Tryz.f5 (Ret E0 w fun w' v => v = .bool y)) Tryz.f5.ntmps [] w158 ⟨.code (at1 [K149, K150] Tryz.f5 [1, 1, 1, 1, 1, 1, 1, 1, 1, 1, 9, 1, 0, 0, 1, 0, 0, 1, 1, 1]), at2 [K149, K150] Tryz.f5 [1, 1, 1, 1, 1, 1, 1, 1, 1, 1, 9, 1, 0, 0, 1, 0, 0, 1, 1, 1], [(1, .pointer (some ⟨b17, 0, none⟩)), (2, .pointer (some ⟨b19, 0, none⟩)), (3, .pointer (some ⟨b26, 0, none⟩)), (5, .pointer (some ⟨b40, 0, none⟩)), (8, .slice ad48 32 32), (10, .pointer (some ⟨b58, 0, none⟩)), (11, .int .i64 (k150 : Int)), (12, .pointer (some ⟨b156, 0, none⟩)), (13, .int .i64 v158_0)]⟩ := by
 refine zz 2 ?_
 refine zo 0 B158 ?_
 refine bndk hp fun y161 hy161 hp => ?_
 refine zc B158 (dynamics_Spread_c _ X0 (X0_lt _) (ModelD.mk v158_1 v158_2 v158_3 v158_4 v158_5 v158_6 v158_7 v158_8 v158_9 v158_10 v158_11 v158_12) _ ⟨_, _, _, _, _, _, _, _, _, _, _, _, _, _, _, _, _, _, _, _, _, _, _, _, rfl, (hk159_12.mono Le.x0), (hk159_11.mono Le.x0), (hk159_10.mono Le.x0), (hk159_9.mono Le.x0), (hk159_8.mono Le.x0), (hk159_7.mono Le.x0), (hk159_6.mono Le.x0), (hk159_5.mono Le.x0), (hk159_4.mono Le.x0), (hk159_3.mono Le.x0), (hk159_2.mono Le.x0), (hk159_1.mono Le.x0)⟩ (1099511627776 : Int) (0 : Int) (0 : Int) (9 : Int) y161 hy161) ?_
 rintro v162 w162 B162 j162 hu162 ⟨uu162_0, rfl, ⟨u162_0_1, u162_0_2, rfl, u162_0__h0⟩⟩
 refine zz 9 ?_
 refine zo 0 B162 ?_
 refine bndk hp fun y164 hy164 hp => ?_
 refine zc B162 (dynamics_Check_c _ X0 (X0_lt _) (ModelD.mk v158_1 v158_2 v158_3 v158_4 v158_5 v158_6 v158_7 v158_8 v158_9 v158_10 v158_11 v158_12) _ ⟨_, _, _, _, _, _, _, _, _, _, _, _, _, _, _, _, _, _, _, _, _, _, _, _, rfl, ((hk159_12.mono j162).mono Le.x0), ((hk159_11.mono j162).mono Le.x0), ((hk159_10.mono j162).mono Le.x0), ((hk159_9.mono j162).mono Le.x0), ((hk159_8.mono j162).mono Le.x0), ((hk159_7.mono j162).mono Le.x0), ((hk159_6.mono j162).mono Le.x0), ((hk159_5.mono j162).mono Le.x0), ((hk159_4.mono j162).mono Le.x0), ((hk159_3.mono j162).mono Le.x0), ((hk159_2.mono j162).mono Le.x0), ((hk159_1.mono j162).mono Le.x0)⟩ y164 hy164) ?_
 rintro v165 w165 B165 j165 hu165 rfl
 refine zz 3 ?_
 refine zb 217 (b := ((y164) != v158_0)) (fun hc166 => ?_) (fun hc166 => ?_)
 ·
  have hp := ipb hc166 hp
  refine zz 7 ?_
  refine zop (at1 [K149, K150] Tryz.f5 [1, 1, 1, 1, 1, 1, 1, 1, 1, 1, 9, 1, 0, 0, 1, 0, 0, 1, 1, 1, 1, 0]) 12 (fun a167 _ C167 hz167 => zC (d := 225) (v := .bool true) C167 kr (run_pickL1 (v := .bool true) rfl kr kr) ?_)
  intro a168 C168
  refine hz167 C168 ?_
  refine zz 7 ?_
  refine zop (at1 [K149, K150] Tryz.f5 [1, 1, 1, 1, 1, 1, 1, 1, 1, 1, 9, 1, 0, 0, 1, 0, 0, 1, 1, 1, 1, 0]) 20 (fun a169 _ C169 hz169 => zC (d := 233) (v := .bool true) C169 kr (run_pickL1 (v := .bool true) rfl kr kr) ?_)
  intro a170 C170
  refine hz169 C170 ?_
  refine zz 14 ?_
  refine zr' (v := .bool false) ?_
  have hob := Option.some.inj hp
  subst hob
  exact ⟨B165.upd, _, rfl, rfl⟩
 have hp := iqb hc166 hp
 refine zz 3 ?_
 refine zb 220 (b := ((v158_0) != 0)) (fun hc171 => ?_) (fun hc171 => ?_)
 ·
  have hp := ipb hc171 hp
  refine zz 3 ?_
  refine zop (at1 [K149, K150] Tryz.f5 [1, 1, 1, 1, 1, 1, 1, 1, 1, 1, 9, 1, 0, 0, 1, 0, 0, 1, 1, 1, 1, 0]) 11 (fun a172 _ C172 hz172 => zC (d := 224) (v := .bool ((y161.2) != v158_0)) C172 kr (run_pickL1 (v := .bool ((y161.2) != v158_0)) rfl kr kr) ?_)
  intro a173 C173
  refine hz172 C173 ?_
  refine zop (at1 [K149, K150] Tryz.f5 [1, 1, 1, 1, 1, 1, 1, 1, 1, 1, 9, 1, 0, 0, 1, 0, 0, 1, 1, 1, 1, 0]) 12 (fun a174 _ C174 hz174 => zC (d := 225) (v := .bool ((y161.2) != v158_0)) C174 kr (run_pickL0 (v := .bool ((y161.2) != v158_0)) rfl kr kr) ?_)
  intro a175 C175
  refine hz174 C175 ?_
  refine zz 1 ?_
  refine zb 226 (b := ((y161.2) != v158_0)) (fun hc176 => ?_) (fun hc176 => ?_)
  ·
   have hp := ipb hc176 hp
   refine zz 6 ?_
   refine zop (at1 [K149, K150] Tryz.f5 [1, 1, 1, 1, 1, 1, 1, 1, 1, 1, 9, 1, 0, 0, 1, 0, 0, 1, 1, 1, 1, 0]) 20 (fun a177 _ C177 hz177 => zC (d := 233) (v := .bool true) C177 kr (run_pickL1 (v := .bool true) rfl kr kr) ?_)
   intro a178 C178
   refine hz177 C178 ?_
   refine zz 14 ?_
   refine zr' (v := .bool false) ?_
   have hob := Option.some.inj hp
   subst hob
   exact ⟨B165.upd, _, rfl, rfl⟩
  have hp := iqb hc176 hp
  refine zz 3 ?_
  refine zb 229 (b := ((v158_0) == 0)) (fun hc179 => ?_) (fun hc179 => ?_)
  ·
   have hp := ipb hc179 hp
   refine zz 2 ?_
   refine zop (at1 [K149, K150] Tryz.f5 [1, 1, 1, 1, 1, 1, 1, 1, 1, 1, 9, 1, 0, 0, 1, 0, 0, 1, 1, 1, 1, 0]) 19 (fun a180 _ C180 hz180 => zC (d := 232) (v := .bool ((y161.2) != 1)) C180 kr (run_pickL1 (v := .bool ((y161.2) != 1)) rfl kr kr) ?_)
   intro a181 C181
   refine hz180 C181 ?_
   refine zop (at1 [K149, K150] Tryz.f5 [1, 1, 1, 1, 1, 1, 1, 1, 1, 1, 9, 1, 0, 0, 1, 0, 0, 1, 1, 1, 1, 0]) 20 (fun a182 _ C182 hz182 => zC (d := 233) (v := .bool ((y161.2) != 1)) C182 kr (run_pickL0 (v := .bool ((y161.2) != 1)) rfl kr kr) ?_)
   intro a183 C183
   refine hz182 C183 ?_
   refine zz 2 ?_
   refine zb 233 (b := ((y161.2) != 1)) (fun hc184 => ?_) (fun hc184 => ?_)
   ·
    have hp := ipb hc184 hp
    refine zz 12 ?_
    refine zr' (v := .bool false) ?_
    have hob := Option.some.inj hp
    subst hob
    exact ⟨B165.upd, _, rfl, rfl⟩
   have hp := iqb hc184 hp
   refine zz 7 ?_
   refine zs 82 (v := .int .i64 (IntKind.i64.wrap ((k150 : Int) + 1))) (v' := .int .i64 ((k150 : Int) + 1)) (vint (wi64 (wk0 k150) (wk1 ht151 (by decide)))) ?_
   refine zz 2 ?_
   have hc48_ := (Le6 j150 j154 j156 j157 j158 j162).trans j165
   refine znext (fun a h => G150 (k150 + 1) _ a h ⟨_, B165.tail, hc48_, (by rw [hn150]; exact hp)⟩ ?_)
   exact mu_ltN ht151
  have hp := iqb hc179 hp
  refine zz 2 ?_
  refine zop (at1 [K149, K150] Tryz.f5 [1, 1, 1, 1, 1, 1, 1, 1, 1, 1, 9, 1, 0, 0, 1, 0, 0, 1, 1, 1, 1, 0]) 19 (fun a185 _ C185 hz185 => zC (d := 232) (v := .bool false) C185 kr (run_pickL0 (v := .bool false) rfl kr kr) ?_)
  intro a186 C186
  refine hz185 C186 ?_
  refine zop (at1 [K149, K150] Tryz.f5 [1, 1, 1, 1, 1, 1, 1, 1, 1, 1, 9, 1, 0, 0, 1, 0, 0, 1, 1, 1, 1, 0]) 20 (fun a187 _ C187 hz187 => zC (d := 233) (v := .bool false) C187 kr (run_pickL0 (v := .bool false) rfl kr kr) ?_)
  intro a188 C188
  refine hz187 C188 ?_
  refine zz 9 ?_
  refine zs 82 (v := .int .i64 (IntKind.i64.wrap ((k150 : Int) + 1))) (v' := .int .i64 ((k150 : Int) + 1)) (vint (wi64 (wk0 k150) (wk1 ht151 (by decide)))) ?_
  refine zz 2 ?_
  have hc49_ := (Le6 j150 j154 j156 j157 j158 j162).trans j165
  refine znext (fun a h => G150 (k150 + 1) _ a h ⟨_, B165.tail, hc49_, (by rw [hn150]; exact hp)⟩ ?_)
  exact mu_ltN ht151
 have hp := iqb hc171 hp
 refine zz 3 ?_
 refine zop (at1 [K149, K150] Tryz.f5 [1, 1, 1, 1, 1, 1, 1, 1, 1, 1, 9, 1, 0, 0, 1, 0, 0, 1, 1, 1, 1, 0]) 11 (fun a189 _ C189 hz189 => zC (d := 224) (v := .bool false) C189 kr (run_pickL0 (v := .bool false) rfl kr kr) ?_)
 intro a190 C190
 refine hz189 C190 ?_
 refine zop (at1 [K149, K150] Tryz.f5 [1, 1, 1, 1, 1, 1, 1, 1, 1, 1, 9, 1, 0, 0, 1, 0, 0, 1, 1, 1, 1, 0]) 12 (fun a191 _ C191 hz191 => zC (d := 225) (v := .bool false) C191 kr (run_pickL0 (v := .bool false) rfl kr kr) ?_)
 intro a192 C192
 refine hz191 C192 ?_
 refine zz 4 ?_
 refine zb 229 (b := ((v158_0) == 0)) (fun hc193 => ?_) (fun hc193 => ?_)
 ·
  have hp := ipb hc193 hp
  refine zz 2 ?_
  refine zop (at1 [K149, K150] Tryz.f5 [1, 1, 1, 1, 1, 1, 1, 1, 1, 1, 9, 1, 0, 0, 1, 0, 0, 1, 1, 1, 1, 0]) 19 (fun a194 _ C194 hz194 => zC (d := 232) (v := .bool ((y161.2) != 1)) C194 kr (run_pickL1 (v := .bool ((y161.2) != 1)) rfl kr kr) ?_)
  intro a195 C195
  refine hz194 C195 ?_
  refine zop (at1 [K149, K150] Tryz.f5 [1, 1, 1, 1, 1, 1, 1, 1, 1, 1, 9, 1, 0, 0, 1, 0, 0, 1, 1, 1, 1, 0]) 20 (fun a196 _ C196 hz196 => zC (d := 233) (v := .bool ((y161.2) != 1)) C196 kr (run_pickL0 (v := .bool ((y161.2) != 1)) rfl kr kr) ?_)
  intro a197 C197
  refine hz196 C197 ?_
  refine zz 2 ?_
  refine zb 233 (b := ((y161.2) != 1)) (fun hc198 => ?_) (fun hc198 => ?_)
  ·
   have hp := ipb hc198 hp
   refine zz 12 ?_
   refine zr' (v := .bool false) ?_
   have hob := Option.some.inj hp
   subst hob
   exact ⟨B165.upd, _, rfl, rfl⟩
  have hp := iqb hc198 hp
  refine zz 7 ?_
  refine zs 82 (v := .int .i64 (IntKind.i64.wrap ((k150 : Int) + 1))) (v' := .int .i64 ((k150 : Int) + 1)) (vint (wi64 (wk0 k150) (wk1 ht151 (by decide)))) ?_
  refine zz 2 ?_
  have hc50_ := (Le6 j150 j154 j156 j157 j158 j162).trans j165
  refine znext (fun a h => G150 (k150 + 1) _ a h ⟨_, B165.tail, hc50_, (by rw [hn150]; exact hp)⟩ ?_)
  exact mu_ltN ht151
 have hp := iqb hc193 hp
 refine zz 2 ?_
 refine zop (at1 [K149, K150] Tryz.f5 [1, 1, 1, 1, 1, 1, 1, 1, 1, 1, 9, 1, 0, 0, 1, 0, 0, 1, 1, 1, 1, 0]) 19 (fun a199 _ C199 hz199 => zC (d := 232) (v := .bool false) C199 kr (run_pickL0 (v := .bool false) rfl kr kr) ?_)
 intro a200 C200
 refine hz199 C200 ?_
 refine zop (at1 [K149, K150] Tryz.f5 [1, 1, 1, 1, 1, 1, 1, 1, 1, 1, 9, 1, 0, 0, 1, 0, 0, 1, 1, 1, 1, 0]) 20 (fun a201 _ C201 hz201 => zC (d := 233) (v := .bool false) C201 kr (run_pickL0 (v := .bool false) rfl kr kr) ?_)
 intro a202 C202
 refine hz201 C202 ?_
 refine zz 9 ?_
 refine zs 82 (v := .int .i64 (IntKind.i64.wrap ((k150 : Int) + 1))) (v' := .int .i64 ((k150 : Int) + 1)) (vint (wi64 (wk0 k150) (wk1 ht151 (by decide)))) ?_
 refine zz 2 ?_
 have hc51_ := (Le6 j150 j154 j156 j157 j158 j162).trans j165
 refine znext (fun a h => G150 (k150 + 1) _ a h ⟨_, B165.tail, hc51_, (by rw [hn150]; exact hp)⟩ ?_)
 exact mu_ltN ht151
theorem clearwaylaw24_DynamicsExamples_cut248 (w : World) (X : Hid) (y : Bool) (J158 : Int → (List Int) → (List Int) → (List Int) → (List BoundsD) → Int → Int → Int → (List NoiseD) → (List NoiseD) → Raw → Raw → Raw → Option (Bool)) (K149 : Act → World → Prop) (K150 : Act → World → Prop) (K203 : Act → World → Prop) (Y156 : Hid) (ad37 : Option Addr) (ad48 : Option Addr) (b156 : Nat) (b17 : Nat) (b19 : Nat) (b26 : Nat) (b33 : Nat) (b40 : Nat) (b43 : Nat) (b45 : Nat) (b52 : Nat) (b54 : Nat) (b56 : Nat) (b58 : Nat) (cap37 : Nat) (k150 : Nat) (u154_0_1 : Option Addr) (u154_0_10 : Nat) (u154_0_11 : Option Addr) (u154_0_12 : Nat) (u154_0_13 : Option Addr) (u154_0_14 : Nat) (u154_0_15 : Option Addr) (u154_0_16 : Nat) (u154_0_17 : Option Addr) (u154_0_18 : Nat) (u154_0_19 : Option Addr) (u154_0_2 : Nat) (u154_0_20 : Nat) (u154_0_21 : Option Addr) (u154_0_22 : Nat) (u154_0_23 : Option Addr) (u154_0_24 : Nat) (u154_0_3 : Option Addr) (u154_0_4 : Nat) (u154_0_5 : Option Addr) (u154_0_6 : Nat) (u154_0_7 : Option Addr) (u154_0_8 : Nat) (u154_0_9 : Option Addr) (u15_0_1 : Option Addr) (u15_0_3 : Nat) (u15_0_4 : Option Addr) (u15_0_6 : Nat) (u24_0_1 : Option Addr) (u24_0_3 : Nat) (u24_0_4 : Option Addr) (u24_0_6 : Nat) (v50_0 : List Int) (w157 : World) (y14 : Raw) (y153 : ModelD) (y23 : Raw × Int) (B157 : St E0 w X w157 Y156 [(b156, .cells #[.slice u154_0_1 y153.height.length u154_0_2, .slice u154_0_3 y153.own.length u154_0_4, .slice u154_0_5 y153.other.length u154_0_6, .slice u154_0_7 y153.advisories.length u154_0_8, .int .i64 y153.pull, .int .i64 y153.near, .int .i64 y153.steps, .slice u154_0_9 y153.ownNoise.length u154_0_10, .slice u154_0_11 y153.otherNoise.length u154_0_12, .bool y153.alert.neg, .slice u154_0_13 y153.alert.ln.length u154_0_14, .slice u154_0_15 y153.alert.ld.length u154_0_16, .bool y153.strengthen.neg, .slice u154_0_17 y153.strengthen.ln.length u154_0_18, .slice u154_0_19 y153.strengthen.ld.length u154_0_20, .bool y153.reversal.neg, .slice u154_0_21 y153.reversal.ln.length u154_0_22, .slice u154_0_23 y153.reversal.ld.length u154_0_24] 30 (0, 0)), (b58, .cells #[.slice (some ⟨b52, 0, none⟩) 1 1, .slice (some ⟨b54, 0, none⟩) 1 1, .slice (some ⟨b56, 0, none⟩) 1 1, .slice (some ⟨b45, 0, none⟩) 2 2, .int .i64 0, .int .i64 0, .int .i64 0, .slice (some ⟨b43, 0, none⟩) 1 1, .slice (some ⟨b43, 0, none⟩) 1 1, .bool false, .slice none 0 0, .slice none 0 0, .bool false, .slice none 0 0, .slice none 0 0, .bool false, .slice none 0 0, .slice none 0 0] 30 (0, 0)), (b40, .cells #[.bool false, .slice ad37 (8 + 1) cap37, .slice none 0 0] 28 (0, 0)), (b33, .cells #[.int .u32 1] 56 (0, 0)), (b26, .cells #[.bool y23.1.neg, .slice u24_0_1 y23.1.ln.length u24_0_3, .slice u24_0_4 y23.1.ld.length u24_0_6] 28 (0, 0)), (b19, .cells #[.bool true, .slice none 0 0, .slice none 0 0] 28 (0, 0)), (b17, .cells #[.bool y14.neg, .slice u15_0_1 y14.ln.length u15_0_3, .slice u15_0_4 y14.ld.length u15_0_6] 28 (0, 0))]) (hk248_1 : Limbs (rd w157 Y156) u154_0_23 y153.reversal.ld.length u154_0_24 y153.reversal.ld) (hk248_2 : Limbs (rd w157 Y156) u154_0_21 y153.reversal.ln.length u154_0_22 y153.reversal.ln) (hk248_3 : Limbs (rd w157 Y156) u154_0_19 y153.strengthen.ld.length u154_0_20 y153.strengthen.ld) (hk248_4 : Limbs (rd w157 Y156) u154_0_17 y153.strengthen.ln.length u154_0_18 y153.strengthen.ln) (hk248_5 : Limbs (rd w157 Y156) u154_0_15 y153.alert.ld.length u154_0_16 y153.alert.ld) (hk248_6 : Limbs (rd w157 Y156) u154_0_13 y153.alert.ln.length u154_0_14 y153.alert.ln) (hk248_7 : NoiseDS (rd w157 Y156) u154_0_11 y153.otherNoise.length u154_0_12 y153.otherNoise) (hk248_8 : NoiseDS (rd w157 Y156) u154_0_9 y153.ownNoise.length u154_0_10 y153.ownNoise) (hk248_9 : BoundsDS (rd w157 Y156) u154_0_7 y153.advisories.length u154_0_8 y153.advisories) (hk248_10 : Ints (rd w157 Y156) u154_0_5 y153.other.length u154_0_6 y153.other) (hk248_11 : Ints (rd w157 Y156) u154_0_3 y153.own.length u154_0_4 y153.own) (hk248_12 : Ints (rd w157 Y156) u154_0_1 y153.height.length u154_0_2 y153.height) (hk248_18 : Limbs (rd w157 (orN Y156 w.heap.size)) ad37 (8 + 1) cap37 ((List.replicate 8 (0 : Nat)) ++ [1])) (hk248_19 : Ints (rd w157 (orN Y156 w.heap.size)) ad48 32 32 v50_0) (hk248_20 : Limbs (rd w157 (orN Y156 w.heap.size)) u24_0_4 y23.1.ld.length u24_0_6 y23.1.ld) (hk248_21 : Limbs (rd w157 (orN Y156 w.heap.size)) u24_0_1 y23.1.ln.length u24_0_3 y23.1.ln) (G203 : ∀ (gq : Int × (List Int) × (List Int) × (List Int) × (List BoundsD) × Int × Int × Int × (List NoiseD) × (List NoiseD) × Raw × Raw × Raw × (Option Addr) × Nat × Nat × (Option Addr) × Nat × (Option Addr) × Nat × (Option Addr) × Nat × Nat × (Option Addr) × Nat × (Option Addr) × Nat × Nat × (Option Addr) × Nat × (Option Addr) × Nat × (Option Addr) × Nat × Nat × (Option Addr) × Nat × Nat × (Option Addr) × Nat × (Option Addr) × Nat) (wq : World) (aq : Act), Fr Tryz.f5.ntmps aq ((fun ((v158_0, v158_1, v158_2, v158_3, v158_4, v158_5, v158_6, v158_7, v158_8, v158_9, v158_10, v158_11, v158_12, ad158_1, ml158_1, cap158_1, ad158_2, cap158_2, ad158_3, cap158_3, ad158_4, ml158_4, cap158_4, ad158_8, cap158_8, ad158_9, ml158_9, cap158_9, a158_10_1, a158_10_2, a158_10_3, a158_10_4, a158_11_1, ml158_11_1, a158_11_2, a158_11_3, ml158_11_2, a158_11_4, a158_12_1, a158_12_2, a158_12_3, a158_12_4) : Int × (List Int) × (List Int) × (List Int) × (List BoundsD) × Int × Int × Int × (List NoiseD) × (List NoiseD) × Raw × Raw × Raw × (Option Addr) × Nat × Nat × (Option Addr) × Nat × (Option Addr) × Nat × (Option Addr) × Nat × Nat × (Option Addr) × Nat × (Option Addr) × Nat × Nat × (Option Addr) × Nat × (Option Addr) × Nat × (Option Addr) × Nat × Nat × (Option Addr) × Nat × Nat × (Option Addr) × Nat × (Option Addr) × Nat) => [(13, .int .i64 v158_0), (1, .pointer (some ⟨b17, 0, none⟩)), (2, .pointer (some ⟨b19, 0, none⟩)), (3, .pointer (some ⟨b26, 0, none⟩)), (5, .pointer (some ⟨b40, 0, none⟩)), (8, .slice ad48 32 32), (10, .pointer (some ⟨b58, 0, none⟩)), (11, .int .i64 (k150 : Int)), (12, .pointer (some ⟨b156, 0, none⟩))]) gq) [] → (fun ((v158_0, v158_1, v158_2, v158_3, v158_4, v158_5, v158_6, v158_7, v158_8, v158_9, v158_10, v158_11, v158_12, ad158_1, ml158_1, cap158_1, ad158_2, cap158_2, ad158_3, cap158_3, ad158_4, ml158_4, cap158_4, ad158_8, cap158_8, ad158_9, ml158_9, cap158_9, a158_10_1, a158_10_2, a158_10_3, a158_10_4, a158_11_1, ml158_11_1, a158_11_2, a158_11_3, ml158_11_2, a158_11_4, a158_12_1, a158_12_2, a158_12_3, a158_12_4) : Int × (List Int) × (List Int) × (List Int) × (List BoundsD) × Int × Int × Int × (List NoiseD) × (List NoiseD) × Raw × Raw × Raw × (Option Addr) × Nat × Nat × (Option Addr) × Nat × (Option Addr) × Nat × (Option Addr) × Nat × Nat × (Option Addr) × Nat × (Option Addr) × Nat × Nat × (Option Addr) × Nat × (Option Addr) × Nat × (Option Addr) × Nat × Nat × (Option Addr) × Nat × Nat × (Option Addr) × Nat × (Option Addr) × Nat) (w1 : World) => ∃ Y1 : Hid, St E0 w X w1 Y1 [(b156, .cells #[.slice ad158_1 ml158_1 cap158_1, .slice ad158_2 v158_2.length cap158_2, .slice ad158_3 v158_3.length cap158_3, .slice ad158_4 ml158_4 cap158_4, .int .i64 v158_5, .int .i64 v158_6, .int .i64 v158_7, .slice ad158_8 v158_8.length cap158_8, .slice ad158_9 ml158_9 cap158_9, .bool v158_10.neg, .slice a158_10_1 v158_10.ln.length a158_10_2, .slice a158_10_3 v158_10.ld.length a158_10_4, .bool v158_11.neg, .slice a158_11_1 ml158_11_1 a158_11_2, .slice a158_11_3 ml158_11_2 a158_11_4, .bool v158_12.neg, .slice a158_12_1 v158_12.ln.length a158_12_2, .slice a158_12_3 v158_12.ld.length a158_12_4] 30 (0, 0)), (b58, .cells #[.slice (some ⟨b52, 0, none⟩) 1 1, .slice (some ⟨b54, 0, none⟩) 1 1, .slice (some ⟨b56, 0, none⟩) 1 1, .slice (some ⟨b45, 0, none⟩) 2 2, .int .i64 0, .int .i64 0, .int .i64 0, .slice (some ⟨b43, 0, none⟩) 1 1, .slice (some ⟨b43, 0, none⟩) 1 1, .bool false, .slice none 0 0, .slice none 0 0, .bool false, .slice none 0 0, .slice none 0 0, .bool false, .slice none 0 0, .slice none 0 0] 30 (0, 0)), (b40, .cells #[.bool false, .slice ad37 (8 + 1) cap37, .slice none 0 0] 28 (0, 0)), (b33, .cells #[.int .u32 1] 56 (0, 0)), (b26, .cells #[.bool y23.1.neg, .slice u24_0_1 y23.1.ln.length u24_0_3, .slice u24_0_4 y23.1.ld.length u24_0_6] 28 (0, 0)), (b19, .cells #[.bool true, .slice none 0 0, .slice none 0 0] 28 (0, 0)), (b17, .cells #[.bool y14.neg, .slice u15_0_1 y14.ln.length u15_0_3, .slice u15_0_4 y14.ld.length u15_0_6] 28 (0, 0))] ∧ Le (rd w157 Y156) (rd w1 Y1) ∧ Ints (rd w1 Y1) ad158_1 ml158_1 cap158_1 v158_1 ∧ Ints (rd w1 Y1) ad158_2 v158_2.length cap158_2 v158_2 ∧ Ints (rd w1 Y1) ad158_3 v158_3.length cap158_3 v158_3 ∧ BoundsDS (rd w1 Y1) ad158_4 ml158_4 cap158_4 v158_4 ∧ NoiseDS (rd w1 Y1) ad158_8 v158_8.length cap158_8 v158_8 ∧ NoiseDS (rd w1 Y1) ad158_9 ml158_9 cap158_9 v158_9 ∧ Limbs (rd w1 Y1) a158_10_1 v158_10.ln.length a158_10_2 v158_10.ln ∧ Limbs (rd w1 Y1) a158_10_3 v158_10.ld.length a158_10_4 v158_10.ld ∧ Limbs (rd w1 Y1) a158_11_1 ml158_11_1 a158_11_2 v158_11.ln ∧ Limbs (rd w1 Y1) a158_11_3 ml158_11_2 a158_11_4 v158_11.ld ∧ Limbs (rd w1 Y1) a158_12_1 v158_12.ln.length a158_12_2 v158_12.ln ∧ Limbs (rd w1 Y1) a158_12_3 v158_12.ld.length a158_12_4 v158_12.ld ∧ J158 v158_0 v158_1 v158_2 v158_3 v158_4 v158_5 v158_6 v158_7 v158_8 v158_9 v158_10 v158_11 v158_12 = some y) gq wq → K203 aq wq) (hp : (if ((k150 : Int) == 9) = true then (J158 1 y153.height y153.own y153.other y153.advisories y153.pull (-1) y153.steps y153.ownNoise y153.otherNoise y153.alert y153.strengthen y153.reversal) else (if ((k150 : Int) == 10) = true then (J158 1 y153.height y153.own y153.other y153.advisories y153.pull y153.near 25 y153.ownNoise y153.otherNoise y153.alert y153.strengthen y153.reversal) else (if ((k150 : Int) == 11) = true then (J158 3 y153.height y153.own y153.other y153.advisories y153.pull y153.near y153.steps ([] : List NoiseD) ([(NoiseD.mk 0 y23.1)]) y153.alert y153.strengthen y153.reversal) else (if ((k150 : Int) == 12) = true then (grd (0 ≤ (6 : Int) ∧ 64 * 6 ≤ 281474976710656 ∧ 6 ≤ 140737488355328) <| J158 4 y153.height y153.own y153.other y153.advisories y153.pull y153.near y153.steps y153.ownNoise (List.replicate 6 (NoiseD.mk 0 Raw.zero)) y153.alert y153.strengthen y153.reversal) else (if ((k150 : Int) == 13) = true then (J158 1 y153.height y153.own y153.other y153.advisories y153.pull y153.near y153.steps ([(NoiseD.mk 101 (Raw.mk true ([] : List Nat) ([] : List Nat)))]) y153.otherNoise y153.alert y153.strengthen y153.reversal) else (if ((k150 : Int) == 14) = true then (J158 16 y153.height y153.own y153.other y153.advisories y153.pull y153.near y153.steps ([(NoiseD.mk 0 y23.1), (NoiseD.mk 0 (Raw.mk true ([] : List Nat) ([] : List Nat)))]) y153.otherNoise y153.alert y153.strengthen y153.reversal) else (if ((k150 : Int) == 15) = true then (J158 2 y153.height y153.own y153.other y153.advisories y153.pull y153.near y153.steps ([(NoiseD.mk 0 (Raw.mk true ([] : List Nat) ([] : List Nat)))]) y153.otherNoise y153.alert y153.strengthen y153.reversal) else (if ((k150 : Int) == 16) = true then (J158 4 y153.height y153.own y153.other y153.advisories y153.pull y153.near y153.steps ([(NoiseD.mk 0 (Raw.mk false ((List.replicate 8 (0 : Nat)) ++ [1]) ([] : List Nat)))]) y153.otherNoise y153.alert y153.strengthen y153.reversal) else (if ((k150 : Int) == 17) = true then (J158 1 y153.height y153.own y153.other y153.advisories y153.pull y153.near y153.steps ([(NoiseD.mk 0 Raw.zero)]) y153.otherNoise y153.alert y153.strengthen y153.reversal) else (if ((k150 : Int) == 18) = true then (J158 2 y153.height y153.own y153.other y153.advisories y153.pull y153.near y153.steps y153.ownNoise ([(NoiseD.mk 0 y23.1)]) y153.alert y153.strengthen y153.reversal) else (if ((k150 : Int) == 19) = true then (J158 2 y153.height y153.own y153.other y153.advisories y153.pull y153.near y153.steps y153.ownNoise y153.otherNoise (Raw.mk true ([] : List Nat) ([] : List Nat)) y153.strengthen y153.reversal) else (if ((k150 : Int) == 20) = true then (J158 4 y153.height y153.own y153.other y153.advisories y153.pull y153.near y153.steps y153.ownNoise y153.otherNoise y153.alert (Raw.mk false ((List.replicate 8 (0 : Nat)) ++ [1]) ([] : List Nat)) y153.reversal) else (if ((k150 : Int) == 21) = true then ((clearwayref06_From_p (-1)).bind fun y302 => J158 1 y153.height y153.own y153.other y153.advisories y153.pull y153.near y153.steps y153.ownNoise y153.otherNoise y153.alert y153.strengthen y302) else (if ((k150 : Int) == 22) = true then (J158 10 v50_0 ([0, 1, 2, 3]) y153.other y153.advisories y153.pull y153.near y153.steps y153.ownNoise y153.otherNoise y153.alert y153.strengthen y153.reversal) else (if ((k150 : Int) == 23) = true then (J158 0 v50_0 ([0, 1, 2]) y153.other y153.advisories y153.pull y153.near y153.steps y153.ownNoise y153.otherNoise y153.alert y153.strengthen y153.reversal) else (J158 1 y153.height y153.own y153.other y153.advisories y153.pull y153.near y153.steps y153.ownNoise y153.otherNoise y153.alert y153.strengthen y153.reversal)))))))))))))))) = some y) : Go none 0 Tryz.prog (bodyPost Tryz.prog Tryz.f5 (Ret E0 w fun w' v => v = .bool y)) Tryz.f5.ntmps [] w157 ⟨.code (at1 [K149, K150, K203] Tryz.f5 [1, 1, 1, 1, 1, 1, 1, 1, 1, 1, 9, 1, 0, 0, 1, 0, 0, 1, 1, 9, 1, 0, 1, 1, 1, 1, 1, 1, 1, 1, 1, 1, 1, 1, 1, 1, 1, 1, 1, 1, 1]), at2 [K149, K150, K203] Tryz.f5 [1, 1, 1, 1, 1, 1, 1, 1, 1, 1, 9, 1, 0, 0, 1, 0, 0, 1, 1, 9, 1, 0, 1, 1, 1, 1, 1, 1, 1, 1, 1, 1, 1, 1, 1, 1, 1, 1, 1, 1, 1], [(1, .pointer (some ⟨b17, 0, none⟩)), (2, .pointer (some ⟨b19, 0, none⟩)), (3, .pointer (some ⟨b26, 0, none⟩)), (5, .pointer (some ⟨b40, 0, none⟩)), (8, .slice ad48 32 32), (10, .pointer (some ⟨b58, 0, none⟩)), (11, .int .i64 (k150 : Int)), (12, .pointer (some ⟨b156, 0, none⟩)), (13, .int .i64 1), (85, .int .i64 (k150 : Int)), (130, .bool ((k150 : Int) == 9))]⟩ := by
 refine zb 130 (b := ((k150 : Int) == 9)) (fun hc249 => ?_) (fun hc249 => ?_)
 ·
  have hp := ipb hc249 hp
  refine zz 3 ?_
  refine zx 0 #[.slice u154_0_1 y153.height.length u154_0_2, .slice u154_0_3 y153.own.length u154_0_4, .slice u154_0_5 y153.other.length u154_0_6, .slice u154_0_7 y153.advisories.length u154_0_8, .int .i64 y153.pull, .int .i64 (-1), .int .i64 y153.steps, .slice u154_0_9 y153.ownNoise.length u154_0_10, .slice u154_0_11 y153.otherNoise.length u154_0_12, .bool y153.alert.neg, .slice u154_0_13 y153.alert.ln.length u154_0_14, .slice u154_0_15 y153.alert.ld.length u154_0_16, .bool y153.strengthen.neg, .slice u154_0_17 y153.strengthen.ln.length u154_0_18, .slice u154_0_19 y153.strengthen.ld.length u154_0_20, .bool y153.reversal.neg, .slice u154_0_21 y153.reversal.ln.length u154_0_22, .slice u154_0_23 y153.reversal.ld.length u154_0_24] B157 ?_
  intro w250 B250 j250
  refine zz 2 ?_
  exact znext (fun a h => G203 (1, y153.height, y153.own, y153.other, y153.advisories, y153.pull, (-1), y153.steps, y153.ownNoise, y153.otherNoise, y153.alert, y153.strengthen, y153.reversal, u154_0_1, y153.height.length, u154_0_2, u154_0_3, u154_0_4, u154_0_5, u154_0_6, u154_0_7, y153.advisories.length, u154_0_8, u154_0_9, u154_0_10, u154_0_11, y153.otherNoise.length, u154_0_12, u154_0_13, u154_0_14, u154_0_15, u154_0_16, u154_0_17, y153.strengthen.ln.length, u154_0_18, u154_0_19, y153.strengthen.ld.length, u154_0_20, u154_0_21, u154_0_22, u154_0_23, u154_0_24) _ a h ⟨_, B250, j250, (hk248_12.mono j250), (hk248_11.mono j250), (hk248_10.mono j250), (hk248_9.mono j250), (hk248_8.mono j250), (hk248_7.mono j250), (hk248_6.mono j250), (hk248_5.mono j250), (hk248_4.mono j250), (hk248_3.mono j250), (hk248_2.mono j250), (hk248_1.mono j250), hp⟩)
 have hp := iqb hc249 hp
 refine zz 7 ?_
 refine zb 133 (b := ((k150 : Int) == 10)) (fun hc251 => ?_) (fun hc251 => ?_)
 ·
  have hp := ipb hc251 hp
  refine zz 3 ?_
  refine zx 0 #[.slice u154_0_1 y153.height.length u154_0_2, .slice u154_0_3 y153.own.length u154_0_4, .slice u154_0_5 y153.other.length u154_0_6, .slice u154_0_7 y153.advisories.length u154_0_8, .int .i64 y153.pull, .int .i64 y153.near, .int .i64 25, .slice u154_0_9 y153.ownNoise.length u154_0_10, .slice u154_0_11 y153.otherNoise.length u154_0_12, .bool y153.alert.neg, .slice u154_0_13 y153.alert.ln.length u154_0_14, .slice u154_0_15 y153.alert.ld.length u154_0_16, .bool y153.strengthen.neg, .slice u154_0_17 y153.strengthen.ln.length u154_0_18, .slice u154_0_19 y153.strengthen.ld.length u154_0_20, .bool y153.reversal.neg, .slice u154_0_21 y153.reversal.ln.length u154_0_22, .slice u154_0_23 y153.reversal.ld.length u154_0_24] B157 ?_
  intro w252 B252 j252
  refine zz 2 ?_
  exact znext (fun a h => G203 (1, y153.height, y153.own, y153.other, y153.advisories, y153.pull, y153.near, 25, y153.ownNoise, y153.otherNoise, y153.alert, y153.strengthen, y153.reversal, u154_0_1, y153.height.length, u154_0_2, u154_0_3, u154_0_4, u154_0_5, u154_0_6, u154_0_7, y153.advisories.length, u154_0_8, u154_0_9, u154_0_10, u154_0_11, y153.otherNoise.length, u154_0_12, u154_0_13, u154_0_14, u154_0_15, u154_0_16, u154_0_17, y153.strengthen.ln.length, u154_0_18, u154_0_19, y153.strengthen.ld.length, u154_0_20, u154_0_21, u154_0_22, u154_0_23, u154_0_24) _ a h ⟨_, B252, j252, (hk248_12.mono j252), (hk248_11.mono j252), (hk248_10.mono j252), (hk248_9.mono j252), (hk248_8.mono j252), (hk248_7.mono j252), (hk248_6.mono j252), (hk248_5.mono j252), (hk248_4.mono j252), (hk248_3.mono j252), (hk248_2.mono j252), (hk248_1.mono j252), hp⟩)
 have hp := iqb hc251 hp
 refine zz 7 ?_
 refine zb 136 (b := ((k150 : Int) == 11)) (fun hc253 => ?_) (fun hc253 => ?_)
 ·
  have hp := ipb hc253 hp
  refine zz 1 ?_
  refine zdrs [1, 2, 3, 4, 5, 6] B157 ?_
  refine gw 0 3 ?_
  refine gz [1, 3] ?_
  refine gp (al 2 140 (fun b => .slice (some ⟨b, 0, none⟩) 1 1) (.cells #[.int .i64 0, .bool y23.1.neg, .slice u24_0_1 y23.1.ln.length u24_0_3, .slice u24_0_4 y23.1.ld.length u24_0_6] 58 (0, 0))) ?_
  refine gXsB 4 0 [1, 2, 3, 4, 5, 6] #[.slice u154_0_1 y153.height.length u154_0_2, .slice u154_0_3 y153.own.length u154_0_4, .slice u154_0_5 y153.other.length u154_0_6, .slice u154_0_7 y153.advisories.length u154_0_8, .int .i64 y153.pull, .int .i64 y153.near, .int .i64 y153.steps, .slice none 0 0, .slice u154_0_11 y153.otherNoise.length u154_0_12, .bool y153.alert.neg, .slice u154_0_13 y153.alert.ln.length u154_0_14, .slice u154_0_15 y153.alert.ld.length u154_0_16, .bool y153.strengthen.neg, .slice u154_0_17 y153.strengthen.ln.length u154_0_18, .slice u154_0_19 y153.strengthen.ld.length u154_0_20, .bool y153.reversal.neg, .slice u154_0_21 y153.reversal.ln.length u154_0_22, .slice u154_0_23 y153.reversal.ld.length u154_0_24] ?_ PdOk.nil.k
  intro w254 Y254 j254
  refine gp ⟨5, 142, [5], fun _ => .pointer (some ⟨b156, 8, none⟩), none⟩ ?_
  refine ge (fun e255 => ?_) PdOk.nil.k.k
  refine gXs 6 1 [2, 3, 4, 5, 6, 7] #[.slice u154_0_1 y153.height.length u154_0_2, .slice u154_0_3 y153.own.length u154_0_4, .slice u154_0_5 y153.other.length u154_0_6, .slice u154_0_7 y153.advisories.length u154_0_8, .int .i64 y153.pull, .int .i64 y153.near, .int .i64 y153.steps, .slice none 0 0, .slice (some ⟨(e255 2), 0, none⟩) 1 1, .bool y153.alert.neg, .slice u154_0_13 y153.alert.ln.length u154_0_14, .slice u154_0_15 y153.alert.ld.length u154_0_16, .bool y153.strengthen.neg, .slice u154_0_17 y153.strengthen.ln.length u154_0_18, .slice u154_0_19 y153.strengthen.ld.length u154_0_20, .bool y153.reversal.neg, .slice u154_0_21 y153.reversal.ln.length u154_0_22, .slice u154_0_23 y153.reversal.ld.length u154_0_24] ?_
  intro w256 Y256 j256
  refine gz [7] ?_
  refine gend (fun w257 Y257 B257 j257 => ?_)
  refine zz 1 ?_
  have hob := St.pubAt 0 B257 rfl
  obtain ⟨Y258, hSx258, j258, hat258, hatN258⟩ := hob
  have B258 : St E0 w X w257 Y258 [(b156, .cells #[.slice u154_0_1 y153.height.length u154_0_2, .slice u154_0_3 y153.own.length u154_0_4, .slice u154_0_5 y153.other.length u154_0_6, .slice u154_0_7 y153.advisories.length u154_0_8, .int .i64 y153.pull, .int .i64 y153.near, .int .i64 y153.steps, .slice none 0 0, .slice (some ⟨(e255 2), 0, none⟩) 1 1, .bool y153.alert.neg, .slice u154_0_13 y153.alert.ln.length u154_0_14, .slice u154_0_15 y153.alert.ld.length u154_0_16, .bool y153.strengthen.neg, .slice u154_0_17 y153.strengthen.ln.length u154_0_18, .slice u154_0_19 y153.strengthen.ld.length u154_0_20, .bool y153.reversal.neg, .slice u154_0_21 y153.reversal.ln.length u154_0_22, .slice u154_0_23 y153.reversal.ld.length u154_0_24] 30 (0, 0)), (b58, .cells #[.slice (some ⟨b52, 0, none⟩) 1 1, .slice (some ⟨b54, 0, none⟩) 1 1, .slice (some ⟨b56, 0, none⟩) 1 1, .slice (some ⟨b45, 0, none⟩) 2 2, .int .i64 0, .int .i64 0, .int .i64 0, .slice (some ⟨b43, 0, none⟩) 1 1, .slice (some ⟨b43, 0, none⟩) 1 1, .bool false, .slice none 0 0, .slice none 0 0, .bool false, .slice none 0 0, .slice none 0 0, .bool false, .slice none 0 0, .slice none 0 0] 30 (0, 0)), (b40, .cells #[.bool false, .slice ad37 (8 + 1) cap37, .slice none 0 0] 28 (0, 0)), (b33, .cells #[.int .u32 1] 56 (0, 0)), (b26, .cells #[.bool y23.1.neg, .slice u24_0_1 y23.1.ln.length u24_0_3, .slice u24_0_4 y23.1.ld.length u24_0_6] 28 (0, 0)), (b19, .cells #[.bool true, .slice none 0 0, .slice none 0 0] 28 (0, 0)), (b17, .cells #[.bool y14.neg, .slice u15_0_1 y14.ln.length u15_0_3, .slice u15_0_4 y14.ld.length u15_0_6] 28 (0, 0))] := hSx258
  have hc78_ := (Le3 j254 j256 j257).trans j258
  have hR258 : NoiseDS (rd w257 (orN Y258 w.heap.size)) (some ⟨(e255 2), 0, none⟩) 1 1 [(NoiseD.mk 0 y23.1)] := (SlR.lit (El := NoiseDAt) (size := 4) (n := 1) [⟨(NoiseD.mk 0 y23.1), [.int .i64 0, .bool y23.1.neg, .slice u24_0_1 y23.1.ln.length u24_0_3, .slice u24_0_4 y23.1.ld.length u24_0_6]⟩] (hatN258 _ (Nat.le_refl _)) (List.forall_mem_cons.2 ⟨⟨rfl, fun r2 h2 b o h9 => ⟨_, _, _, _, h9, ((hk248_21.mono (Le.or hc78_ _)).mono h2), ((hk248_20.mono (Le.or hc78_ _)).mono h2)⟩⟩, (List.forall_mem_nil _)⟩) rfl (by decide))
  exact znext (fun a h => G203 (3, y153.height, y153.own, y153.other, y153.advisories, y153.pull, y153.near, y153.steps, ([] : List NoiseD), [(NoiseD.mk 0 y23.1)], y153.alert, y153.strengthen, y153.reversal, u154_0_1, y153.height.length, u154_0_2, u154_0_3, u154_0_4, u154_0_5, u154_0_6, u154_0_7, y153.advisories.length, u154_0_8, none, 0, (some ⟨(e255 2), 0, none⟩), 1, 1, u154_0_13, u154_0_14, u154_0_15, u154_0_16, u154_0_17, y153.strengthen.ln.length, u154_0_18, u154_0_19, y153.strengthen.ld.length, u154_0_20, u154_0_21, u154_0_22, u154_0_23, u154_0_24) _ a h ⟨_, B258, hc78_, (hk248_12.mono hc78_), (hk248_11.mono hc78_), (hk248_10.mono hc78_), (hk248_9.mono hc78_), (show NoiseDS _ none 0 0 [] from SlR.nil none (by decide)), (hR258.mono Le.orl), (hk248_6.mono hc78_), (hk248_5.mono hc78_), (hk248_4.mono hc78_), (hk248_3.mono hc78_), (hk248_2.mono hc78_), (hk248_1.mono hc78_), hp⟩)
 have hp := iqb hc253 hp
 refine zz 7 ?_
 refine zb 143 (b := ((k150 : Int) == 12)) (fun hc259 => ?_) (fun hc259 => ?_)
 ·
  have hp := ipb hc259 hp
  refine zz 2 ?_
  have hob := grdp hp
  obtain ⟨hg261, hp⟩ := hob
  refine zop (at1 [K149, K150, K203] Tryz.f5 [1, 1, 1, 1, 1, 1, 1, 1, 1, 1, 9, 1, 0, 0, 1, 0, 0, 1, 1, 9, 1, 0, 1, 1, 1, 1, 1, 1, 1, 1, 1, 1, 1, 1, 1, 1, 1, 1, 1, 1, 1, 1, 1, 1, 1, 1, 1, 0]) 0 (fun a260 _ C260 hz260 => op_makeG (d := 145) (Cl := NoiseDCs) (l := 6) (m := 6) (size := 4) (b := 64) (e := 58) (i0 := Tryz.t58) (z0 := (NoiseD.mk 0 Raw.zero)) (A := [(b156, .cells #[.slice u154_0_1 y153.height.length u154_0_2, .slice u154_0_3 y153.own.length u154_0_4, .slice u154_0_5 y153.other.length u154_0_6, .slice u154_0_7 y153.advisories.length u154_0_8, .int .i64 y153.pull, .int .i64 y153.near, .int .i64 y153.steps, .slice u154_0_9 y153.ownNoise.length u154_0_10, .slice u154_0_11 y153.otherNoise.length u154_0_12, .bool y153.alert.neg, .slice u154_0_13 y153.alert.ln.length u154_0_14, .slice u154_0_15 y153.alert.ld.length u154_0_16, .bool y153.strengthen.neg, .slice u154_0_17 y153.strengthen.ln.length u154_0_18, .slice u154_0_19 y153.strengthen.ld.length u154_0_20, .bool y153.reversal.neg, .slice u154_0_21 y153.reversal.ln.length u154_0_22, .slice u154_0_23 y153.reversal.ld.length u154_0_24] 30 (0, 0)), (b58, .cells #[.slice (some ⟨b52, 0, none⟩) 1 1, .slice (some ⟨b54, 0, none⟩) 1 1, .slice (some ⟨b56, 0, none⟩) 1 1, .slice (some ⟨b45, 0, none⟩) 2 2, .int .i64 0, .int .i64 0, .int .i64 0, .slice (some ⟨b43, 0, none⟩) 1 1, .slice (some ⟨b43, 0, none⟩) 1 1, .bool false, .slice none 0 0, .slice none 0 0, .bool false, .slice none 0 0, .slice none 0 0, .bool false, .slice none 0 0, .slice none 0 0] 30 (0, 0)), (b40, .cells #[.bool false, .slice ad37 (8 + 1) cap37, .slice none 0 0] 28 (0, 0)), (b33, .cells #[.int .u32 1] 56 (0, 0)), (b26, .cells #[.bool y23.1.neg, .slice u24_0_1 y23.1.ln.length u24_0_3, .slice u24_0_4 y23.1.ld.length u24_0_6] 28 (0, 0)), (b19, .cells #[.bool true, .slice none 0 0, .slice none 0 0] 28 (0, 0)), (b17, .cells #[.bool y14.neg, .slice u15_0_1 y14.ln.length u15_0_3, .slice u15_0_4 y14.ld.length u15_0_6] 28 (0, 0))]) (B := []) (r := fun w1 Y1 => rd w1 (orN Y1 w.heap.size)) (fun rb => ((b156, .cells #[.slice u154_0_1 y153.height.length u154_0_2, .slice u154_0_3 y153.own.length u154_0_4, .slice u154_0_5 y153.other.length u154_0_6, .slice u154_0_7 y153.advisories.length u154_0_8, .int .i64 y153.pull, .int .i64 y153.near, .int .i64 y153.steps, .slice u154_0_9 y153.ownNoise.length u154_0_10, .slice u154_0_11 y153.otherNoise.length u154_0_12, .bool y153.alert.neg, .slice u154_0_13 y153.alert.ln.length u154_0_14, .slice u154_0_15 y153.alert.ld.length u154_0_16, .bool y153.strengthen.neg, .slice u154_0_17 y153.strengthen.ln.length u154_0_18, .slice u154_0_19 y153.strengthen.ld.length u154_0_20, .bool y153.reversal.neg, .slice u154_0_21 y153.reversal.ln.length u154_0_22, .slice u154_0_23 y153.reversal.ld.length u154_0_24] 30 (0, 0)) :: (b58, .cells #[.slice (some ⟨b52, 0, none⟩) 1 1, .slice (some ⟨b54, 0, none⟩) 1 1, .slice (some ⟨b56, 0, none⟩) 1 1, .slice (some ⟨b45, 0, none⟩) 2 2, .int .i64 0, .int .i64 0, .int .i64 0, .slice (some ⟨b43, 0, none⟩) 1 1, .slice (some ⟨b43, 0, none⟩) 1 1, .bool false, .slice none 0 0, .slice none 0 0, .bool false, .slice none 0 0, .slice none 0 0, .bool false, .slice none 0 0, .slice none 0 0] 30 (0, 0)) :: (b40, .cells #[.bool false, .slice ad37 (8 + 1) cap37, .slice none 0 0] 28 (0, 0)) :: (b33, .cells #[.int .u32 1] 56 (0, 0)) :: (b26, .cells #[.bool y23.1.neg, .slice u24_0_1 y23.1.ln.length u24_0_3, .slice u24_0_4 y23.1.ld.length u24_0_6] 28 (0, 0)) :: (b19, .cells #[.bool true, .slice none 0 0, .slice none 0 0] 28 (0, 0)) :: (b17, .cells #[.bool y14.neg, .slice u15_0_1 y14.ln.length u15_0_3, .slice u15_0_4 y14.ld.length u15_0_6] 28 (0, 0)) :: rb)) C260 kr B157 (fun _ => by simp only [List.append_assoc, List.cons_append, List.nil_append, List.append_nil]) rfl kr rfl kr kr kr kr kr kr hg261.2.1 hg261.2.2 (fun _ => ⟨none, 0, none, 0, by kernel_rfl, Limbs.nil0, Limbs.nil0⟩) ?_)
  intro rb262 ad262 w262 Y262 hg262 B262 j262 a263 C263
  refine hz260 C263 ?_
  refine zz 1 ?_
  refine zx 0 #[.slice u154_0_1 y153.height.length u154_0_2, .slice u154_0_3 y153.own.length u154_0_4, .slice u154_0_5 y153.other.length u154_0_6, .slice u154_0_7 y153.advisories.length u154_0_8, .int .i64 y153.pull, .int .i64 y153.near, .int .i64 y153.steps, .slice u154_0_9 y153.ownNoise.length u154_0_10, .slice ad262 6 6, .bool y153.alert.neg, .slice u154_0_13 y153.alert.ln.length u154_0_14, .slice u154_0_15 y153.alert.ld.length u154_0_16, .bool y153.strengthen.neg, .slice u154_0_17 y153.strengthen.ln.length u154_0_18, .slice u154_0_19 y153.strengthen.ld.length u154_0_20, .bool y153.reversal.neg, .slice u154_0_21 y153.reversal.ln.length u154_0_22, .slice u154_0_23 y153.reversal.ld.length u154_0_24] B262 ?_
  intro w264 B264 j264
  refine zz 3 ?_
  have hob := St.pubGRN (A := [(b156, .cells #[.slice u154_0_1 y153.height.length u154_0_2, .slice u154_0_3 y153.own.length u154_0_4, .slice u154_0_5 y153.other.length u154_0_6, .slice u154_0_7 y153.advisories.length u154_0_8, .int .i64 y153.pull, .int .i64 y153.near, .int .i64 y153.steps, .slice u154_0_9 y153.ownNoise.length u154_0_10, .slice ad262 6 6, .bool y153.alert.neg, .slice u154_0_13 y153.alert.ln.length u154_0_14, .slice u154_0_15 y153.alert.ld.length u154_0_16, .bool y153.strengthen.neg, .slice u154_0_17 y153.strengthen.ln.length u154_0_18, .slice u154_0_19 y153.strengthen.ld.length u154_0_20, .bool y153.reversal.neg, .slice u154_0_21 y153.reversal.ln.length u154_0_22, .slice u154_0_23 y153.reversal.ld.length u154_0_24] 30 (0, 0)), (b58, .cells #[.slice (some ⟨b52, 0, none⟩) 1 1, .slice (some ⟨b54, 0, none⟩) 1 1, .slice (some ⟨b56, 0, none⟩) 1 1, .slice (some ⟨b45, 0, none⟩) 2 2, .int .i64 0, .int .i64 0, .int .i64 0, .slice (some ⟨b43, 0, none⟩) 1 1, .slice (some ⟨b43, 0, none⟩) 1 1, .bool false, .slice none 0 0, .slice none 0 0, .bool false, .slice none 0 0, .slice none 0 0, .bool false, .slice none 0 0, .slice none 0 0] 30 (0, 0)), (b40, .cells #[.bool false, .slice ad37 (8 + 1) cap37, .slice none 0 0] 28 (0, 0)), (b33, .cells #[.int .u32 1] 56 (0, 0)), (b26, .cells #[.bool y23.1.neg, .slice u24_0_1 y23.1.ln.length u24_0_3, .slice u24_0_4 y23.1.ld.length u24_0_6] 28 (0, 0)), (b19, .cells #[.bool true, .slice none 0 0, .slice none 0 0] 28 (0, 0)), (b17, .cells #[.bool y14.neg, .slice u15_0_1 y14.ln.length u15_0_3, .slice u15_0_4 y14.ld.length u15_0_6] 28 (0, 0))]) (B := []) (fun rb => ((b156, .cells #[.slice u154_0_1 y153.height.length u154_0_2, .slice u154_0_3 y153.own.length u154_0_4, .slice u154_0_5 y153.other.length u154_0_6, .slice u154_0_7 y153.advisories.length u154_0_8, .int .i64 y153.pull, .int .i64 y153.near, .int .i64 y153.steps, .slice u154_0_9 y153.ownNoise.length u154_0_10, .slice ad262 6 6, .bool y153.alert.neg, .slice u154_0_13 y153.alert.ln.length u154_0_14, .slice u154_0_15 y153.alert.ld.length u154_0_16, .bool y153.strengthen.neg, .slice u154_0_17 y153.strengthen.ln.length u154_0_18, .slice u154_0_19 y153.strengthen.ld.length u154_0_20, .bool y153.reversal.neg, .slice u154_0_21 y153.reversal.ln.length u154_0_22, .slice u154_0_23 y153.reversal.ld.length u154_0_24] 30 (0, 0)) :: (b58, .cells #[.slice (some ⟨b52, 0, none⟩) 1 1, .slice (some ⟨b54, 0, none⟩) 1 1, .slice (some ⟨b56, 0, none⟩) 1 1, .slice (some ⟨b45, 0, none⟩) 2 2, .int .i64 0, .int .i64 0, .int .i64 0, .slice (some ⟨b43, 0, none⟩) 1 1, .slice (some ⟨b43, 0, none⟩) 1 1, .bool false, .slice none 0 0, .slice none 0 0, .bool false, .slice none 0 0, .slice none 0 0, .bool false, .slice none 0 0, .slice none 0 0] 30 (0, 0)) :: (b40, .cells #[.bool false, .slice ad37 (8 + 1) cap37, .slice none 0 0] 28 (0, 0)) :: (b33, .cells #[.int .u32 1] 56 (0, 0)) :: (b26, .cells #[.bool y23.1.neg, .slice u24_0_1 y23.1.ln.length u24_0_3, .slice u24_0_4 y23.1.ld.length u24_0_6] 28 (0, 0)) :: (b19, .cells #[.bool true, .slice none 0 0, .slice none 0 0] 28 (0, 0)) :: (b17, .cells #[.bool y14.neg, .slice u15_0_1 y14.ln.length u15_0_3, .slice u15_0_4 y14.ld.length u15_0_6] 28 (0, 0)) :: rb)) B264 (fun _ => by simp only [List.append_assoc, List.cons_append, List.nil_append, List.append_nil]) (hg262.mono (Le.or j264 _)) (Nat.le_refl _) NoiseDCs.at
  obtain ⟨Y265, hSx265, j265, hRx265⟩ := hob
  have B265 : St E0 w X w264 Y265 [(b156, .cells #[.slice u154_0_1 y153.height.length u154_0_2, .slice u154_0_3 y153.own.length u154_0_4, .slice u154_0_5 y153.other.length u154_0_6, .slice u154_0_7 y153.advisories.length u154_0_8, .int .i64 y153.pull, .int .i64 y153.near, .int .i64 y153.steps, .slice u154_0_9 y153.ownNoise.length u154_0_10, .slice ad262 6 6, .bool y153.alert.neg, .slice u154_0_13 y153.alert.ln.length u154_0_14, .slice u154_0_15 y153.alert.ld.length u154_0_16, .bool y153.strengthen.neg, .slice u154_0_17 y153.strengthen.ln.length u154_0_18, .slice u154_0_19 y153.strengthen.ld.length u154_0_20, .bool y153.reversal.neg, .slice u154_0_21 y153.reversal.ln.length u154_0_22, .slice u154_0_23 y153.reversal.ld.length u154_0_24] 30 (0, 0)), (b58, .cells #[.slice (some ⟨b52, 0, none⟩) 1 1, .slice (some ⟨b54, 0, none⟩) 1 1, .slice (some ⟨b56, 0, none⟩) 1 1, .slice (some ⟨b45, 0, none⟩) 2 2, .int .i64 0, .int .i64 0, .int .i64 0, .slice (some ⟨b43, 0, none⟩) 1 1, .slice (some ⟨b43, 0, none⟩) 1 1, .bool false, .slice none 0 0, .slice none 0 0, .bool false, .slice none 0 0, .slice none 0 0, .bool false, .slice none 0 0, .slice none 0 0] 30 (0, 0)), (b40, .cells #[.bool false, .slice ad37 (8 + 1) cap37, .slice none 0 0] 28 (0, 0)), (b33, .cells #[.int .u32 1] 56 (0, 0)), (b26, .cells #[.bool y23.1.neg, .slice u24_0_1 y23.1.ln.length u24_0_3, .slice u24_0_4 y23.1.ld.length u24_0_6] 28 (0, 0)), (b19, .cells #[.bool true, .slice none 0 0, .slice none 0 0] 28 (0, 0)), (b17, .cells #[.bool y14.neg, .slice u15_0_1 y14.ln.length u15_0_3, .slice u15_0_4 y14.ld.length u15_0_6] 28 (0, 0))] := hSx265
  have hlx265 := hRx265.hlen
  have hR265 : NoiseDS (rd w264 (orN Y265 w.heap.size)) ad262 6 6 (List.replicate 6 (NoiseD.mk 0 Raw.zero)) := hRx265
  exact znext (fun a h => G203 (4, y153.height, y153.own, y153.other, y153.advisories, y153.pull, y153.near, y153.steps, y153.ownNoise, (List.replicate 6 (NoiseD.mk 0 Raw.zero)), y153.alert, y153.strengthen, y153.reversal, u154_0_1, y153.height.length, u154_0_2, u154_0_3, u154_0_4, u154_0_5, u154_0_6, u154_0_7, y153.advisories.length, u154_0_8, u154_0_9, u154_0_10, ad262, 6, 6, u154_0_13, u154_0_14, u154_0_15, u154_0_16, u154_0_17, y153.strengthen.ln.length, u154_0_18, u154_0_19, y153.strengthen.ld.length, u154_0_20, u154_0_21, u154_0_22, u154_0_23, u154_0_24) _ a h ⟨_, B265, (Le3 j262 j264 j265), (hk248_12.mono (Le3 j262 j264 j265)), (hk248_11.mono (Le3 j262 j264 j265)), (hk248_10.mono (Le3 j262 j264 j265)), (hk248_9.mono (Le3 j262 j264 j265)), (hk248_8.mono (Le3 j262 j264 j265)), (hR265.mono Le.orl), (hk248_6.mono (Le3 j262 j264 j265)), (hk248_5.mono (Le3 j262 j264 j265)), (hk248_4.mono (Le3 j262 j264 j265)), (hk248_3.mono (Le3 j262 j264 j265)), (hk248_2.mono (Le3 j262 j264 j265)), (hk248_1.mono (Le3 j262 j264 j265)), hp⟩)
 have hp := iqb hc259 hp
 refine zz 7 ?_
 refine zb 147 (b := ((k150 : Int) == 13)) (fun hc266 => ?_) (fun hc266 => ?_)
 ·
  have hp := ipb hc266 hp
  refine zz 2 ?_
  refine zo 5 B157 ?_
  refine zz 1 ?_
  refine zn (fun b => .slice (some ⟨b, 0, none⟩) 1 1) (.cells #[.int .i64 101, .bool true, .slice none 0 0, .slice none 0 0] 58 (0, 0)) B157 ?_
  intro b268 w268 Y268 B268 j268 hu268
  refine zz 1 ?_
  refine zx 1 #[.slice u154_0_1 y153.height.length u154_0_2, .slice u154_0_3 y153.own.length u154_0_4, .slice u154_0_5 y153.other.length u154_0_6, .slice u154_0_7 y153.advisories.length u154_0_8, .int .i64 y153.pull, .int .i64 y153.near, .int .i64 y153.steps, .slice (some ⟨b268, 0, none⟩) 1 1, .slice u154_0_11 y153.otherNoise.length u154_0_12, .bool y153.alert.neg, .slice u154_0_13 y153.alert.ln.length u154_0_14, .slice u154_0_15 y153.alert.ld.length u154_0_16, .bool y153.strengthen.neg, .slice u154_0_17 y153.strengthen.ln.length u154_0_18, .slice u154_0_19 y153.strengthen.ld.length u154_0_20, .bool y153.reversal.neg, .slice u154_0_21 y153.reversal.ln.length u154_0_22, .slice u154_0_23 y153.reversal.ld.length u154_0_24] B268 ?_
  intro w269 B269 j269
  refine zz 2 ?_
  have hob := St.pubAt 0 B269 rfl
  obtain ⟨Y270, hSx270, j270, hat270, hatN270⟩ := hob
  have B270 : St E0 w X w269 Y270 [(b156, .cells #[.slice u154_0_1 y153.height.length u154_0_2, .slice u154_0_3 y153.own.length u154_0_4, .slice u154_0_5 y153.other.length u154_0_6, .slice u154_0_7 y153.advisories.length u154_0_8, .int .i64 y153.pull, .int .i64 y153.near, .int .i64 y153.steps, .slice (some ⟨b268, 0, none⟩) 1 1, .slice u154_0_11 y153.otherNoise.length u154_0_12, .bool y153.alert.neg, .slice u154_0_13 y153.alert.ln.length u154_0_14, .slice u154_0_15 y153.alert.ld.length u154_0_16, .bool y153.strengthen.neg, .slice u154_0_17 y153.strengthen.ln.length u154_0_18, .slice u154_0_19 y153.strengthen.ld.length u154_0_20, .bool y153.reversal.neg, .slice u154_0_21 y153.reversal.ln.length u154_0_22, .slice u154_0_23 y153.reversal.ld.length u154_0_24] 30 (0, 0)), (b58, .cells #[.slice (some ⟨b52, 0, none⟩) 1 1, .slice (some ⟨b54, 0, none⟩) 1 1, .slice (some ⟨b56, 0, none⟩) 1 1, .slice (some ⟨b45, 0, none⟩) 2 2, .int .i64 0, .int .i64 0, .int .i64 0, .slice (some ⟨b43, 0, none⟩) 1 1, .slice (some ⟨b43, 0, none⟩) 1 1, .bool false, .slice none 0 0, .slice none 0 0, .bool false, .slice none 0 0, .slice none 0 0, .bool false, .slice none 0 0, .slice none 0 0] 30 (0, 0)), (b40, .cells #[.bool false, .slice ad37 (8 + 1) cap37, .slice none 0 0] 28 (0, 0)), (b33, .cells #[.int .u32 1] 56 (0, 0)), (b26, .cells #[.bool y23.1.neg, .slice u24_0_1 y23.1.ln.length u24_0_3, .slice u24_0_4 y23.1.ld.length u24_0_6] 28 (0, 0)), (b19, .cells #[.bool true, .slice none 0 0, .slice none 0 0] 28 (0, 0)), (b17, .cells #[.bool y14.neg, .slice u15_0_1 y14.ln.length u15_0_3, .slice u15_0_4 y14.ld.length u15_0_6] 28 (0, 0))] := hSx270
  have hR270 : NoiseDS (rd w269 (orN Y270 w.heap.size)) (some ⟨b268, 0, none⟩) 1 1 [(NoiseD.mk 101 (Raw.mk true ([] : List Nat) ([] : List Nat)))] := (SlR.lit (El := NoiseDAt) (size := 4) (n := 1) [⟨(NoiseD.mk 101 (Raw.mk true ([] : List Nat) ([] : List Nat))), [.int .i64 101, .bool true, .slice none 0 0, .slice none 0 0]⟩] (hatN270 _ (Nat.le_refl _)) (List.forall_mem_cons.2 ⟨⟨rfl, fun r2 h2 b o h9 => ⟨_, _, _, _, h9, (Limbs.nil0.mono h2), (Limbs.nil0.mono h2)⟩⟩, (List.forall_mem_nil _)⟩) rfl (by decide))
  exact znext (fun a h => G203 (1, y153.height, y153.own, y153.other, y153.advisories, y153.pull, y153.near, y153.steps, [(NoiseD.mk 101 (Raw.mk true ([] : List Nat) ([] : List Nat)))], y153.otherNoise, y153.alert, y153.strengthen, y153.reversal, u154_0_1, y153.height.length, u154_0_2, u154_0_3, u154_0_4, u154_0_5, u154_0_6, u154_0_7, y153.advisories.length, u154_0_8, (some ⟨b268, 0, none⟩), 1, u154_0_11, y153.otherNoise.length, u154_0_12, u154_0_13, u154_0_14, u154_0_15, u154_0_16, u154_0_17, y153.strengthen.ln.length, u154_0_18, u154_0_19, y153.strengthen.ld.length, u154_0_20, u154_0_21, u154_0_22, u154_0_23, u154_0_24) _ a h ⟨_, B270, (Le3 j268 j269 j270), (hk248_12.mono (Le3 j268 j269 j270)), (hk248_11.mono (Le3 j268 j269 j270)), (hk248_10.mono (Le3 j268 j269 j270)), (hk248_9.mono (Le3 j268 j269 j270)), (hR270.mono Le.orl), (hk248_7.mono (Le3 j268 j269 j270)), (hk248_6.mono (Le3 j268 j269 j270)), (hk248_5.mono (Le3 j268 j269 j270)), (hk248_4.mono (Le3 j268 j269 j270)), (hk248_3.mono (Le3 j268 j269 j270)), (hk248_2.mono (Le3 j268 j269 j270)), (hk248_1.mono (Le3 j268 j269 j270)), hp⟩)
 have hp := iqb hc266 hp
 refine zz 7 ?_
 refine zb 153 (b := ((k150 : Int) == 14)) (fun hc271 => ?_) (fun hc271 => ?_)
 ·
  have hp := ipb hc271 hp
  refine zz 2 ?_
  refine zo 4 B157 ?_
  refine zz 1 ?_
  refine zo 5 B157 ?_
  refine zz 1 ?_
  refine zn (fun b => .slice (some ⟨b, 0, none⟩) 2 2) (.cells #[.int .i64 0, .bool y23.1.neg, .slice u24_0_1 y23.1.ln.length u24_0_3, .slice u24_0_4 y23.1.ld.length u24_0_6, .int .i64 0, .bool true, .slice none 0 0, .slice none 0 0] 58 (0, 0)) B157 ?_
  intro b273 w273 Y273 B273 j273 hu273
  refine zz 1 ?_
  refine zx 1 #[.slice u154_0_1 y153.height.length u154_0_2, .slice u154_0_3 y153.own.length u154_0_4, .slice u154_0_5 y153.other.length u154_0_6, .slice u154_0_7 y153.advisories.length u154_0_8, .int .i64 y153.pull, .int .i64 y153.near, .int .i64 y153.steps, .slice (some ⟨b273, 0, none⟩) 2 2, .slice u154_0_11 y153.otherNoise.length u154_0_12, .bool y153.alert.neg, .slice u154_0_13 y153.alert.ln.length u154_0_14, .slice u154_0_15 y153.alert.ld.length u154_0_16, .bool y153.strengthen.neg, .slice u154_0_17 y153.strengthen.ln.length u154_0_18, .slice u154_0_19 y153.strengthen.ld.length u154_0_20, .bool y153.reversal.neg, .slice u154_0_21 y153.reversal.ln.length u154_0_22, .slice u154_0_23 y153.reversal.ld.length u154_0_24] B273 ?_
  intro w274 B274 j274
  refine zz 3 ?_
  have hob := St.pubAt 0 B274 rfl
  obtain ⟨Y275, hSx275, j275, hat275, hatN275⟩ := hob
  have B275 : St E0 w X w274 Y275 [(b156, .cells #[.slice u154_0_1 y153.height.length u154_0_2, .slice u154_0_3 y153.own.length u154_0_4, .slice u154_0_5 y153.other.length u154_0_6, .slice u154_0_7 y153.advisories.length u154_0_8, .int .i64 y153.pull, .int .i64 y153.near, .int .i64 y153.steps, .slice (some ⟨b273, 0, none⟩) 2 2, .slice u154_0_11 y153.otherNoise.length u154_0_12, .bool y153.alert.neg, .slice u154_0_13 y153.alert.ln.length u154_0_14, .slice u154_0_15 y153.alert.ld.length u154_0_16, .bool y153.strengthen.neg, .slice u154_0_17 y153.strengthen.ln.length u154_0_18, .slice u154_0_19 y153.strengthen.ld.length u154_0_20, .bool y153.reversal.neg, .slice u154_0_21 y153.reversal.ln.length u154_0_22, .slice u154_0_23 y153.reversal.ld.length u154_0_24] 30 (0, 0)), (b58, .cells #[.slice (some ⟨b52, 0, none⟩) 1 1, .slice (some ⟨b54, 0, none⟩) 1 1, .slice (some ⟨b56, 0, none⟩) 1 1, .slice (some ⟨b45, 0, none⟩) 2 2, .int .i64 0, .int .i64 0, .int .i64 0, .slice (some ⟨b43, 0, none⟩) 1 1, .slice (some ⟨b43, 0, none⟩) 1 1, .bool false, .slice none 0 0, .slice none 0 0, .bool false, .slice none 0 0, .slice none 0 0, .bool false, .slice none 0 0, .slice none 0 0] 30 (0, 0)), (b40, .cells #[.bool false, .slice ad37 (8 + 1) cap37, .slice none 0 0] 28 (0, 0)), (b33, .cells #[.int .u32 1] 56 (0, 0)), (b26, .cells #[.bool y23.1.neg, .slice u24_0_1 y23.1.ln.length u24_0_3, .slice u24_0_4 y23.1.ld.length u24_0_6] 28 (0, 0)), (b19, .cells #[.bool true, .slice none 0 0, .slice none 0 0] 28 (0, 0)), (b17, .cells #[.bool y14.neg, .slice u15_0_1 y14.ln.length u15_0_3, .slice u15_0_4 y14.ld.length u15_0_6] 28 (0, 0))] := hSx275
  have hR275 : NoiseDS (rd w274 (orN Y275 w.heap.size)) (some ⟨b273, 0, none⟩) 2 2 [(NoiseD.mk 0 y23.1), (NoiseD.mk 0 (Raw.mk true ([] : List Nat) ([] : List Nat)))] := (SlR.lit (El := NoiseDAt) (size := 4) (n := 2) [⟨(NoiseD.mk 0 y23.1), [.int .i64 0, .bool y23.1.neg, .slice u24_0_1 y23.1.ln.length u24_0_3, .slice u24_0_4 y23.1.ld.length u24_0_6]⟩, ⟨(NoiseD.mk 0 (Raw.mk true ([] : List Nat) ([] : List Nat))), [.int .i64 0, .bool true, .slice none 0 0, .slice none 0 0]⟩] (hatN275 _ (Nat.le_refl _)) (List.forall_mem_cons.2 ⟨⟨rfl, fun r2 h2 b o h9 => ⟨_, _, _, _, h9, ((hk248_21.mono (Le.or (Le3 j273 j274 j275) _)).mono h2), ((hk248_20.mono (Le.or (Le3 j273 j274 j275) _)).mono h2)⟩⟩, (List.forall_mem_cons.2 ⟨⟨rfl, fun r2 h2 b o h9 => ⟨_, _, _, _, h9, (Limbs.nil0.mono h2), (Limbs.nil0.mono h2)⟩⟩, (List.forall_mem_nil _)⟩)⟩) rfl (by decide))
  exact znext (fun a h => G203 (16, y153.height, y153.own, y153.other, y153.advisories, y153.pull, y153.near, y153.steps, [(NoiseD.mk 0 y23.1), (NoiseD.mk 0 (Raw.mk true ([] : List Nat) ([] : List Nat)))], y153.otherNoise, y153.alert, y153.strengthen, y153.reversal, u154_0_1, y153.height.length, u154_0_2, u154_0_3, u154_0_4, u154_0_5, u154_0_6, u154_0_7, y153.advisories.length, u154_0_8, (some ⟨b273, 0, none⟩), 2, u154_0_11, y153.otherNoise.length, u154_0_12, u154_0_13, u154_0_14, u154_0_15, u154_0_16, u154_0_17, y153.strengthen.ln.length, u154_0_18, u154_0_19, y153.strengthen.ld.length, u154_0_20, u154_0_21, u154_0_22, u154_0_23, u154_0_24) _ a h ⟨_, B275, (Le3 j273 j274 j275), (hk248_12.mono (Le3 j273 j274 j275)), (hk248_11.mono (Le3 j273 j274 j275)), (hk248_10.mono (Le3 j273 j274 j275)), (hk248_9.mono (Le3 j273 j274 j275)), (hR275.mono Le.orl), (hk248_7.mono (Le3 j273 j274 j275)), (hk248_6.mono (Le3 j273 j274 j275)), (hk248_5.mono (Le3 j273 j274 j275)), (hk248_4.mono (Le3 j273 j274 j275)), (hk248_3.mono (Le3 j273 j274 j275)), (hk248_2.mono (Le3 j273 j274 j275)), (hk248_1.mono (Le3 j273 j274 j275)), hp⟩)
 have hp := iqb hc271 hp
 refine zz 7 ?_
 refine zb 161 (b := ((k150 : Int) == 15)) (fun hc276 => ?_) (fun hc276 => ?_)
 ·
  have hp := ipb hc276 hp
  refine zz 2 ?_
  refine zo 5 B157 ?_
  refine zz 1 ?_
  refine zn (fun b => .slice (some ⟨b, 0, none⟩) 1 1) (.cells #[.int .i64 0, .bool true, .slice none 0 0, .slice none 0 0] 58 (0, 0)) B157 ?_
  intro b278 w278 Y278 B278 j278 hu278
  refine zz 1 ?_
  refine zx 1 #[.slice u154_0_1 y153.height.length u154_0_2, .slice u154_0_3 y153.own.length u154_0_4, .slice u154_0_5 y153.other.length u154_0_6, .slice u154_0_7 y153.advisories.length u154_0_8, .int .i64 y153.pull, .int .i64 y153.near, .int .i64 y153.steps, .slice (some ⟨b278, 0, none⟩) 1 1, .slice u154_0_11 y153.otherNoise.length u154_0_12, .bool y153.alert.neg, .slice u154_0_13 y153.alert.ln.length u154_0_14, .slice u154_0_15 y153.alert.ld.length u154_0_16, .bool y153.strengthen.neg, .slice u154_0_17 y153.strengthen.ln.length u154_0_18, .slice u154_0_19 y153.strengthen.ld.length u154_0_20, .bool y153.reversal.neg, .slice u154_0_21 y153.reversal.ln.length u154_0_22, .slice u154_0_23 y153.reversal.ld.length u154_0_24] B278 ?_
  intro w279 B279 j279
  refine zz 3 ?_
  have hob := St.pubAt 0 B279 rfl
  obtain ⟨Y280, hSx280, j280, hat280, hatN280⟩ := hob
  have B280 : St E0 w X w279 Y280 [(b156, .cells #[.slice u154_0_1 y153.height.length u154_0_2, .slice u154_0_3 y153.own.length u154_0_4, .slice u154_0_5 y153.other.length u154_0_6, .slice u154_0_7 y153.advisories.length u154_0_8, .int .i64 y153.pull, .int .i64 y153.near, .int .i64 y153.steps, .slice (some ⟨b278, 0, none⟩) 1 1, .slice u154_0_11 y153.otherNoise.length u154_0_12, .bool y153.alert.neg, .slice u154_0_13 y153.alert.ln.length u154_0_14, .slice u154_0_15 y153.alert.ld.length u154_0_16, .bool y153.strengthen.neg, .slice u154_0_17 y153.strengthen.ln.length u154_0_18, .slice u154_0_19 y153.strengthen.ld.length u154_0_20, .bool y153.reversal.neg, .slice u154_0_21 y153.reversal.ln.length u154_0_22, .slice u154_0_23 y153.reversal.ld.length u154_0_24] 30 (0, 0)), (b58, .cells #[.slice (some ⟨b52, 0, none⟩) 1 1, .slice (some ⟨b54, 0, none⟩) 1 1, .slice (some ⟨b56, 0, none⟩) 1 1, .slice (some ⟨b45, 0, none⟩) 2 2, .int .i64 0, .int .i64 0, .int .i64 0, .slice (some ⟨b43, 0, none⟩) 1 1, .slice (some ⟨b43, 0, none⟩) 1 1, .bool false, .slice none 0 0, .slice none 0 0, .bool false, .slice none 0 0, .slice none 0 0, .bool false, .slice none 0 0, .slice none 0 0] 30 (0, 0)), (b40, .cells #[.bool false, .slice ad37 (8 + 1) cap37, .slice none 0 0] 28 (0, 0)), (b33, .cells #[.int .u32 1] 56 (0, 0)), (b26, .cells #[.bool y23.1.neg, .slice u24_0_1 y23.1.ln.length u24_0_3, .slice u24_0_4 y23.1.ld.length u24_0_6] 28 (0, 0)), (b19, .cells #[.bool true, .slice none 0 0, .slice none 0 0] 28 (0, 0)), (b17, .cells #[.bool y14.neg, .slice u15_0_1 y14.ln.length u15_0_3, .slice u15_0_4 y14.ld.length u15_0_6] 28 (0, 0))] := hSx280
  have hR280 : NoiseDS (rd w279 (orN Y280 w.heap.size)) (some ⟨b278, 0, none⟩) 1 1 [(NoiseD.mk 0 (Raw.mk true ([] : List Nat) ([] : List Nat)))] := (SlR.lit (El := NoiseDAt) (size := 4) (n := 1) [⟨(NoiseD.mk 0 (Raw.mk true ([] : List Nat) ([] : List Nat))), [.int .i64 0, .bool true, .slice none 0 0, .slice none 0 0]⟩] (hatN280 _ (Nat.le_refl _)) (List.forall_mem_cons.2 ⟨⟨rfl, fun r2 h2 b o h9 => ⟨_, _, _, _, h9, (Limbs.nil0.mono h2), (Limbs.nil0.mono h2)⟩⟩, (List.forall_mem_nil _)⟩) rfl (by decide))
  exact znext (fun a h => G203 (2, y153.height, y153.own, y153.other, y153.advisories, y153.pull, y153.near, y153.steps, [(NoiseD.mk 0 (Raw.mk true ([] : List Nat) ([] : List Nat)))], y153.otherNoise, y153.alert, y153.strengthen, y153.reversal, u154_0_1, y153.height.length, u154_0_2, u154_0_3, u154_0_4, u154_0_5, u154_0_6, u154_0_7, y153.advisories.length, u154_0_8, (some ⟨b278, 0, none⟩), 1, u154_0_11, y153.otherNoise.length, u154_0_12, u154_0_13, u154_0_14, u154_0_15, u154_0_16, u154_0_17, y153.strengthen.ln.length, u154_0_18, u154_0_19, y153.strengthen.ld.length, u154_0_20, u154_0_21, u154_0_22, u154_0_23, u154_0_24) _ a h ⟨_, B280, (Le3 j278 j279 j280), (hk248_12.mono (Le3 j278 j279 j280)), (hk248_11.mono (Le3 j278 j279 j280)), (hk248_10.mono (Le3 j278 j279 j280)), (hk248_9.mono (Le3 j278 j279 j280)), (hR280.mono Le.orl), (hk248_7.mono (Le3 j278 j279 j280)), (hk248_6.mono (Le3 j278 j279 j280)), (hk248_5.mono (Le3 j278 j279 j280)), (hk248_4.mono (Le3 j278 j279 j280)), (hk248_3.mono (Le3 j278 j279 j280)), (hk248_2.mono (Le3 j278 j279 j280)), (hk248_1.mono (Le3 j278 j279 j280)), hp⟩)
 have hp := iqb hc276 hp
 refine zz 7 ?_
 refine zb 167 (b := ((k150 : Int) == 16)) (fun hc281 => ?_) (fun hc281 => ?_)
 ·
  have hp := ipb hc281 hp
  refine zz 2 ?_
  refine zo 2 B157 ?_
  refine zz 1 ?_
  refine zn (fun b => .slice (some ⟨b, 0, none⟩) 1 1) (.cells #[.int .i64 0, .bool false, .slice ad37 (8 + 1) cap37, .slice none 0 0] 58 (0, 0)) B157 ?_
  intro b283 w283 Y283 B283 j283 hu283
  refine zz 1 ?_
  refine zx 1 #[.slice u154_0_1 y153.height.length u154_0_2, .slice u154_0_3 y153.own.length u154_0_4, .slice u154_0_5 y153.other.length u154_0_6, .slice u154_0_7 y153.advisories.length u154_0_8, .int .i64 y153.pull, .int .i64 y153.near, .int .i64 y153.steps, .slice (some ⟨b283, 0, none⟩) 1 1, .slice u154_0_11 y153.otherNoise.length u154_0_12, .bool y153.alert.neg, .slice u154_0_13 y153.alert.ln.length u154_0_14, .slice u154_0_15 y153.alert.ld.length u154_0_16, .bool y153.strengthen.neg, .slice u154_0_17 y153.strengthen.ln.length u154_0_18, .slice u154_0_19 y153.strengthen.ld.length u154_0_20, .bool y153.reversal.neg, .slice u154_0_21 y153.reversal.ln.length u154_0_22, .slice u154_0_23 y153.reversal.ld.length u154_0_24] B283 ?_
  intro w284 B284 j284
  refine zz 3 ?_
  have hob := St.pubAt 0 B284 rfl
  obtain ⟨Y285, hSx285, j285, hat285, hatN285⟩ := hob
  have B285 : St E0 w X w284 Y285 [(b156, .cells #[.slice u154_0_1 y153.height.length u154_0_2, .slice u154_0_3 y153.own.length u154_0_4, .slice u154_0_5 y153.other.length u154_0_6, .slice u154_0_7 y153.advisories.length u154_0_8, .int .i64 y153.pull, .int .i64 y153.near, .int .i64 y153.steps, .slice (some ⟨b283, 0, none⟩) 1 1, .slice u154_0_11 y153.otherNoise.length u154_0_12, .bool y153.alert.neg, .slice u154_0_13 y153.alert.ln.length u154_0_14, .slice u154_0_15 y153.alert.ld.length u154_0_16, .bool y153.strengthen.neg, .slice u154_0_17 y153.strengthen.ln.length u154_0_18, .slice u154_0_19 y153.strengthen.ld.length u154_0_20, .bool y153.reversal.neg, .slice u154_0_21 y153.reversal.ln.length u154_0_22, .slice u154_0_23 y153.reversal.ld.length u154_0_24] 30 (0, 0)), (b58, .cells #[.slice (some ⟨b52, 0, none⟩) 1 1, .slice (some ⟨b54, 0, none⟩) 1 1, .slice (some ⟨b56, 0, none⟩) 1 1, .slice (some ⟨b45, 0, none⟩) 2 2, .int .i64 0, .int .i64 0, .int .i64 0, .slice (some ⟨b43, 0, none⟩) 1 1, .slice (some ⟨b43, 0, none⟩) 1 1, .bool false, .slice none 0 0, .slice none 0 0, .bool false, .slice none 0 0, .slice none 0 0, .bool false, .slice none 0 0, .slice none 0 0] 30 (0, 0)), (b40, .cells #[.bool false, .slice ad37 (8 + 1) cap37, .slice none 0 0] 28 (0, 0)), (b33, .cells #[.int .u32 1] 56 (0, 0)), (b26, .cells #[.bool y23.1.neg, .slice u24_0_1 y23.1.ln.length u24_0_3, .slice u24_0_4 y23.1.ld.length u24_0_6] 28 (0, 0)), (b19, .cells #[.bool true, .slice none 0 0, .slice none 0 0] 28 (0, 0)), (b17, .cells #[.bool y14.neg, .slice u15_0_1 y14.ln.length u15_0_3, .slice u15_0_4 y14.ld.length u15_0_6] 28 (0, 0))] := hSx285
  have hR285 : NoiseDS (rd w284 (orN Y285 w.heap.size)) (some ⟨b283, 0, none⟩) 1 1 [(NoiseD.mk 0 (Raw.mk false ((List.replicate 8 (0 : Nat)) ++ [1]) ([] : List Nat)))] := (SlR.lit (El := NoiseDAt) (size := 4) (n := 1) [⟨(NoiseD.mk 0 (Raw.mk false ((List.replicate 8 (0 : Nat)) ++ [1]) ([] : List Nat))), [.int .i64 0, .bool false, .slice ad37 (8 + 1) cap37, .slice none 0 0]⟩] (hatN285 _ (Nat.le_refl _)) (List.forall_mem_cons.2 ⟨⟨rfl, fun r2 h2 b o h9 => ⟨_, _, _, _, h9, ((hk248_18.mono (Le.or (Le3 j283 j284 j285) _)).mono h2), (Limbs.nil0.mono h2)⟩⟩, (List.forall_mem_nil _)⟩) rfl (by decide))
  exact znext (fun a h => G203 (4, y153.height, y153.own, y153.other, y153.advisories, y153.pull, y153.near, y153.steps, [(NoiseD.mk 0 (Raw.mk false ((List.replicate 8 (0 : Nat)) ++ [1]) ([] : List Nat)))], y153.otherNoise, y153.alert, y153.strengthen, y153.reversal, u154_0_1, y153.height.length, u154_0_2, u154_0_3, u154_0_4, u154_0_5, u154_0_6, u154_0_7, y153.advisories.length, u154_0_8, (some ⟨b283, 0, none⟩), 1, u154_0_11, y153.otherNoise.length, u154_0_12, u154_0_13, u154_0_14, u154_0_15, u154_0_16, u154_0_17, y153.strengthen.ln.length, u154_0_18, u154_0_19, y153.strengthen.ld.length, u154_0_20, u154_0_21, u154_0_22, u154_0_23, u154_0_24) _ a h ⟨_, B285, (Le3 j283 j284 j285), (hk248_12.mono (Le3 j283 j284 j285)), (hk248_11.mono (Le3 j283 j284 j285)), (hk248_10.mono (Le3 j283 j284 j285)), (hk248_9.mono (Le3 j283 j284 j285)), (hR285.mono Le.orl), (hk248_7.mono (Le3 j283 j284 j285)), (hk248_6.mono (Le3 j283 j284 j285)), (hk248_5.mono (Le3 j283 j284 j285)), (hk248_4.mono (Le3 j283 j284 j285)), (hk248_3.mono (Le3 j283 j284 j285)), (hk248_2.mono (Le3 j283 j284 j285)), (hk248_1.mono (Le3 j283 j284 j285)), hp⟩)
 have hp := iqb hc281 hp
 refine zz 7 ?_
 refine zb 173 (b := ((k150 : Int) == 17)) (fun hc286 => ?_) (fun hc286 => ?_)
 ·
  have hp := ipb hc286 hp
  refine zz 3 ?_
  refine zn (fun b => .slice (some ⟨b, 0, none⟩) 1 1) (.cells #[.int .i64 0, .bool false, .slice none 0 0, .slice none 0 0] 58 (0, 0)) B157 ?_
  intro b288 w288 Y288 B288 j288 hu288
  refine zz 1 ?_
  refine zx 1 #[.slice u154_0_1 y153.height.length u154_0_2, .slice u154_0_3 y153.own.length u154_0_4, .slice u154_0_5 y153.other.length u154_0_6, .slice u154_0_7 y153.advisories.length u154_0_8, .int .i64 y153.pull, .int .i64 y153.near, .int .i64 y153.steps, .slice (some ⟨b288, 0, none⟩) 1 1, .slice u154_0_11 y153.otherNoise.length u154_0_12, .bool y153.alert.neg, .slice u154_0_13 y153.alert.ln.length u154_0_14, .slice u154_0_15 y153.alert.ld.length u154_0_16, .bool y153.strengthen.neg, .slice u154_0_17 y153.strengthen.ln.length u154_0_18, .slice u154_0_19 y153.strengthen.ld.length u154_0_20, .bool y153.reversal.neg, .slice u154_0_21 y153.reversal.ln.length u154_0_22, .slice u154_0_23 y153.reversal.ld.length u154_0_24] B288 ?_
  intro w289 B289 j289
  refine zz 2 ?_
  have hob := St.pubAt 0 B289 rfl
  obtain ⟨Y290, hSx290, j290, hat290, hatN290⟩ := hob
  have B290 : St E0 w X w289 Y290 [(b156, .cells #[.slice u154_0_1 y153.height.length u154_0_2, .slice u154_0_3 y153.own.length u154_0_4, .slice u154_0_5 y153.other.length u154_0_6, .slice u154_0_7 y153.advisories.length u154_0_8, .int .i64 y153.pull, .int .i64 y153.near, .int .i64 y153.steps, .slice (some ⟨b288, 0, none⟩) 1 1, .slice u154_0_11 y153.otherNoise.length u154_0_12, .bool y153.alert.neg, .slice u154_0_13 y153.alert.ln.length u154_0_14, .slice u154_0_15 y153.alert.ld.length u154_0_16, .bool y153.strengthen.neg, .slice u154_0_17 y153.strengthen.ln.length u154_0_18, .slice u154_0_19 y153.strengthen.ld.length u154_0_20, .bool y153.reversal.neg, .slice u154_0_21 y153.reversal.ln.length u154_0_22, .slice u154_0_23 y153.reversal.ld.length u154_0_24] 30 (0, 0)), (b58, .cells #[.slice (some ⟨b52, 0, none⟩) 1 1, .slice (some ⟨b54, 0, none⟩) 1 1, .slice (some ⟨b56, 0, none⟩) 1 1, .slice (some ⟨b45, 0, none⟩) 2 2, .int .i64 0, .int .i64 0, .int .i64 0, .slice (some ⟨b43, 0, none⟩) 1 1, .slice (some ⟨b43, 0, none⟩) 1 1, .bool false, .slice none 0 0, .slice none 0 0, .bool false, .slice none 0 0, .slice none 0 0, .bool false, .slice none 0 0, .slice none 0 0] 30 (0, 0)), (b40, .cells #[.bool false, .slice ad37 (8 + 1) cap37, .slice none 0 0] 28 (0, 0)), (b33, .cells #[.int .u32 1] 56 (0, 0)), (b26, .cells #[.bool y23.1.neg, .slice u24_0_1 y23.1.ln.length u24_0_3, .slice u24_0_4 y23.1.ld.length u24_0_6] 28 (0, 0)), (b19, .cells #[.bool true, .slice none 0 0, .slice none 0 0] 28 (0, 0)), (b17, .cells #[.bool y14.neg, .slice u15_0_1 y14.ln.length u15_0_3, .slice u15_0_4 y14.ld.length u15_0_6] 28 (0, 0))] := hSx290
  have hR290 : NoiseDS (rd w289 (orN Y290 w.heap.size)) (some ⟨b288, 0, none⟩) 1 1 [(NoiseD.mk 0 Raw.zero)] := (SlR.lit (El := NoiseDAt) (size := 4) (n := 1) [⟨(NoiseD.mk 0 Raw.zero), [.int .i64 0, .bool false, .slice none 0 0, .slice none 0 0]⟩] (hatN290 _ (Nat.le_refl _)) (List.forall_mem_cons.2 ⟨⟨rfl, fun r2 h2 b o h9 => ⟨_, _, _, _, h9, (Limbs.nil0.mono h2), (Limbs.nil0.mono h2)⟩⟩, (List.forall_mem_nil _)⟩) rfl (by decide))
  exact znext (fun a h => G203 (1, y153.height, y153.own, y153.other, y153.advisories, y153.pull, y153.near, y153.steps, [(NoiseD.mk 0 Raw.zero)], y153.otherNoise, y153.alert, y153.strengthen, y153.reversal, u154_0_1, y153.height.length, u154_0_2, u154_0_3, u154_0_4, u154_0_5, u154_0_6, u154_0_7, y153.advisories.length, u154_0_8, (some ⟨b288, 0, none⟩), 1, u154_0_11, y153.otherNoise.length, u154_0_12, u154_0_13, u154_0_14, u154_0_15, u154_0_16, u154_0_17, y153.strengthen.ln.length, u154_0_18, u154_0_19, y153.strengthen.ld.length, u154_0_20, u154_0_21, u154_0_22, u154_0_23, u154_0_24) _ a h ⟨_, B290, (Le3 j288 j289 j290), (hk248_12.mono (Le3 j288 j289 j290)), (hk248_11.mono (Le3 j288 j289 j290)), (hk248_10.mono (Le3 j288 j289 j290)), (hk248_9.mono (Le3 j288 j289 j290)), (hR290.mono Le.orl), (hk248_7.mono (Le3 j288 j289 j290)), (hk248_6.mono (Le3 j288 j289 j290)), (hk248_5.mono (Le3 j288 j289 j290)), (hk248_4.mono (Le3 j288 j289 j290)), (hk248_3.mono (Le3 j288 j289 j290)), (hk248_2.mono (Le3 j288 j289 j290)), (hk248_1.mono (Le3 j288 j289 j290)), hp⟩)
 have hp := iqb hc286 hp
 refine zz 7 ?_
 refine zb 178 (b := ((k150 : Int) == 18)) (fun hc291 => ?_) (fun hc291 => ?_)
 ·
  have hp := ipb hc291 hp
  refine zz 2 ?_
  refine zo 4 B157 ?_
  refine zz 1 ?_
  refine zn (fun b => .slice (some ⟨b, 0, none⟩) 1 1) (.cells #[.int .i64 0, .bool y23.1.neg, .slice u24_0_1 y23.1.ln.length u24_0_3, .slice u24_0_4 y23.1.ld.length u24_0_6] 58 (0, 0)) B157 ?_
  intro b293 w293 Y293 B293 j293 hu293
  refine zz 1 ?_
  refine zx 1 #[.slice u154_0_1 y153.height.length u154_0_2, .slice u154_0_3 y153.own.length u154_0_4, .slice u154_0_5 y153.other.length u154_0_6, .slice u154_0_7 y153.advisories.length u154_0_8, .int .i64 y153.pull, .int .i64 y153.near, .int .i64 y153.steps, .slice u154_0_9 y153.ownNoise.length u154_0_10, .slice (some ⟨b293, 0, none⟩) 1 1, .bool y153.alert.neg, .slice u154_0_13 y153.alert.ln.length u154_0_14, .slice u154_0_15 y153.alert.ld.length u154_0_16, .bool y153.strengthen.neg, .slice u154_0_17 y153.strengthen.ln.length u154_0_18, .slice u154_0_19 y153.strengthen.ld.length u154_0_20, .bool y153.reversal.neg, .slice u154_0_21 y153.reversal.ln.length u154_0_22, .slice u154_0_23 y153.reversal.ld.length u154_0_24] B293 ?_
  intro w294 B294 j294
  refine zz 3 ?_
  have hob := St.pubAt 0 B294 rfl
  obtain ⟨Y295, hSx295, j295, hat295, hatN295⟩ := hob
  have B295 : St E0 w X w294 Y295 [(b156, .cells #[.slice u154_0_1 y153.height.length u154_0_2, .slice u154_0_3 y153.own.length u154_0_4, .slice u154_0_5 y153.other.length u154_0_6, .slice u154_0_7 y153.advisories.length u154_0_8, .int .i64 y153.pull, .int .i64 y153.near, .int .i64 y153.steps, .slice u154_0_9 y153.ownNoise.length u154_0_10, .slice (some ⟨b293, 0, none⟩) 1 1, .bool y153.alert.neg, .slice u154_0_13 y153.alert.ln.length u154_0_14, .slice u154_0_15 y153.alert.ld.length u154_0_16, .bool y153.strengthen.neg, .slice u154_0_17 y153.strengthen.ln.length u154_0_18, .slice u154_0_19 y153.strengthen.ld.length u154_0_20, .bool y153.reversal.neg, .slice u154_0_21 y153.reversal.ln.length u154_0_22, .slice u154_0_23 y153.reversal.ld.length u154_0_24] 30 (0, 0)), (b58, .cells #[.slice (some ⟨b52, 0, none⟩) 1 1, .slice (some ⟨b54, 0, none⟩) 1 1, .slice (some ⟨b56, 0, none⟩) 1 1, .slice (some ⟨b45, 0, none⟩) 2 2, .int .i64 0, .int .i64 0, .int .i64 0, .slice (some ⟨b43, 0, none⟩) 1 1, .slice (some ⟨b43, 0, none⟩) 1 1, .bool false, .slice none 0 0, .slice none 0 0, .bool false, .slice none 0 0, .slice none 0 0, .bool false, .slice none 0 0, .slice none 0 0] 30 (0, 0)), (b40, .cells #[.bool false, .slice ad37 (8 + 1) cap37, .slice none 0 0] 28 (0, 0)), (b33, .cells #[.int .u32 1] 56 (0, 0)), (b26, .cells #[.bool y23.1.neg, .slice u24_0_1 y23.1.ln.length u24_0_3, .slice u24_0_4 y23.1.ld.length u24_0_6] 28 (0, 0)), (b19, .cells #[.bool true, .slice none 0 0, .slice none 0 0] 28 (0, 0)), (b17, .cells #[.bool y14.neg, .slice u15_0_1 y14.ln.length u15_0_3, .slice u15_0_4 y14.ld.length u15_0_6] 28 (0, 0))] := hSx295
  have hR295 : NoiseDS (rd w294 (orN Y295 w.heap.size)) (some ⟨b293, 0, none⟩) 1 1 [(NoiseD.mk 0 y23.1)] := (SlR.lit (El := NoiseDAt) (size := 4) (n := 1) [⟨(NoiseD.mk 0 y23.1), [.int .i64 0, .bool y23.1.neg, .slice u24_0_1 y23.1.ln.length u24_0_3, .slice u24_0_4 y23.1.ld.length u24_0_6]⟩] (hatN295 _ (Nat.le_refl _)) (List.forall_mem_cons.2 ⟨⟨rfl, fun r2 h2 b o h9 => ⟨_, _, _, _, h9, ((hk248_21.mono (Le.or (Le3 j293 j294 j295) _)).mono h2), ((hk248_20.mono (Le.or (Le3 j293 j294 j295) _)).mono h2)⟩⟩, (List.forall_mem_nil _)⟩) rfl (by decide))
  exact znext (fun a h => G203 (2, y153.height, y153.own, y153.other, y153.advisories, y153.pull, y153.near, y153.steps, y153.ownNoise, [(NoiseD.mk 0 y23.1)], y153.alert, y153.strengthen, y153.reversal, u154_0_1, y153.height.length, u154_0_2, u154_0_3, u154_0_4, u154_0_5, u154_0_6, u154_0_7, y153.advisories.length, u154_0_8, u154_0_9, u154_0_10, (some ⟨b293, 0, none⟩), 1, 1, u154_0_13, u154_0_14, u154_0_15, u154_0_16, u154_0_17, y153.strengthen.ln.length, u154_0_18, u154_0_19, y153.strengthen.ld.length, u154_0_20, u154_0_21, u154_0_22, u154_0_23, u154_0_24) _ a h ⟨_, B295, (Le3 j293 j294 j295), (hk248_12.mono (Le3 j293 j294 j295)), (hk248_11.mono (Le3 j293 j294 j295)), (hk248_10.mono (Le3 j293 j294 j295)), (hk248_9.mono (Le3 j293 j294 j295)), (hk248_8.mono (Le3 j293 j294 j295)), (hR295.mono Le.orl), (hk248_6.mono (Le3 j293 j294 j295)), (hk248_5.mono (Le3 j293 j294 j295)), (hk248_4.mono (Le3 j293 j294 j295)), (hk248_3.mono (Le3 j293 j294 j295)), (hk248_2.mono (Le3 j293 j294 j295)), (hk248_1.mono (Le3 j293 j294 j295)), hp⟩)
 have hp := iqb hc291 hp
 refine zz 7 ?_
 refine zb 184 (b := ((k150 : Int) == 19)) (fun hc296 => ?_) (fun hc296 => ?_)
 ·
  have hp := ipb hc296 hp
  refine zz 2 ?_
  refine zo 5 B157 ?_
  refine zz 1 ?_
  refine zx 0 #[.slice u154_0_1 y153.height.length u154_0_2, .slice u154_0_3 y153.own.length u154_0_4, .slice u154_0_5 y153.other.length u154_0_6, .slice u154_0_7 y153.advisories.length u154_0_8, .int .i64 y153.pull, .int .i64 y153.near, .int .i64 y153.steps, .slice u154_0_9 y153.ownNoise.length u154_0_10, .slice u154_0_11 y153.otherNoise.length u154_0_12, .bool true, .slice none 0 0, .slice none 0 0, .bool y153.strengthen.neg, .slice u154_0_17 y153.strengthen.ln.length u154_0_18, .slice u154_0_19 y153.strengthen.ld.length u154_0_20, .bool y153.reversal.neg, .slice u154_0_21 y153.reversal.ln.length u154_0_22, .slice u154_0_23 y153.reversal.ld.length u154_0_24] B157 ?_
  intro w297 B297 j297
  refine zz 3 ?_
  exact znext (fun a h => G203 (2, y153.height, y153.own, y153.other, y153.advisories, y153.pull, y153.near, y153.steps, y153.ownNoise, y153.otherNoise, (Raw.mk true ([] : List Nat) ([] : List Nat)), y153.strengthen, y153.reversal, u154_0_1, y153.height.length, u154_0_2, u154_0_3, u154_0_4, u154_0_5, u154_0_6, u154_0_7, y153.advisories.length, u154_0_8, u154_0_9, u154_0_10, u154_0_11, y153.otherNoise.length, u154_0_12, none, 0, none, 0, u154_0_17, y153.strengthen.ln.length, u154_0_18, u154_0_19, y153.strengthen.ld.length, u154_0_20, u154_0_21, u154_0_22, u154_0_23, u154_0_24) _ a h ⟨_, B297, j297, (hk248_12.mono j297), (hk248_11.mono j297), (hk248_10.mono j297), (hk248_9.mono j297), (hk248_8.mono j297), (hk248_7.mono j297), Limbs.nil0, Limbs.nil0, (hk248_4.mono j297), (hk248_3.mono j297), (hk248_2.mono j297), (hk248_1.mono j297), hp⟩)
 have hp := iqb hc296 hp
 refine zz 7 ?_
 refine zb 188 (b := ((k150 : Int) == 20)) (fun hc298 => ?_) (fun hc298 => ?_)
 ·
  have hp := ipb hc298 hp
  refine zz 2 ?_
  refine zo 2 B157 ?_
  refine zz 1 ?_
  refine zx 0 #[.slice u154_0_1 y153.height.length u154_0_2, .slice u154_0_3 y153.own.length u154_0_4, .slice u154_0_5 y153.other.length u154_0_6, .slice u154_0_7 y153.advisories.length u154_0_8, .int .i64 y153.pull, .int .i64 y153.near, .int .i64 y153.steps, .slice u154_0_9 y153.ownNoise.length u154_0_10, .slice u154_0_11 y153.otherNoise.length u154_0_12, .bool y153.alert.neg, .slice u154_0_13 y153.alert.ln.length u154_0_14, .slice u154_0_15 y153.alert.ld.length u154_0_16, .bool false, .slice ad37 (8 + 1) cap37, .slice none 0 0, .bool y153.reversal.neg, .slice u154_0_21 y153.reversal.ln.length u154_0_22, .slice u154_0_23 y153.reversal.ld.length u154_0_24] B157 ?_
  intro w299 B299 j299
  refine zz 3 ?_
  exact znext (fun a h => G203 (4, y153.height, y153.own, y153.other, y153.advisories, y153.pull, y153.near, y153.steps, y153.ownNoise, y153.otherNoise, y153.alert, (Raw.mk false ((List.replicate 8 (0 : Nat)) ++ [1]) ([] : List Nat)), y153.reversal, u154_0_1, y153.height.length, u154_0_2, u154_0_3, u154_0_4, u154_0_5, u154_0_6, u154_0_7, y153.advisories.length, u154_0_8, u154_0_9, u154_0_10, u154_0_11, y153.otherNoise.length, u154_0_12, u154_0_13, u154_0_14, u154_0_15, u154_0_16, ad37, (8 + 1), cap37, none, 0, 0, u154_0_21, u154_0_22, u154_0_23, u154_0_24) _ a h ⟨_, B299, j299, (hk248_12.mono j299), (hk248_11.mono j299), (hk248_10.mono j299), (hk248_9.mono j299), (hk248_8.mono j299), (hk248_7.mono j299), (hk248_6.mono j299), (hk248_5.mono j299), ((hk248_18.mono Le.orl).mono j299), Limbs.nil0, (hk248_2.mono j299), (hk248_1.mono j299), hp⟩)
 have hp := iqb hc298 hp
 refine zz 7 ?_
 refine zb 192 (b := ((k150 : Int) == 21)) (fun hc300 => ?_) (fun hc300 => ?_)
 ·
  have hp := ipb hc300 hp
  refine zz 2 ?_
  refine bndk hp fun y302 hy302 hp => ?_
  refine zc B157 (clearwayref06_From_c _ X0 (X0_lt _) (-1) y302 hy302) ?_
  rintro v303 w303 B303 j303 hu303 ⟨u303_0_1, u303_0_2, u303_0_3, u303_0_4, u303_0_5, u303_0_6, rfl, u303_0__h0, u303_0__h1⟩
  have hob := u303_0__h0.hlen
  subst hob
  have hob := u303_0__h1.hlen
  subst hob
  refine zz 1 ?_
  refine zx 0 #[.slice u154_0_1 y153.height.length u154_0_2, .slice u154_0_3 y153.own.length u154_0_4, .slice u154_0_5 y153.other.length u154_0_6, .slice u154_0_7 y153.advisories.length u154_0_8, .int .i64 y153.pull, .int .i64 y153.near, .int .i64 y153.steps, .slice u154_0_9 y153.ownNoise.length u154_0_10, .slice u154_0_11 y153.otherNoise.length u154_0_12, .bool y153.alert.neg, .slice u154_0_13 y153.alert.ln.length u154_0_14, .slice u154_0_15 y153.alert.ld.length u154_0_16, .bool y153.strengthen.neg, .slice u154_0_17 y153.strengthen.ln.length u154_0_18, .slice u154_0_19 y153.strengthen.ld.length u154_0_20, .bool y302.neg, .slice u303_0_1 y302.ln.length u303_0_3, .slice u303_0_4 y302.ld.length u303_0_6] B303 ?_
  intro w304 B304 j304
  refine zz 2 ?_
  exact znext (fun a h => G203 (1, y153.height, y153.own, y153.other, y153.advisories, y153.pull, y153.near, y153.steps, y153.ownNoise, y153.otherNoise, y153.alert, y153.strengthen, y302, u154_0_1, y153.height.length, u154_0_2, u154_0_3, u154_0_4, u154_0_5, u154_0_6, u154_0_7, y153.advisories.length, u154_0_8, u154_0_9, u154_0_10, u154_0_11, y153.otherNoise.length, u154_0_12, u154_0_13, u154_0_14, u154_0_15, u154_0_16, u154_0_17, y153.strengthen.ln.length, u154_0_18, u154_0_19, y153.strengthen.ld.length, u154_0_20, u303_0_1, u303_0_3, u303_0_4, u303_0_6) _ a h ⟨_, B304, (Le2 j303 j304), (hk248_12.mono (Le2 j303 j304)), (hk248_11.mono (Le2 j303 j304)), (hk248_10.mono (Le2 j303 j304)), (hk248_9.mono (Le2 j303 j304)), (hk248_8.mono (Le2 j303 j304)), (hk248_7.mono (Le2 j303 j304)), (hk248_6.mono (Le2 j303 j304)), (hk248_5.mono (Le2 j303 j304)), (hk248_4.mono (Le2 j303 j304)), (hk248_3.mono (Le2 j303 j304)), ((u303_0__h0.mono (Le.new B157.lt)).mono j304), ((u303_0__h1.mono (Le.new B157.lt)).mono j304), hp⟩)
 have hp := iqb hc300 hp
 refine zz 7 ?_
 refine zb 196 (b := ((k150 : Int) == 22)) (fun hc305 => ?_) (fun hc305 => ?_)
 ·
  have hp := ipb hc305 hp
  refine zz 3 ?_
  refine zn (fun b => .slice (some ⟨b, 0, none⟩) 4 4) (.cells #[.int .i64 0, .int .i64 1, .int .i64 2, .int .i64 3] 3 (0, 0)) B157 ?_
  intro b307 w307 Y307 B307 j307 hu307
  refine zz 1 ?_
  refine zx 1 #[.slice ad48 32 32, .slice u154_0_3 y153.own.length u154_0_4, .slice u154_0_5 y153.other.length u154_0_6, .slice u154_0_7 y153.advisories.length u154_0_8, .int .i64 y153.pull, .int .i64 y153.near, .int .i64 y153.steps, .slice u154_0_9 y153.ownNoise.length u154_0_10, .slice u154_0_11 y153.otherNoise.length u154_0_12, .bool y153.alert.neg, .slice u154_0_13 y153.alert.ln.length u154_0_14, .slice u154_0_15 y153.alert.ld.length u154_0_16, .bool y153.strengthen.neg, .slice u154_0_17 y153.strengthen.ln.length u154_0_18, .slice u154_0_19 y153.strengthen.ld.length u154_0_20, .bool y153.reversal.neg, .slice u154_0_21 y153.reversal.ln.length u154_0_22, .slice u154_0_23 y153.reversal.ld.length u154_0_24] B307 ?_
  intro w308 B308 j308
  refine zz 1 ?_
  refine zx 1 #[.slice ad48 32 32, .slice (some ⟨b307, 0, none⟩) 4 4, .slice u154_0_5 y153.other.length u154_0_6, .slice u154_0_7 y153.advisories.length u154_0_8, .int .i64 y153.pull, .int .i64 y153.near, .int .i64 y153.steps, .slice u154_0_9 y153.ownNoise.length u154_0_10, .slice u154_0_11 y153.otherNoise.length u154_0_12, .bool y153.alert.neg, .slice u154_0_13 y153.alert.ln.length u154_0_14, .slice u154_0_15 y153.alert.ld.length u154_0_16, .bool y153.strengthen.neg, .slice u154_0_17 y153.strengthen.ln.length u154_0_18, .slice u154_0_19 y153.strengthen.ld.length u154_0_20, .bool y153.reversal.neg, .slice u154_0_21 y153.reversal.ln.length u154_0_22, .slice u154_0_23 y153.reversal.ld.length u154_0_24] B308 ?_
  intro w309 B309 j309
  refine zz 3 ?_
  have hob := St.pubAt 0 B309 rfl
  obtain ⟨Y310, hSx310, j310, hat310, hatN310⟩ := hob
  have B310 : St E0 w X w309 Y310 [(b156, .cells #[.slice ad48 32 32, .slice (some ⟨b307, 0, none⟩) 4 4, .slice u154_0_5 y153.other.length u154_0_6, .slice u154_0_7 y153.advisories.length u154_0_8, .int .i64 y153.pull, .int .i64 y153.near, .int .i64 y153.steps, .slice u154_0_9 y153.ownNoise.length u154_0_10, .slice u154_0_11 y153.otherNoise.length u154_0_12, .bool y153.alert.neg, .slice u154_0_13 y153.alert.ln.length u154_0_14, .slice u154_0_15 y153.alert.ld.length u154_0_16, .bool y153.strengthen.neg, .slice u154_0_17 y153.strengthen.ln.length u154_0_18, .slice u154_0_19 y153.strengthen.ld.length u154_0_20, .bool y153.reversal.neg, .slice u154_0_21 y153.reversal.ln.length u154_0_22, .slice u154_0_23 y153.reversal.ld.length u154_0_24] 30 (0, 0)), (b58, .cells #[.slice (some ⟨b52, 0, none⟩) 1 1, .slice (some ⟨b54, 0, none⟩) 1 1, .slice (some ⟨b56, 0, none⟩) 1 1, .slice (some ⟨b45, 0, none⟩) 2 2, .int .i64 0, .int .i64 0, .int .i64 0, .slice (some ⟨b43, 0, none⟩) 1 1, .slice (some ⟨b43, 0, none⟩) 1 1, .bool false, .slice none 0 0, .slice none 0 0, .bool false, .slice none 0 0, .slice none 0 0, .bool false, .slice none 0 0, .slice none 0 0] 30 (0, 0)), (b40, .cells #[.bool false, .slice ad37 (8 + 1) cap37, .slice none 0 0] 28 (0, 0)), (b33, .cells #[.int .u32 1] 56 (0, 0)), (b26, .cells #[.bool y23.1.neg, .slice u24_0_1 y23.1.ln.length u24_0_3, .slice u24_0_4 y23.1.ld.length u24_0_6] 28 (0, 0)), (b19, .cells #[.bool true, .slice none 0 0, .slice none 0 0] 28 (0, 0)), (b17, .cells #[.bool y14.neg, .slice u15_0_1 y14.ln.length u15_0_3, .slice u15_0_4 y14.ld.length u15_0_6] 28 (0, 0))] := hSx310
  have hR310 : Ints (rd w309 (orN Y310 w.heap.size)) (some ⟨b307, 0, none⟩) 4 4 [0, 1, 2, 3] := (SlR.lit (El := IntAt) (size := 1) (n := 4) [⟨(0 : Int), [.int .i64 0]⟩, ⟨(1 : Int), [.int .i64 1]⟩, ⟨(2 : Int), [.int .i64 2]⟩, ⟨(3 : Int), [.int .i64 3]⟩] (hatN310 _ (Nat.le_refl _)) (List.forall_mem_cons.2 ⟨⟨rfl, fun r2 h2 b o h9 => h9⟩, (List.forall_mem_cons.2 ⟨⟨rfl, fun r2 h2 b o h9 => h9⟩, (List.forall_mem_cons.2 ⟨⟨rfl, fun r2 h2 b o h9 => h9⟩, (List.forall_mem_cons.2 ⟨⟨rfl, fun r2 h2 b o h9 => h9⟩, (List.forall_mem_nil _)⟩)⟩)⟩)⟩) rfl (by decide))
  have hc79_ := (Le3 j307 j308 j309).trans j310
  exact znext (fun a h => G203 (10, v50_0, [0, 1, 2, 3], y153.other, y153.advisories, y153.pull, y153.near, y153.steps, y153.ownNoise, y153.otherNoise, y153.alert, y153.strengthen, y153.reversal, ad48, 32, 32, (some ⟨b307, 0, none⟩), 4, u154_0_5, u154_0_6, u154_0_7, y153.advisories.length, u154_0_8, u154_0_9, u154_0_10, u154_0_11, y153.otherNoise.length, u154_0_12, u154_0_13, u154_0_14, u154_0_15, u154_0_16, u154_0_17, y153.strengthen.ln.length, u154_0_18, u154_0_19, y153.strengthen.ld.length, u154_0_20, u154_0_21, u154_0_22, u154_0_23, u154_0_24) _ a h ⟨_, B310, hc79_, ((hk248_19.mono Le.orl).mono hc79_), (hR310.mono Le.orl), (hk248_10.mono hc79_), (hk248_9.mono hc79_), (hk248_8.mono hc79_), (hk248_7.mono hc79_), (hk248_6.mono hc79_), (hk248_5.mono hc79_), (hk248_4.mono hc79_), (hk248_3.mono hc79_), (hk248_2.mono hc79_), (hk248_1.mono hc79_), hp⟩)
 have hp := iqb hc305 hp
 refine zz 7 ?_
 refine zb 202 (b := ((k150 : Int) == 23)) (fun hc311 => ?_) (fun hc311 => ?_)
 ·
  have hp := ipb hc311 hp
  refine zz 3 ?_
  refine zn (fun b => .slice (some ⟨b, 0, none⟩) 3 3) (.cells #[.int .i64 0, .int .i64 1, .int .i64 2] 3 (0, 0)) B157 ?_
  intro b313 w313 Y313 B313 j313 hu313
  refine zz 1 ?_
  refine zx 1 #[.slice ad48 32 32, .slice u154_0_3 y153.own.length u154_0_4, .slice u154_0_5 y153.other.length u154_0_6, .slice u154_0_7 y153.advisories.length u154_0_8, .int .i64 y153.pull, .int .i64 y153.near, .int .i64 y153.steps, .slice u154_0_9 y153.ownNoise.length u154_0_10, .slice u154_0_11 y153.otherNoise.length u154_0_12, .bool y153.alert.neg, .slice u154_0_13 y153.alert.ln.length u154_0_14, .slice u154_0_15 y153.alert.ld.length u154_0_16, .bool y153.strengthen.neg, .slice u154_0_17 y153.strengthen.ln.length u154_0_18, .slice u154_0_19 y153.strengthen.ld.length u154_0_20, .bool y153.reversal.neg, .slice u154_0_21 y153.reversal.ln.length u154_0_22, .slice u154_0_23 y153.reversal.ld.length u154_0_24] B313 ?_
  intro w314 B314 j314
  refine zz 1 ?_
  refine zx 1 #[.slice ad48 32 32, .slice (some ⟨b313, 0, none⟩) 3 3, .slice u154_0_5 y153.other.length u154_0_6, .slice u154_0_7 y153.advisories.length u154_0_8, .int .i64 y153.pull, .int .i64 y153.near, .int .i64 y153.steps, .slice u154_0_9 y153.ownNoise.length u154_0_10, .slice u154_0_11 y153.otherNoise.length u154_0_12, .bool y153.alert.neg, .slice u154_0_13 y153.alert.ln.length u154_0_14, .slice u154_0_15 y153.alert.ld.length u154_0_16, .bool y153.strengthen.neg, .slice u154_0_17 y153.strengthen.ln.length u154_0_18, .slice u154_0_19 y153.strengthen.ld.length u154_0_20, .bool y153.reversal.neg, .slice u154_0_21 y153.reversal.ln.length u154_0_22, .slice u154_0_23 y153.reversal.ld.length u154_0_24] B314 ?_
  intro w315 B315 j315
  refine zz 3 ?_
  have hob := St.pubAt 0 B315 rfl
  obtain ⟨Y316, hSx316, j316, hat316, hatN316⟩ := hob
  have B316 : St E0 w X w315 Y316 [(b156, .cells #[.slice ad48 32 32, .slice (some ⟨b313, 0, none⟩) 3 3, .slice u154_0_5 y153.other.length u154_0_6, .slice u154_0_7 y153.advisories.length u154_0_8, .int .i64 y153.pull, .int .i64 y153.near, .int .i64 y153.steps, .slice u154_0_9 y153.ownNoise.length u154_0_10, .slice u154_0_11 y153.otherNoise.length u154_0_12, .bool y153.alert.neg, .slice u154_0_13 y153.alert.ln.length u154_0_14, .slice u154_0_15 y153.alert.ld.length u154_0_16, .bool y153.strengthen.neg, .slice u154_0_17 y153.strengthen.ln.length u154_0_18, .slice u154_0_19 y153.strengthen.ld.length u154_0_20, .bool y153.reversal.neg, .slice u154_0_21 y153.reversal.ln.length u154_0_22, .slice u154_0_23 y153.reversal.ld.length u154_0_24] 30 (0, 0)), (b58, .cells #[.slice (some ⟨b52, 0, none⟩) 1 1, .slice (some ⟨b54, 0, none⟩) 1 1, .slice (some ⟨b56, 0, none⟩) 1 1, .slice (some ⟨b45, 0, none⟩) 2 2, .int .i64 0, .int .i64 0, .int .i64 0, .slice (some ⟨b43, 0, none⟩) 1 1, .slice (some ⟨b43, 0, none⟩) 1 1, .bool false, .slice none 0 0, .slice none 0 0, .bool false, .slice none 0 0, .slice none 0 0, .bool false, .slice none 0 0, .slice none 0 0] 30 (0, 0)), (b40, .cells #[.bool false, .slice ad37 (8 + 1) cap37, .slice none 0 0] 28 (0, 0)), (b33, .cells #[.int .u32 1] 56 (0, 0)), (b26, .cells #[.bool y23.1.neg, .slice u24_0_1 y23.1.ln.length u24_0_3, .slice u24_0_4 y23.1.ld.length u24_0_6] 28 (0, 0)), (b19, .cells #[.bool true, .slice none 0 0, .slice none 0 0] 28 (0, 0)), (b17, .cells #[.bool y14.neg, .slice u15_0_1 y14.ln.length u15_0_3, .slice u15_0_4 y14.ld.length u15_0_6] 28 (0, 0))] := hSx316
  have hR316 : Ints (rd w315 (orN Y316 w.heap.size)) (some ⟨b313, 0, none⟩) 3 3 [0, 1, 2] := (SlR.lit (El := IntAt) (size := 1) (n := 3) [⟨(0 : Int), [.int .i64 0]⟩, ⟨(1 : Int), [.int .i64 1]⟩, ⟨(2 : Int), [.int .i64 2]⟩] (hatN316 _ (Nat.le_refl _)) (List.forall_mem_cons.2 ⟨⟨rfl, fun r2 h2 b o h9 => h9⟩, (List.forall_mem_cons.2 ⟨⟨rfl, fun r2 h2 b o h9 => h9⟩, (List.forall_mem_cons.2 ⟨⟨rfl, fun r2 h2 b o h9 => h9⟩, (List.forall_mem_nil _)⟩)⟩)⟩) rfl (by decide))
  have hc80_ := (Le3 j313 j314 j315).trans j316
  exact znext (fun a h => G203 (0, v50_0, [0, 1, 2], y153.other, y153.advisories, y153.pull, y153.near, y153.steps, y153.ownNoise, y153.otherNoise, y153.alert, y153.strengthen, y153.reversal, ad48, 32, 32, (some ⟨b313, 0, none⟩), 3, u154_0_5, u154_0_6, u154_0_7, y153.advisories.length, u154_0_8, u154_0_9, u154_0_10, u154_0_11, y153.otherNoise.length, u154_0_12, u154_0_13, u154_0_14, u154_0_15, u154_0_16, u154_0_17, y153.strengthen.ln.length, u154_0_18, u154_0_19, y153.strengthen.ld.length, u154_0_20, u154_0_21, u154_0_22, u154_0_23, u154_0_24) _ a h ⟨_, B316, hc80_, ((hk248_19.mono Le.orl).mono hc80_), (hR316.mono Le.orl), (hk248_10.mono hc80_), (hk248_9.mono hc80_), (hk248_8.mono hc80_), (hk248_7.mono hc80_), (hk248_6.mono hc80_), (hk248_5.mono hc80_), (hk248_4.mono hc80_), (hk248_3.mono hc80_), (hk248_2.mono hc80_), (hk248_1.mono hc80_), hp⟩)
 have hp := iqb hc311 hp
 refine zz 3 ?_
 exact znext (fun a h => G203 (1, y153.height, y153.own, y153.other, y153.advisories, y153.pull, y153.near, y153.steps, y153.ownNoise, y153.otherNoise, y153.alert, y153.strengthen, y153.reversal, u154_0_1, y153.height.length, u154_0_2, u154_0_3, u154_0_4, u154_0_5, u154_0_6, u154_0_7, y153.advisories.length, u154_0_8, u154_0_9, u154_0_10, u154_0_11, y153.otherNoise.length, u154_0_12, u154_0_13, u154_0_14, u154_0_15, u154_0_16, u154_0_17, y153.strengthen.ln.length, u154_0_18, u154_0_19, y153.strengthen.ld.length, u154_0_20, u154_0_21, u154_0_22, u154_0_23, u154_0_24) _ a h ⟨_, B157, (Le.refl _), hk248_12, hk248_11, hk248_10, hk248_9, hk248_8, hk248_7, hk248_6, hk248_5, hk248_4, hk248_3, hk248_2, hk248_1, hp⟩)

/- Parts of the proof: A2 A3 A4 AM A5. By an AI agent. -/
import Derived.Shelf.SlIterI.Nil
import Derived.Shelf.SortM.Plain
import Derived.Shelf.SortM.SortNone
import Derived.Test.YtppalofalmieaaaGreatRows
import Derived.Test.YtppalofalmieaaaGreatBaseA
import Derived.Test.YtppalofalmieaaaGreatBaseB
import Derived.Test.YtppalofalmieaaaGreatBaseC
set_option linter.unusedVariables false
set_option linter.unusedSimpArgs false
set_option linter.unnecessarySimpa false
namespace Go.Proofs.YtppalofalmieaaaGreat
open Go Go.Gv Go.RowKit
set_option maxRecDepth 100000
set_option maxHeartbeats 1000000
noncomputable def interp_size_l4 (J2 : Int → Option (Int)) : List (List Int) → Int → Option (Int)
  | [], v4_0 => J2 v4_0
  | x4 :: r4, v4_0 => interp_size_l4 J2 r4 (IntKind.i64.wrap ((v4_0) * (x4.length : Int)))
noncomputable def interp_size_p (p0 : List (List Int)) : Option (Int) :=
  lt (fun (v2_0 : Int) => some v2_0) fun J2 => interp_size_l4 J2 (p0.drop 0)  1
theorem interp_size_c (w : World) (X : Hid) (hX : ∀ k o, X k o → k < w.heap.size) (p0 : List (List Int)) (vp0 : Value) (hp0 : SV IntsS (rd w X) vp0 p0) (y : Int) (hp : interp_size_p p0 = some y) : Calls Tryz.prog 107 #[vp0] w (Ret E0 w fun _ v => v = .int .i64 y) := by
 obtain ⟨p0a1, p0a2, rfl, p0a_h0⟩ := hp0
 unfold interp_size_p at hp
 refine zen Tryz.func107 ?_
 have B0 : St E0 w X w X [] := St.start hX
 refine zz 10 ?_
 have hob := ltd1 hp
 obtain ⟨J2, hJ2, hp⟩ := hob
 refine zjoin (fun (v2_0 : Int) => [(3, .int .i64 v2_0)]) (fun (v2_0 : Int) w1 => ∃ Y1 : Hid, St E0 w X w1 Y1 [] ∧ Le (rd w X) (rd w1 Y1) ∧ J2 v2_0 = some y) ?_ ?_
 ·
  rintro v2_0 w2 ⟨Y2, B2, j2, hp⟩
  have hp := (hJ2 _).symm.trans hp
  refine zz 7 ?_
  refine zr' (v := .int .i64 v2_0) ?_
  have hob := Option.some.inj hp
  subst hob
  exact ⟨B2.upd, _, rfl, rfl⟩
 intro K3 G3
 refine zz 8 ?_
 have hb4 : (p0.length : Int) ≤ 9223372036854775807 := lenb (p0a_h0).hcap (p0a_h0).hbig
 refine zlp Tryz.f107 [K3] [1, 1, 9, 1, 0] (fun ((v4_0, k4) : Int × Nat) => [(3, .int .i64 v4_0), (6, .slice p0a1 p0.length p0a2), (7, .int .i64 (p0.length : Int)), (8, .int .i64 (k4 : Int))]) (fun ((v4_0, k4) : Int × Nat) w1 => ∃ Y1 : Hid, St E0 w X w1 Y1 [] ∧ Le (rd w X) (rd w1 Y1) ∧ interp_size_l4 J2 (p0.drop k4)  v4_0 = some y) (fun ((v4_0, k4) : Int × Nat) => p0.length - k4) (1, 0) ?_ ?_
 ·
  exact ⟨_, B0, Le.refl _, hp⟩
 rintro ⟨v4_0, k4⟩ w4 K4 G4 ⟨Y4, B4, j4, hp⟩
 refine zz 6 ?_
 refine zt 9 (p := (k4 : Int) < (p0.length : Int)) (fun ht5 => ?_) (fun ht5 => ?_)
 ·
  have hob := get_lt (l := p0) (k := k4) (lt_of_int ht5)
  obtain ⟨x4, hqx4⟩ := hob
  rw [dropC hqx4, interp_size_l4] at hp
  have hzx4 : (0 : Int) ≤ (k4 : Int) := Int.natCast_nonneg _
  refine zz 7 ?_
  have hob := p0a_h0.opn hqx4
  obtain ⟨be6, oe6, rfl, j6, hEe6⟩ := hob
  obtain ⟨e61, e62, e6_at, e6_h0⟩ := hEe6
  refine zi (b := be6) (off := oe6) (len := p0.length) (cap := p0a2) (kd := .i64) (i := (k4 : Int)) 1 (oe6 + k4 * 1) ?_ (h0 := hzx4) (h1 := (ix_b hzx4 j6))
  refine zl ((e6_at.mono j4)).cells ?_
  refine zz 14 ?_
  refine zs 16 (v := .int .i64 (IntKind.i64.wrap ((k4 : Int) + 1))) (v' := .int .i64 ((k4 : Int) + 1)) (vint (wi64 (wk0 k4) (wk1 ht5 hb4))) ?_
  refine zz 2 ?_
  refine znext (fun a h => G4 (IntKind.i64.wrap ((v4_0) * (x4.length : Int)), k4 + 1) _ a h ⟨_, B4, j4, hp⟩ ?_)
  exact mu_lt ht5
 rw [List.drop_eq_nil_of_le (nlt_of_int ht5), interp_size_l4] at hp
 refine zz 5 ?_
 exact znext (fun a h => G3 v4_0 _ a h ⟨_, B4, j4, hp⟩)
noncomputable def interp_Check_l17 (x10 : List Int) (J12 : Option (Int)) : List Int → Nat → Option (Int)
  | [], k17 => J12
  | x17 :: r17, k17 => if (x17) < (-1073741824) then (some 1) else (if (x17) > 1073741824 then (some 1) else (if (k17 : Int) > 0 then ((ix x10 (IntKind.i64.wrap ((k17 : Int) - 1))).bind fun x23 => if (x17) ≤ x23 then (some 1) else (interp_Check_l17 x10 J12 r17 (k17 + 1))) else (interp_Check_l17 x10 J12 r17 (k17 + 1))))
noncomputable def interp_Check_l10 (J4 : Option (Int)) : List (List Int) → Option (Int)
  | [] => J4
  | x10 :: r10 => lt (interp_Check_l10 J4 r10 ) fun J12 => if ((x10.length : Int) == 0) = true then (some 3) else (if (x10.length : Int) > 32 then (some 4) else (interp_Check_l17 x10 J12 (x10.drop 0) 0))
noncomputable def interp_Check_p (p0 : List (List Int)) : Option (Int) :=
  if ((p0.length : Int) == 0) = true then (some 3) else (if (p0.length : Int) > 4 then (some 4) else (lt ((interp_size_p p0).bind fun y6 => if (y6) > 256 then (some 10) else (some 0)) fun J4 => interp_Check_l10 J4 (p0.drop 0) ))
theorem interp_Check_c (w : World) (X : Hid) (hX : ∀ k o, X k o → k < w.heap.size) (p0 : List (List Int)) (vp0 : Value) (hp0 : SV IntsS (rd w X) vp0 p0) (y : Int) (hp : interp_Check_p p0 = some y) : Calls Tryz.prog 69 #[vp0] w (Ret E0 w fun _ v => v = .int .i64 y) := by
 obtain ⟨p0a1, p0a2, rfl, p0a_h0⟩ := hp0
 unfold interp_Check_p at hp
 refine zen Tryz.func69 ?_
 have B0 : St E0 w X w X [] := St.start hX
 refine zz 15 ?_
 refine zb 7 (b := ((p0.length : Int) == 0)) (fun hc2 => ?_) (fun hc2 => ?_)
 ·
  have hp := ipb hc2 hp
  refine zz 9 ?_
  refine zr' (v := .int .i64 3) ?_
  have hob := Option.some.inj hp
  subst hob
  exact ⟨B0.upd, _, rfl, rfl⟩
 have hp := iqb hc2 hp
 refine zz 9 ?_
 refine zt 11 (p := (p0.length : Int) > 4) (fun ht3 => ?_) (fun ht3 => ?_)
 ·
  have hp := ip ht3 hp
  refine zz 9 ?_
  refine zr' (v := .int .i64 4) ?_
  have hob := Option.some.inj hp
  subst hob
  exact ⟨B0.upd, _, rfl, rfl⟩
 have hp := iq ht3 hp
 refine zz 4 ?_
 have hob := ltd0 hp
 obtain ⟨J4, hJ4, hp⟩ := hob
 refine zjoin (fun (_ : Unit) => [(0, .slice p0a1 p0.length p0a2)]) (fun (_ : Unit) w1 => ∃ Y1 : Hid, St E0 w X w1 Y1 [] ∧ Le (rd w X) (rd w1 Y1) ∧ J4 = some y) ?_ ?_
 ·
  rintro _ w4 ⟨Y4, B4, j4, hp⟩
  have hp := hJ4.symm.trans hp
  refine zz 4 ?_
  refine bndk hp fun y6 hy6 hp => ?_
  refine zc B4 (interp_size_c _ X0 (X0_lt _) p0 _ ⟨_, _, rfl, ((p0a_h0.mono j4).mono Le.x0)⟩ y6 hy6) ?_
  rintro v7 w7 B7 j7 hu7 rfl
  refine zz 3 ?_
  refine zt 59 (p := (y6) > 256) (fun ht8 => ?_) (fun ht8 => ?_)
  ·
   have hp := ip ht8 hp
   refine zz 8 ?_
   refine zr' (v := .int .i64 10) ?_
   have hob := Option.some.inj hp
   subst hob
   exact ⟨B7.upd, _, rfl, rfl⟩
  have hp := iq ht8 hp
  refine zz 9 ?_
  refine zr' (v := .int .i64 0) ?_
  have hob := Option.some.inj hp
  subst hob
  exact ⟨B7.upd, _, rfl, rfl⟩
 intro K9 G9
 refine zz 8 ?_
 have hb10 : (p0.length : Int) ≤ 9223372036854775807 := lenb (p0a_h0).hcap (p0a_h0).hbig
 refine zlp Tryz.f69 [K9] [1, 1, 9, 1, 0] (fun (k10 : Nat) => [(0, .slice p0a1 p0.length p0a2), (15, .slice p0a1 p0.length p0a2), (16, .int .i64 (p0.length : Int)), (17, .int .i64 (k10 : Int))]) (fun (k10 : Nat) w1 => ∃ Y1 : Hid, St E0 w X w1 Y1 [] ∧ Le (rd w X) (rd w1 Y1) ∧ interp_Check_l10 J4 (p0.drop k10)  = some y) (fun (k10 : Nat) => p0.length - k10) 0 ?_ ?_
 ·
  exact ⟨_, B0, Le.refl _, hp⟩
 rintro k10 w10 K10 G10 ⟨Y10, B10, j10, hp⟩
 refine zz 6 ?_
 refine zt 18 (p := (k10 : Int) < (p0.length : Int)) (fun ht11 => ?_) (fun ht11 => ?_)
 ·
  have hob := get_lt (l := p0) (k := k10) (lt_of_int ht11)
  obtain ⟨x10, hqx10⟩ := hob
  rw [dropC hqx10, interp_Check_l10] at hp
  have hzx10 : (0 : Int) ≤ (k10 : Int) := Int.natCast_nonneg _
  refine zz 3 ?_
  have hob := ltd0 hp
  obtain ⟨J12, hJ12, hp⟩ := hob
  refine zjoin (fun (_ : Unit) => [(0, .slice p0a1 p0.length p0a2), (15, .slice p0a1 p0.length p0a2), (16, .int .i64 (p0.length : Int)), (17, .int .i64 (k10 : Int))]) (fun (_ : Unit) w1 => ∃ Y1 : Hid, St E0 w X w1 Y1 [] ∧ Le (rd w10 Y10) (rd w1 Y1) ∧ J12 = some y) ?_ ?_
  ·
   rintro _ w12 ⟨Y12, B12, j12, hp⟩
   have hp := hJ12.symm.trans hp
   refine zz 2 ?_
   refine zs 56 (v := .int .i64 (IntKind.i64.wrap ((k10 : Int) + 1))) (v' := .int .i64 ((k10 : Int) + 1)) (vint (wi64 (wk0 k10) (wk1 ht11 hb10))) ?_
   refine zz 2 ?_
   refine znext (fun a h => G10 (k10 + 1) _ a h ⟨_, B12, (Le2 j10 j12), hp⟩ ?_)
   exact mu_lt ht11
  intro K13 G13
  refine zz 3 ?_
  have hob := p0a_h0.opn hqx10
  obtain ⟨be14, oe14, rfl, j14, hEe14⟩ := hob
  obtain ⟨e141, e142, e14_at, e14_h0⟩ := hEe14
  refine zi (b := be14) (off := oe14) (len := p0.length) (cap := p0a2) (kd := .i64) (i := (k10 : Int)) 1 (oe14 + k10 * 1) ?_ (h0 := hzx10) (h1 := (ix_b hzx10 j14))
  refine zl ((e14_at.mono j10)).cells ?_
  refine zz 13 ?_
  refine zb 21 (b := ((x10.length : Int) == 0)) (fun hc15 => ?_) (fun hc15 => ?_)
  ·
   have hp := ipb hc15 hp
   refine zz 14 ?_
   refine zr' (v := .int .i64 3) ?_
   have hob := Option.some.inj hp
   subst hob
   exact ⟨B10.upd, _, rfl, rfl⟩
  have hp := iqb hc15 hp
  refine zz 9 ?_
  refine zt 25 (p := (x10.length : Int) > 32) (fun ht16 => ?_) (fun ht16 => ?_)
  ·
   have hp := ip ht16 hp
   refine zz 14 ?_
   refine zr' (v := .int .i64 4) ?_
   have hob := Option.some.inj hp
   subst hob
   exact ⟨B10.upd, _, rfl, rfl⟩
  have hp := iq ht16 hp
  refine zz 12 ?_
  have hb17 : (x10.length : Int) ≤ 9223372036854775807 := lenb (e14_h0).hcap (e14_h0).hbig
  refine zlp Tryz.f69 [K9, K10, K13] [1, 1, 9, 1, 0, 0, 1, 1, 9, 0, 1, 1, 1, 0] (fun (k17 : Nat) => [(0, .slice (some ⟨be14, oe14, none⟩) p0.length p0a2), (4, .slice e141 x10.length e142), (15, .slice (some ⟨be14, oe14, none⟩) p0.length p0a2), (16, .int .i64 (p0.length : Int)), (17, .int .i64 (k10 : Int)), (29, .slice e141 x10.length e142), (30, .int .i64 (x10.length : Int)), (31, .int .i64 (k17 : Int))]) (fun (k17 : Nat) w1 => ∃ Y1 : Hid, St E0 w X w1 Y1 [] ∧ Le (rd w10 Y10) (rd w1 Y1) ∧ interp_Check_l17 x10 J12 (x10.drop k17) k17 = some y) (fun (k17 : Nat) => x10.length - k17) 0 ?_ ?_
  ·
   exact ⟨_, B10, Le.refl _, hp⟩
  rintro k17 w17 K17 G17 ⟨Y17, B17, j17, hp⟩
  refine zz 6 ?_
  refine zt 32 (p := (k17 : Int) < (x10.length : Int)) (fun ht18 => ?_) (fun ht18 => ?_)
  ·
   have hob := get_lt (l := x10) (k := k17) (lt_of_int ht18)
   obtain ⟨x17, hqx17⟩ := hob
   rw [dropC hqx17, interp_Check_l17] at hp
   have hzx17 : (0 : Int) ≤ (k17 : Int) := Int.natCast_nonneg _
   refine zz 8 ?_
   have hob := e14_h0.opn hqx17
   obtain ⟨be19, oe19, rfl, j19, hEe19⟩ := hob
   have hAe19 : At (rd w X) ⟨be19, oe19 + k17 * 1, none⟩ [.int .i64 x17] := hEe19
   refine zi (b := be19) (off := oe19) (len := x10.length) (cap := e142) (kd := .i64) (i := (k17 : Int)) 1 (oe19 + k17 * 1) ?_ (h0 := hzx17) (h1 := (ix_b hzx17 j19))
   refine zl ((hAe19.mono (Le2 j10 j17))).cells ?_
   refine zz 9 ?_
   refine zt 38 (p := (x17) < (-1073741824)) (fun ht20 => ?_) (fun ht20 => ?_)
   ·
    have hp := ip ht20 hp
    refine zz 34 ?_
    refine zr' (v := .int .i64 1) ?_
    have hob := Option.some.inj hp
    subst hob
    exact ⟨B17.upd, _, rfl, rfl⟩
   have hp := iq ht20 hp
   refine zz 4 ?_
   refine zt 42 (p := (x17) > 1073741824) (fun ht21 => ?_) (fun ht21 => ?_)
   ·
    have hp := ip ht21 hp
    refine zz 30 ?_
    refine zr' (v := .int .i64 1) ?_
    have hob := Option.some.inj hp
    subst hob
    exact ⟨B17.upd, _, rfl, rfl⟩
   have hp := iq ht21 hp
   refine zz 3 ?_
   refine zt 45 (p := (k17 : Int) > 0) (fun ht22 => ?_) (fun ht22 => ?_)
   ·
    have hp := ip ht22 hp
    refine zz 4 ?_
    refine bndk hp fun x23 hx23 hp => ?_
    have hob := ix_some hx23
    obtain ⟨hzx23, hqx23⟩ := hob
    have hob := e14_h0.opn2 hqx23
    obtain ⟨j24, hEe24⟩ := hob
    have hAe24 : At (rd w X) ⟨be19, oe19 + (IntKind.i64.wrap ((k17 : Int) - 1)).toNat * 1, none⟩ [.int .i64 x23] := hEe24
    refine zi (b := be19) (off := oe19) (len := x10.length) (cap := e142) (kd := .i64) (i := IntKind.i64.wrap ((k17 : Int) - 1)) 1 (oe19 + (IntKind.i64.wrap ((k17 : Int) - 1)).toNat * 1) ?_ (h0 := hzx23) (h1 := (ix_b hzx23 j24))
    refine zl ((hAe24.mono (Le2 j10 j17))).cells ?_
    refine zz 5 ?_
    refine zt 54 (p := (x17) ≤ x23) (fun ht25 => ?_) (fun ht25 => ?_)
    ·
     have hp := ip ht25 hp
     refine zz 16 ?_
     refine zr' (v := .int .i64 1) ?_
     have hob := Option.some.inj hp
     subst hob
     exact ⟨B17.upd, _, rfl, rfl⟩
    have hp := iq ht25 hp
    refine zz 6 ?_
    refine zs 55 (v := .int .i64 (IntKind.i64.wrap ((k17 : Int) + 1))) (v' := .int .i64 ((k17 : Int) + 1)) (vint (wi64 (wk0 k17) (wk1 ht18 hb17))) ?_
    refine zz 2 ?_
    refine znext (fun a h => G17 (k17 + 1) _ a h ⟨_, B17, j17, hp⟩ ?_)
    exact mu_lt ht18
   have hp := iq ht22 hp
   refine zz 17 ?_
   refine zs 55 (v := .int .i64 (IntKind.i64.wrap ((k17 : Int) + 1))) (v' := .int .i64 ((k17 : Int) + 1)) (vint (wi64 (wk0 k17) (wk1 ht18 hb17))) ?_
   refine zz 2 ?_
   refine znext (fun a h => G17 (k17 + 1) _ a h ⟨_, B17, j17, hp⟩ ?_)
   exact mu_lt ht18
  rw [List.drop_eq_nil_of_le (nlt_of_int ht18), interp_Check_l17] at hp
  refine zz 6 ?_
  exact znext (fun a h => G13 () _ a h ⟨_, B17, j17, hp⟩)
 rw [List.drop_eq_nil_of_le (nlt_of_int ht11), interp_Check_l10] at hp
 refine zz 5 ?_
 exact znext (fun a h => G9 () _ a h ⟨_, B10, j10, hp⟩)
noncomputable def dynamics_grid_p (p0 : ModelD) : Option ((List (List Int))) :=
  some ([p0.height, p0.own, p0.other])
theorem dynamics_grid_c (w : World) (X : Hid) (hX : ∀ k o, X k o → k < w.heap.size) (p0 : ModelD) (vp0 : Value) (hp0 : ModelDV (rd w X) vp0 p0) (y : (List (List Int))) (hp : dynamics_grid_p p0 = some y) : Calls Tryz.prog 70 #[vp0] w (Ret E0 w fun w' v => SV IntsS (rd w' X) v y) := by
 have hVp0 := hp0
 refine ModelDV.op hp0 fun p0a1 p0a2 p0a3 p0a4 p0a5 p0a6 p0a7 p0a8 p0a9 p0a10 p0a11 p0a12 p0a13 p0a14 p0a15 p0a16 p0a17 p0a18 p0a19 p0a20 p0a21 p0a22 p0a23 p0a24 hv9 p0a_h0 p0a_h1 p0a_h2 p0a_h3 p0a_h4 p0a_h5 p0a_h6 p0a_h7 p0a_h8 p0a_h9 p0a_h10 p0a_h11 => ?_
 subst hv9
 unfold dynamics_grid_p at hp
 refine zen Tryz.func70 ?_
 have B0 : St E0 w X w X [] := St.start hX
 refine zz 2 ?_
 refine zn pn (.cells #[.slice p0a1 p0.height.length p0a2, .slice p0a3 p0.own.length p0a4, .slice p0a5 p0.other.length p0a6, .slice p0a7 p0.advisories.length p0a8, .int .i64 p0.pull, .int .i64 p0.near, .int .i64 p0.steps, .slice p0a9 p0.ownNoise.length p0a10, .slice p0a11 p0.otherNoise.length p0a12, .bool p0.alert.neg, .slice p0a13 p0.alert.ln.length p0a14, .slice p0a15 p0.alert.ld.length p0a16, .bool p0.strengthen.neg, .slice p0a17 p0.strengthen.ln.length p0a18, .slice p0a19 p0.strengthen.ld.length p0a20, .bool p0.reversal.neg, .slice p0a21 p0.reversal.ln.length p0a22, .slice p0a23 p0.reversal.ld.length p0a24] 30 (0, 0)) B0 ?_
 intro b3 w3 Y3 B3 j3 hu3
 refine zz 6 ?_
 refine zo 0 B3 ?_
 refine zz 1 ?_
 refine zo 0 B3 ?_
 refine zz 1 ?_
 refine zo 0 B3 ?_
 refine zn (fun b => .slice (some ⟨b, 0, none⟩) 3 3) (.cells #[.slice p0a1 p0.height.length p0a2, .slice p0a3 p0.own.length p0a4, .slice p0a5 p0.other.length p0a6] 22 (0, 0)) B3 ?_
 intro b5 w5 Y5 B5 j5 hu5
 refine zz 4 ?_
 refine zr' (v := .slice (some ⟨b5, 0, none⟩) 3 3) ?_
 have hob := St.pubAt 0 B5 rfl
 obtain ⟨Y6, hSx6, j6, hat6, hatN6⟩ := hob
 have B6 : St E0 w X w5 Y6 [(b3, .cells #[.slice p0a1 p0.height.length p0a2, .slice p0a3 p0.own.length p0a4, .slice p0a5 p0.other.length p0a6, .slice p0a7 p0.advisories.length p0a8, .int .i64 p0.pull, .int .i64 p0.near, .int .i64 p0.steps, .slice p0a9 p0.ownNoise.length p0a10, .slice p0a11 p0.otherNoise.length p0a12, .bool p0.alert.neg, .slice p0a13 p0.alert.ln.length p0a14, .slice p0a15 p0.alert.ld.length p0a16, .bool p0.strengthen.neg, .slice p0a17 p0.strengthen.ln.length p0a18, .slice p0a19 p0.strengthen.ld.length p0a20, .bool p0.reversal.neg, .slice p0a21 p0.reversal.ln.length p0a22, .slice p0a23 p0.reversal.ld.length p0a24] 30 (0, 0))] := hSx6
 have hR6 : IntsS (rd w5 Y6) (some ⟨b5, 0, none⟩) 3 3 [p0.height, p0.own, p0.other] := (SlR.lit (El := IntsAt) (size := 1) (n := 3) [⟨p0.height, [.slice p0a1 p0.height.length p0a2]⟩, ⟨p0.own, [.slice p0a3 p0.own.length p0a4]⟩, ⟨p0.other, [.slice p0a5 p0.other.length p0a6]⟩] hat6 (List.forall_mem_cons.2 ⟨⟨rfl, fun r2 h2 b o h9 => ⟨_, _, h9, ((p0a_h0.mono (Le3 j3 j5 j6)).mono h2)⟩⟩, (List.forall_mem_cons.2 ⟨⟨rfl, fun r2 h2 b o h9 => ⟨_, _, h9, ((p0a_h1.mono (Le3 j3 j5 j6)).mono h2)⟩⟩, (List.forall_mem_cons.2 ⟨⟨rfl, fun r2 h2 b o h9 => ⟨_, _, h9, ((p0a_h2.mono (Le3 j3 j5 j6)).mono h2)⟩⟩, (List.forall_mem_nil _)⟩)⟩)⟩) rfl (by decide))
 have hob := Option.some.inj hp
 subst hob
 exact ⟨B6.upd, _, rfl, ⟨_, _, rfl, (hR6).mono B6.le⟩⟩
noncomputable def dynamics_size_p (p0 : ModelD) : Option (Int) :=
  (some (IntKind.i64.wrap ((IntKind.i64.wrap ((p0.height.length : Int) * (p0.own.length : Int))) * (p0.other.length : Int)))).bind fun z4 => some (IntKind.i64.wrap ((z4) * (p0.advisories.length : Int)))
theorem dynamics_size_c (w : World) (X : Hid) (hX : ∀ k o, X k o → k < w.heap.size) (p0 : ModelD) (vp0 : Value) (hp0 : ModelDV (rd w X) vp0 p0) (y : Int) (hp : dynamics_size_p p0 = some y) : Calls Tryz.prog 56 #[vp0] w (Ret E0 w fun _ v => v = .int .i64 y) := by
 have hVp0 := hp0
 refine ModelDV.op hp0 fun p0a1 p0a2 p0a3 p0a4 p0a5 p0a6 p0a7 p0a8 p0a9 p0a10 p0a11 p0a12 p0a13 p0a14 p0a15 p0a16 p0a17 p0a18 p0a19 p0a20 p0a21 p0a22 p0a23 p0a24 hv9 p0a_h0 p0a_h1 p0a_h2 p0a_h3 p0a_h4 p0a_h5 p0a_h6 p0a_h7 p0a_h8 p0a_h9 p0a_h10 p0a_h11 => ?_
 subst hv9
 unfold dynamics_size_p at hp
 refine zen Tryz.func56 ?_
 have B0 : St E0 w X w X [] := St.start hX
 refine zz 2 ?_
 refine zn pn (.cells #[.slice p0a1 p0.height.length p0a2, .slice p0a3 p0.own.length p0a4, .slice p0a5 p0.other.length p0a6, .slice p0a7 p0.advisories.length p0a8, .int .i64 p0.pull, .int .i64 p0.near, .int .i64 p0.steps, .slice p0a9 p0.ownNoise.length p0a10, .slice p0a11 p0.otherNoise.length p0a12, .bool p0.alert.neg, .slice p0a13 p0.alert.ln.length p0a14, .slice p0a15 p0.alert.ld.length p0a16, .bool p0.strengthen.neg, .slice p0a17 p0.strengthen.ln.length p0a18, .slice p0a19 p0.strengthen.ld.length p0a20, .bool p0.reversal.neg, .slice p0a21 p0.reversal.ln.length p0a22, .slice p0a23 p0.reversal.ld.length p0a24] 30 (0, 0)) B0 ?_
 intro b3 w3 Y3 B3 j3 hu3
 refine zz 6 ?_
 refine zo 0 B3 ?_
 refine zz 2 ?_
 refine zo 0 B3 ?_
 refine zz 3 ?_
 refine zo 0 B3 ?_
 refine bndk hp fun z4 hz4 hp => ?_
 refine zz 2 ?_
 refine zs 13 (v := .int .i64 (IntKind.i64.wrap ((IntKind.i64.wrap ((p0.height.length : Int) * (p0.own.length : Int))) * (p0.other.length : Int)))) (v' := .int .i64 z4) (vint (Option.some.inj hz4)) ?_
 refine zz 1 ?_
 refine zo 0 B3 ?_
 refine zz 6 ?_
 refine zr' (v := .int .i64 (IntKind.i64.wrap ((z4) * (p0.advisories.length : Int)))) ?_
 have hob := Option.some.inj hp
 subst hob
 exact ⟨B3.upd, _, rfl, rfl⟩
noncomputable def dynamics_span_has_1_p (p0 : Int) (p1 : SpanD) : Option (Bool) :=
  if (p0) < p1.lo then (some true) else (some (decide ((p0) > p1.hi)))
theorem dynamics_span_has_1_c (w : World) (X : Hid) (hX : ∀ k o, X k o → k < w.heap.size) (p0 : Int) (p1 : SpanD) (bp1 : Nat) (hp1 : SpanDAt (rd w X) ⟨bp1, 0, none⟩ p1) (y : Bool) (hp : dynamics_span_has_1_p p0 p1 = some y) : Calls Tryz.prog 109 #[.int .i64 p0, .pointer (some ⟨bp1, 0, none⟩)] w (Ret E0 w fun _ v => v = .bool y) := by
 have p1a_at : At (rd w X) ⟨bp1, 0, none⟩ [.int .i64 p1.lo, .int .i64 p1.hi] := hp1
 unfold dynamics_span_has_1_p at hp
 refine zen Tryz.func109 ?_
 have B0 : St E0 w X w X [] := St.start hX
 refine zz 9 ?_
 refine zl (p1a_at.sub 0 1).cells ?_
 refine zz 2 ?_
 refine zt 8 (p := (p0) < p1.lo) (fun ht2 => ?_) (fun ht2 => ?_)
 ·
  have hp := ip ht2 hp
  refine zz 9 ?_
  refine zr' (v := .bool true) ?_
  have hob := Option.some.inj hp
  subst hob
  exact ⟨B0.upd, _, rfl, rfl⟩
 have hp := iq ht2 hp
 refine zz 2 ?_
 refine zl (p1a_at.sub 1 1).cells ?_
 refine zz 6 ?_
 refine zr' (v := .bool (decide ((p0) > p1.hi))) ?_
 have hob := Option.some.inj hp
 subst hob
 exact ⟨B0.upd, _, rfl, rfl⟩
noncomputable def slices_IndexFunc_int_int_s109_l4 (p1q0 : SpanD) (J2 : Option (Int)) : List Int → Nat → Option (Int)
  | [], k4 => J2
  | x4 :: r4, k4 => (dynamics_span_has_1_p (x4) p1q0).bind fun y8 => if y8 = true then (some (k4 : Int)) else (slices_IndexFunc_int_int_s109_l4 p1q0 J2 r4 (k4 + 1))
noncomputable def slices_IndexFunc_int_int_s109_p (p0 : List Int) (p1q0 : SpanD) : Option (Int) :=
  lt (some (-1)) fun J2 => slices_IndexFunc_int_int_s109_l4 p1q0 J2 (p0.drop 0) 0
theorem slices_IndexFunc_int_int_s109_c (w : World) (X : Hid) (hX : ∀ k o, X k o → k < w.heap.size) (p0 : List Int) (vp0 : Value) (hp0 : SV Ints (rd w X) vp0 p0) (p1q0 : SpanD) (bp1q0 : Nat) (hp1q0 : SpanDAt (rd w X) ⟨bp1q0, 0, none⟩ p1q0) (y : Int) (hp : slices_IndexFunc_int_int_s109_p p0 p1q0 = some y) : Calls Tryz.prog 144 #[vp0, .func (.func 109) #[] #[.pointer (some ⟨bp1q0, 0, none⟩)]] w (Ret E0 w fun _ v => v = .int .i64 y) := by
 obtain ⟨p0a1, p0a2, rfl, p0a_h0⟩ := hp0
 have p1q0a_at : At (rd w X) ⟨bp1q0, 0, none⟩ [.int .i64 p1q0.lo, .int .i64 p1q0.hi] := hp1q0
 unfold slices_IndexFunc_int_int_s109_p at hp
 refine zen Tryz.func144 ?_
 have B0 : St E0 w X w X [] := St.start hX
 refine zz 5 ?_
 have hob := ltd0 hp
 obtain ⟨J2, hJ2, hp⟩ := hob
 refine zjoin (fun (_ : Unit) => []) (fun (_ : Unit) w1 => ∃ Y1 : Hid, St E0 w X w1 Y1 [] ∧ Le (rd w X) (rd w1 Y1) ∧ J2 = some y) ?_ ?_
 ·
  rintro _ w2 ⟨Y2, B2, j2, hp⟩
  have hp := hJ2.symm.trans hp
  refine zz 6 ?_
  refine zr' (v := .int .i64 (-1)) ?_
  have hob := Option.some.inj hp
  subst hob
  exact ⟨B2.upd, _, rfl, rfl⟩
 intro K3 G3
 refine zz 8 ?_
 have hb4 : (p0.length : Int) ≤ 9223372036854775807 := lenb (p0a_h0).hcap (p0a_h0).hbig
 refine zlp Tryz.f144 [K3] [1, 9, 1, 0] (fun (k4 : Nat) => [(0, .slice p0a1 p0.length p0a2), (1, .func (.func 109) #[] #[.pointer (some ⟨bp1q0, 0, none⟩)]), (7, .int .i64 (p0.length : Int)), (8, .int .i64 (k4 : Int))]) (fun (k4 : Nat) w1 => ∃ Y1 : Hid, St E0 w X w1 Y1 [] ∧ Le (rd w X) (rd w1 Y1) ∧ slices_IndexFunc_int_int_s109_l4 p1q0 J2 (p0.drop k4) k4 = some y) (fun (k4 : Nat) => p0.length - k4) 0 ?_ ?_
 ·
  exact ⟨_, B0, Le.refl _, hp⟩
 rintro k4 w4 K4 G4 ⟨Y4, B4, j4, hp⟩
 refine zz 6 ?_
 refine zt 9 (p := (k4 : Int) < (p0.length : Int)) (fun ht5 => ?_) (fun ht5 => ?_)
 ·
  have hob := get_lt (l := p0) (k := k4) (lt_of_int ht5)
  obtain ⟨x4, hqx4⟩ := hob
  rw [dropC hqx4, slices_IndexFunc_int_int_s109_l4] at hp
  have hzx4 : (0 : Int) ≤ (k4 : Int) := Int.natCast_nonneg _
  refine zz 16 ?_
  have hob := p0a_h0.opn hqx4
  obtain ⟨be6, oe6, rfl, j6, hEe6⟩ := hob
  have hAe6 : At (rd w X) ⟨be6, oe6 + k4 * 1, none⟩ [.int .i64 x4] := hEe6
  refine zi (b := be6) (off := oe6) (len := p0.length) (cap := p0a2) (kd := .i64) (i := (k4 : Int)) 1 (oe6 + k4 * 1) ?_ (h0 := hzx4) (h1 := (ix_b hzx4 j6))
  refine zl ((hAe6.mono j4)).cells ?_
  refine bndk hp fun y8 hy8 hp => ?_
  refine zc B4 (dynamics_span_has_1_c _ X0 (X0_lt _) (x4) p1q0 _ ((p1q0a_at.mono j4).mono Le.x0) y8 hy8) ?_
  rintro v9 w9 B9 j9 hu9 rfl
  refine zz 2 ?_
  refine zb 16 (b := y8) (fun hc10 => ?_) (fun hc10 => ?_)
  ·
   have hp := ipb hc10 hp
   refine zz 13 ?_
   refine zr' (v := .int .i64 (k4 : Int)) ?_
   have hob := Option.some.inj hp
   subst hob
   exact ⟨B9.upd, _, rfl, rfl⟩
  have hp := iqb hc10 hp
  refine zz 6 ?_
  refine zs 18 (v := .int .i64 (IntKind.i64.wrap ((k4 : Int) + 1))) (v' := .int .i64 ((k4 : Int) + 1)) (vint (wi64 (wk0 k4) (wk1 ht5 hb4))) ?_
  refine zz 2 ?_
  refine znext (fun a h => G4 (k4 + 1) _ a h ⟨_, B9, (Le2 j4 j9), hp⟩ ?_)
  exact mu_lt ht5
 rw [List.drop_eq_nil_of_le (nlt_of_int ht5), slices_IndexFunc_int_int_s109_l4] at hp
 refine zz 5 ?_
 exact znext (fun a h => G3 () _ a h ⟨_, B4, j4, hp⟩)
noncomputable def slices_ContainsFunc_int_int_s109_p (p0 : List Int) (p1q0 : SpanD) : Option (Bool) :=
  (slices_IndexFunc_int_int_s109_p p0 p1q0).bind fun y3 => some (decide ((y3) ≥ 0))
theorem slices_ContainsFunc_int_int_s109_c (w : World) (X : Hid) (hX : ∀ k o, X k o → k < w.heap.size) (p0 : List Int) (vp0 : Value) (hp0 : SV Ints (rd w X) vp0 p0) (p1q0 : SpanD) (bp1q0 : Nat) (hp1q0 : SpanDAt (rd w X) ⟨bp1q0, 0, none⟩ p1q0) (y : Bool) (hp : slices_ContainsFunc_int_int_s109_p p0 p1q0 = some y) : Calls Tryz.prog 108 #[vp0, .func (.func 109) #[] #[.pointer (some ⟨bp1q0, 0, none⟩)]] w (Ret E0 w fun _ v => v = .bool y) := by
 obtain ⟨p0a1, p0a2, rfl, p0a_h0⟩ := hp0
 have p1q0a_at : At (rd w X) ⟨bp1q0, 0, none⟩ [.int .i64 p1q0.lo, .int .i64 p1q0.hi] := hp1q0
 unfold slices_ContainsFunc_int_int_s109_p at hp
 refine zen Tryz.func108 ?_
 have B0 : St E0 w X w X [] := St.start hX
 refine zz 9 ?_
 refine bndk hp fun y3 hy3 hp => ?_
 refine zc B0 (slices_IndexFunc_int_int_s109_c _ X0 (X0_lt _) p0 _ ⟨_, _, rfl, (p0a_h0.mono Le.x0)⟩ p1q0 _ (p1q0a_at.mono Le.x0) y3 hy3) ?_
 rintro v4 w4 B4 j4 hu4 rfl
 refine zz 5 ?_
 refine zr' (v := .bool (decide ((y3) ≥ 0))) ?_
 have hob := Option.some.inj hp
 subst hob
 exact ⟨B4.upd, _, rfl, rfl⟩
noncomputable def dynamics_span_has_p (p0 : SpanD) (p1 : List Int) : Option (Bool) :=
  (slices_ContainsFunc_int_int_s109_p p1 p0).bind fun y5 => some (!y5)
theorem dynamics_span_has_c (w : World) (X : Hid) (hX : ∀ k o, X k o → k < w.heap.size) (p0 : SpanD) (vp0 : Value) (hp0 : SpanDV (rd w X) vp0 p0) (p1 : List Int) (vp1 : Value) (hp1 : SV Ints (rd w X) vp1 p1) (y : Bool) (hp : dynamics_span_has_p p0 p1 = some y) : Calls Tryz.prog 71 #[vp0, vp1] w (Ret E0 w fun _ v => v = .bool y) := by
 obtain rfl := hp0
 obtain ⟨p1a1, p1a2, rfl, p1a_h0⟩ := hp1
 unfold dynamics_span_has_p at hp
 refine zen Tryz.func71 ?_
 have B0 : St E0 w X w X [] := St.start hX
 refine zz 2 ?_
 refine zn pn (.cells #[.int .i64 p0.lo, .int .i64 p0.hi] 103 (0, 0)) B0 ?_
 intro b3 w3 Y3 B3 j3 hu3
 refine zz 7 ?_
 refine bndk hp fun y5 hy5 hp => ?_
 refine zc B3 (slices_ContainsFunc_int_int_s109_c _ X0 (X0_lt _) p1 _ ⟨_, _, rfl, ((p1a_h0.mono j3).mono Le.x0)⟩ p0 _ (B3.at0 0 rfl rfl) y5 hy5) ?_ (vs := #[.slice p1a1 p1.length p1a2, .func (.func 109) #[] #[.pointer (some ⟨b3, 0, none⟩)]])
 rintro v6 w6 B6 j6 hu6 rfl
 refine zz 5 ?_
 refine zr' (v := .bool (!y5)) ?_
 have hob := Option.some.inj hp
 subst hob
 exact ⟨B6.upd, _, rfl, rfl⟩
noncomputable def dynamics_within_1_p (p0 : List Int) (p2 : Int) : Option (Bool) :=
  (dynamics_span_has_p (SpanD.mk (IntKind.i64.wrap ((0 : Int) - p2)) p2) p0).bind fun y3 => some y3
theorem dynamics_within_1_c (w : World) (X : Hid) (hX : ∀ k o, X k o → k < w.heap.size) (p0 : List Int) (vp0 : Value) (hp0 : SV Ints (rd w X) vp0 p0) (bp1 : Nat) (hp1 : FnAt (rd w X) ⟨bp1, 0, none⟩ 71) (p2 : Int) (bp2 : Nat) (hp2 : IntAt (rd w X) ⟨bp2, 0, none⟩ p2) (y : Bool) (hp : dynamics_within_1_p p0 p2 = some y) : Calls Tryz.prog 96 #[vp0, .pointer (some ⟨bp1, 0, none⟩), .pointer (some ⟨bp2, 0, none⟩)] w (Ret E0 w fun _ v => v = .bool y) := by
 obtain ⟨p0a1, p0a2, rfl, p0a_h0⟩ := hp0
 have hAp1 : At (rd w X) ⟨bp1, 0, none⟩ [.func (.func 71) #[] #[]] := hp1
 have hAp2 : At (rd w X) ⟨bp2, 0, none⟩ [.int .i64 p2] := hp2
 unfold dynamics_within_1_p at hp
 refine zen Tryz.func96 ?_
 have B0 : St E0 w X w X [] := St.start hX
 refine zz 7 ?_
 refine zl (hAp1).cells ?_
 refine zl (hAp2).cells ?_
 refine zz 1 ?_
 refine zl (hAp2).cells ?_
 refine zz 2 ?_
 refine bndk hp fun y3 hy3 hp => ?_
 refine zc B0 (dynamics_span_has_c _ X0 (X0_lt _) (SpanD.mk (IntKind.i64.wrap ((0 : Int) - p2)) p2) _ rfl p0 _ ⟨_, _, rfl, (p0a_h0.mono Le.x0)⟩ y3 hy3) ?_
 rintro v4 w4 B4 j4 hu4 rfl
 refine zz 4 ?_
 refine zr' (v := .bool y3) ?_
 have hob := Option.some.inj hp
 subst hob
 exact ⟨B4.upd, _, rfl, rfl⟩
noncomputable def dynamics_within_p (p0 : Int) : Option (Int) :=
  some p0
theorem dynamics_within_c (w : World) (X : Hid) (hX : ∀ k o, X k o → k < w.heap.size) (p0 : Int) (y : Int) (hp : dynamics_within_p p0 = some y) : Calls Tryz.prog 52 #[.int .i64 p0] w (Ret E0 w fun w' v => ∃ b0 b1, v = .func (.func 96) #[] #[.pointer (some ⟨b0, 0, none⟩), .pointer (some ⟨b1, 0, none⟩)] ∧ FnAt (rd w' (old w)) ⟨b0, 0, none⟩ 71 ∧ IntAt (rd w' (old w)) ⟨b1, 0, none⟩ y) := by
 unfold dynamics_within_p at hp
 refine zen Tryz.func52 ?_
 have B0 : St E0 w X w X [] := St.start hX
 refine zz 2 ?_
 refine zn pn (.cells #[.int .i64 p0] 3 (0, 0)) B0 ?_
 intro b3 w3 Y3 B3 j3 hu3
 refine zz 5 ?_
 refine zn pn (.cells #[.nilFunc] 123 (0, 0)) B3 ?_
 intro b5 w5 Y5 B5 j5 hu5
 refine zx 0 #[.func (.func 71) #[] #[]] B5 ?_
 intro w6 B6 j6
 refine zz 9 ?_
 refine zr' (v := .func (.func 96) #[] #[.pointer (some ⟨b5, 0, none⟩), .pointer (some ⟨b3, 0, none⟩)]) ?_
 have hob := St.pubAt 0 B6 rfl
 obtain ⟨Y7, hSx7, j7, hat7, hatN7⟩ := hob
 have B7 : St E0 w X w6 Y7 [(b3, .cells #[.int .i64 p0] 3 (0, 0))] := hSx7
 have hob := St.pubAt 0 B7 rfl
 obtain ⟨Y8, hSx8, j8, hat8, hatN8⟩ := hob
 have B8 : St E0 w X w6 Y8 [] := hSx8
 have hob := Option.some.inj hp
 subst hob
 exact ⟨B8.upd, _, rfl, ⟨_, _, rfl, (((hatN7 _ (Nat.le_refl _))).mono (Le.or j8 _)).mono Le.orr, (((hatN8 _ (Nat.le_refl _))).mono (Le.or (Le.refl _) _)).mono Le.orr⟩⟩
noncomputable def dynamics_checkRat_p (p0 : Raw) : Option (Int) :=
  (rat_Check_p p0).bind fun y5 => if ((y5) != 0) = true then (some y5) else (if (p0.ln.length : Int) > 8 then (some 4) else (if (p0.ld.length : Int) > 8 then (some 4) else (some 0)))
theorem dynamics_checkRat_c (w : World) (X : Hid) (hX : ∀ k o, X k o → k < w.heap.size) (p0 : Raw) (vp0 : Value) (hp0 : RawV (rd w X) vp0 p0) (y : Int) (hp : dynamics_checkRat_p p0 = some y) : Calls Tryz.prog 73 #[vp0] w (Ret E0 w fun _ v => v = .int .i64 y) := by
 have hVp0 := hp0
 obtain ⟨p0a1, p0a2, p0a3, p0a4, p0a5, p0a6, rfl, p0a_h0, p0a_h1⟩ := hp0
 have hob := p0a_h0.hlen
 subst hob
 have hob := p0a_h1.hlen
 subst hob
 unfold dynamics_checkRat_p at hp
 refine zen Tryz.func73 ?_
 have B0 : St E0 w X w X [] := St.start hX
 refine zz 2 ?_
 refine zn pn (.cells #[.bool p0.neg, .slice p0a1 p0.ln.length p0a3, .slice p0a4 p0.ld.length p0a6] 28 (0, 0)) B0 ?_
 intro b3 w3 Y3 B3 j3 hu3
 refine zz 6 ?_
 refine zo 0 B3 ?_
 refine bndk hp fun y5 hy5 hp => ?_
 refine zc B3 (rat_Check_c _ X0 (X0_lt _) p0 _ ((hVp0.mono j3).mono Le.x0) y5 hy5) ?_
 rintro v6 w6 B6 j6 hu6 rfl
 refine zz 9 ?_
 refine zb 7 (b := ((y5) != 0)) (fun hc7 => ?_) (fun hc7 => ?_)
 ·
  have hp := ipb hc7 hp
  refine zz 9 ?_
  refine zr' (v := .int .i64 y5) ?_
  have hob := Option.some.inj hp
  subst hob
  exact ⟨B6.upd, _, rfl, rfl⟩
 have hp := iqb hc7 hp
 refine zz 7 ?_
 refine zo 0 B6 ?_
 refine zz 3 ?_
 refine zt 13 (p := (p0.ln.length : Int) > 8) (fun ht8 => ?_) (fun ht8 => ?_)
 ·
  have hp := ip ht8 hp
  refine zz 15 ?_
  refine zr' (v := .int .i64 4) ?_
  have hob := Option.some.inj hp
  subst hob
  exact ⟨B6.upd, _, rfl, rfl⟩
 have hp := iq ht8 hp
 refine zz 1 ?_
 refine zo 0 B6 ?_
 refine zz 5 ?_
 refine zt 18 (p := (p0.ld.length : Int) > 8) (fun ht9 => ?_) (fun ht9 => ?_)
 ·
  have hp := ip ht9 hp
  refine zz 8 ?_
  refine zr' (v := .int .i64 4) ?_
  have hob := Option.some.inj hp
  subst hob
  exact ⟨B6.upd, _, rfl, rfl⟩
 have hp := iq ht9 hp
 refine zz 9 ?_
 refine zr' (v := .int .i64 0) ?_
 have hob := Option.some.inj hp
 subst hob
 exact ⟨B6.upd, _, rfl, rfl⟩
noncomputable def dynamics_checkNoise_l17 (p0 : List NoiseD) (J7 : Raw → Option (Int)) : List NoiseD → Nat → Raw → Option (Int)
  | [], k17, v17_1 => J7 v17_1
  | x17 :: r17, k17, v17_1 => lt ((dynamics_checkRat_p x17.p).bind fun y25 => if ((y25) != 0) = true then (some y25) else (if x17.p.neg = true then (some 1) else (if ((x17.p.ln.length : Int) == 0) = true then (some 1) else ((rat_Add_p v17_1 x17.p).bind fun y31 => dynamics_checkNoise_l17 p0 J7 r17 (k17 + 1) y31.1)))) fun J23 => (dynamics_within_p (100 : Int)).bind fun y36 => (dynamics_within_1_p ([x17.delta]) y36).bind fun y40 => if (!y40) = true then (some 1) else (if (k17 : Int) > 0 then ((ix p0 (IntKind.i64.wrap ((k17 : Int) - 1))).bind fun x45 => if (x17.delta) ≤ x45.delta then (some 16) else (J23)) else (J23))
noncomputable def dynamics_checkNoise_p (p0 : List NoiseD) : Option (Int) :=
  if ((p0.length : Int) == 0) = true then (some 3) else (if (p0.length : Int) > 5 then (some 4) else (lt (fun (v7_0 : Raw) => (rat_From_p (1 : Int)).bind fun y9 => (rat_Cmp_p v7_0 y9).bind fun y12 => if ((y12.1) != 0) = true then (some 2) else (some 0)) fun J7 => dynamics_checkNoise_l17 p0 J7 (p0.drop 0) 0 Raw.zero))
theorem dynamics_checkNoise_c (w : World) (X : Hid) (hX : ∀ k o, X k o → k < w.heap.size) (p0 : List NoiseD) (vp0 : Value) (hp0 : SV NoiseDS (rd w X) vp0 p0) (y : Int) (hp : dynamics_checkNoise_p p0 = some y) : Calls Tryz.prog 72 #[vp0] w (Ret E0 w fun _ v => v = .int .i64 y) := by
 obtain ⟨p0a1, p0a2, rfl, p0a_h0⟩ := hp0
 unfold dynamics_checkNoise_p at hp
 refine zen Tryz.func72 ?_
 have B0 : St E0 w X w X [] := St.start hX
 refine zz 15 ?_
 refine zb 9 (b := ((p0.length : Int) == 0)) (fun hc2 => ?_) (fun hc2 => ?_)
 ·
  have hp := ipb hc2 hp
  refine zz 9 ?_
  refine zr' (v := .int .i64 3) ?_
  have hob := Option.some.inj hp
  subst hob
  exact ⟨B0.upd, _, rfl, rfl⟩
 have hp := iqb hc2 hp
 refine zz 9 ?_
 refine zt 13 (p := (p0.length : Int) > 5) (fun ht3 => ?_) (fun ht3 => ?_)
 ·
  have hp := ip ht3 hp
  refine zz 9 ?_
  refine zr' (v := .int .i64 4) ?_
  have hob := Option.some.inj hp
  subst hob
  exact ⟨B0.upd, _, rfl, rfl⟩
 have hp := iq ht3 hp
 refine zz 7 ?_
 refine zn pn (.cells #[.bool false, .slice none 0 0, .slice none 0 0] 28 (0, 0)) B0 ?_
 intro b5 w5 Y5 B5 j5 hu5
 refine zx 0 #[.bool false, .slice none 0 0, .slice none 0 0] B5 ?_
 intro w6 B6 j6
 refine zz 2 ?_
 have hob := ltd1 hp
 obtain ⟨J7, hJ7, hp⟩ := hob
 refine zjoin (fun ((v7_0, a7_0_1, a7_0_2, a7_0_3, a7_0_4) : Raw × (Option Addr) × Nat × (Option Addr) × Nat) => [(3, .pointer (some ⟨b5, 0, none⟩))]) (fun ((v7_0, a7_0_1, a7_0_2, a7_0_3, a7_0_4) : Raw × (Option Addr) × Nat × (Option Addr) × Nat) w1 => ∃ Y1 : Hid, St E0 w X w1 Y1 [(b5, .cells #[.bool v7_0.neg, .slice a7_0_1 v7_0.ln.length a7_0_2, .slice a7_0_3 v7_0.ld.length a7_0_4] 28 (0, 0))] ∧ Le (rd w6 Y5) (rd w1 Y1) ∧ Limbs (rd w1 (orN Y1 w.heap.size)) a7_0_1 v7_0.ln.length a7_0_2 v7_0.ln ∧ Limbs (rd w1 (orN Y1 w.heap.size)) a7_0_3 v7_0.ld.length a7_0_4 v7_0.ld ∧ J7 v7_0 = some y) ?_ ?_
 ·
  rintro ⟨v7_0, a7_0_1, a7_0_2, a7_0_3, a7_0_4⟩ w7 ⟨Y7, B7, j7, hfv7_0_0, hfv7_0_1, hp⟩
  have hp := (hJ7 _).symm.trans hp
  refine zz 2 ?_
  refine zdr B7 ?_
  refine gw 0 0 ?_
  refine bndk hp fun y9 hy9 hp => ?_
  refine gC 1 (fun w8 Y8 _ B8 j8 => (rat_From_c _ X0 (X0_lt _) (1 : Int) y9 hy9)) ?_
  rintro v10 w8 Y10 w10 B8 j10 ⟨u10_0_1, u10_0_2, u10_0_3, u10_0_4, u10_0_5, u10_0_6, rfl, u10_0__h0, u10_0__h1⟩
  have hob := u10_0__h0.hlen
  subst hob
  have hob := u10_0__h1.hlen
  subst hob
  refine bndk hp fun y12 hy12 hp => ?_
  refine gC 2 (fun w11 Y11 _ B11 j11 => (rat_Cmp_c _ X0 (X0_lt _) v7_0 _ ⟨_, _, _, _, _, _, rfl, (((hfv7_0_0.mono Le.orl).mono (Le2 j10 j11)).mono Le.x0), (((hfv7_0_1.mono Le.orl).mono (Le2 j10 j11)).mono Le.x0)⟩ y9 _ ⟨_, _, _, _, _, _, rfl, (((u10_0__h0.mono (Le.new B8.lt)).mono j11).mono Le.x0), (((u10_0__h1.mono (Le.new B8.lt)).mono j11).mono Le.x0)⟩ y12 hy12)) ?_
  rintro v13 w11 Y13 w13 B11 j13 rfl
  refine gz [3, 4, 5, 6, 7] ?_
  refine gend (fun w14 Y14 B14 j14 => ?_)
  refine zz 7 ?_
  refine zb 77 (b := ((y12.1) != 0)) (fun hc15 => ?_) (fun hc15 => ?_)
  ·
   have hp := ipb hc15 hp
   refine zz 8 ?_
   refine zr' (v := .int .i64 2) ?_
   have hob := Option.some.inj hp
   subst hob
   exact ⟨B14.upd, _, rfl, rfl⟩
  have hp := iqb hc15 hp
  refine zz 9 ?_
  refine zr' (v := .int .i64 0) ?_
  have hob := Option.some.inj hp
  subst hob
  exact ⟨B14.upd, _, rfl, rfl⟩
 intro K16 G16
 refine zz 8 ?_
 have hb17 : (p0.length : Int) ≤ 9223372036854775807 := lenb (p0a_h0).hcap (p0a_h0).hbig
 refine zlp Tryz.f72 [K16] [1, 1, 1, 9, 1, 0] (fun ((k17, v17_1, a17_1_1, a17_1_2, a17_1_3, a17_1_4) : Nat × Raw × (Option Addr) × Nat × (Option Addr) × Nat) => [(0, .slice p0a1 p0.length p0a2), (3, .pointer (some ⟨b5, 0, none⟩)), (18, .slice p0a1 p0.length p0a2), (19, .int .i64 (p0.length : Int)), (20, .int .i64 (k17 : Int))]) (fun ((k17, v17_1, a17_1_1, a17_1_2, a17_1_3, a17_1_4) : Nat × Raw × (Option Addr) × Nat × (Option Addr) × Nat) w1 => ∃ Y1 : Hid, St E0 w X w1 Y1 [(b5, .cells #[.bool v17_1.neg, .slice a17_1_1 v17_1.ln.length a17_1_2, .slice a17_1_3 v17_1.ld.length a17_1_4] 28 (0, 0))] ∧ Le (rd w6 Y5) (rd w1 Y1) ∧ Limbs (rd w1 (orN Y1 w.heap.size)) a17_1_1 v17_1.ln.length a17_1_2 v17_1.ln ∧ Limbs (rd w1 (orN Y1 w.heap.size)) a17_1_3 v17_1.ld.length a17_1_4 v17_1.ld ∧ dynamics_checkNoise_l17 p0 J7 (p0.drop k17) k17 v17_1 = some y) (fun ((k17, v17_1, a17_1_1, a17_1_2, a17_1_3, a17_1_4) : Nat × Raw × (Option Addr) × Nat × (Option Addr) × Nat) => p0.length - k17) (0, Raw.zero, none, 0, none, 0) ?_ ?_
 ·
  exact ⟨_, B6, Le.refl _, Limbs.nil0, Limbs.nil0, hp⟩
 rintro ⟨k17, v17_1, a17_1_1, a17_1_2, a17_1_3, a17_1_4⟩ w17 K17 G17 ⟨Y17, B17, j17, hfv17_1_0, hfv17_1_1, hp⟩
 refine zz 6 ?_
 refine zt 21 (p := (k17 : Int) < (p0.length : Int)) (fun ht18 => ?_) (fun ht18 => ?_)
 ·
  have hob := get_lt (l := p0) (k := k17) (lt_of_int ht18)
  obtain ⟨x17, hqx17⟩ := hob
  rw [dropC hqx17, dynamics_checkNoise_l17] at hp
  have hzx17 : (0 : Int) ≤ (k17 : Int) := Int.natCast_nonneg _
  refine zz 8 ?_
  have hob := p0a_h0.opn hqx17
  obtain ⟨be19, oe19, rfl, j19, hEe19⟩ := hob
  obtain ⟨e191, e192, e193, e194, e19_at, e19_h0, e19_h1⟩ := hEe19
  refine zi (b := be19) (off := oe19) (len := p0.length) (cap := p0a2) (kd := .i64) (i := (k17 : Int)) 4 (oe19 + k17 * 4) ?_ (h0 := hzx17) (h1 := (ix_b hzx17 j19))
  refine zl ((e19_at.mono (Le3 j5 j6 j17))).cells ?_
  refine zn pn (.cells #[.int .i64 0, .bool false, .slice none 0 0, .slice none 0 0] 58 (0, 0)) B17 ?_
  intro b21 w21 Y21 B21 j21 hu21
  refine zz 1 ?_
  refine zx 0 #[.int .i64 x17.delta, .bool x17.p.neg, .slice e191 x17.p.ln.length e192, .slice e193 x17.p.ld.length e194] B21 ?_
  intro w22 B22 j22
  refine zz 2 ?_
  have hob := ltd0 hp
  obtain ⟨J23, hJ23, hp⟩ := hob
  refine zjoin (fun (_ : Unit) => [(0, .slice (some ⟨be19, oe19, none⟩) p0.length p0a2), (3, .pointer (some ⟨b5, 0, none⟩)), (5, .pointer (some ⟨b21, 0, none⟩)), (18, .slice (some ⟨be19, oe19, none⟩) p0.length p0a2), (19, .int .i64 (p0.length : Int)), (20, .int .i64 (k17 : Int))]) (fun (_ : Unit) w1 => ∃ Y1 : Hid, St E0 w X w1 Y1 [(b21, .cells #[.int .i64 x17.delta, .bool x17.p.neg, .slice e191 x17.p.ln.length e192, .slice e193 x17.p.ld.length e194] 58 (0, 0)), (b5, .cells #[.bool v17_1.neg, .slice a17_1_1 v17_1.ln.length a17_1_2, .slice a17_1_3 v17_1.ld.length a17_1_4] 28 (0, 0))] ∧ Le (rd w22 Y21) (rd w1 Y1) ∧ J23 = some y) ?_ ?_
  ·
   rintro _ w23 ⟨Y23, B23, j23, hp⟩
   have hp := hJ23.symm.trans hp
   refine zz 4 ?_
   refine zo 0 B23 ?_
   have hc1_ := (Le5 j5 j6 j17 j21 j22).trans j23
   refine bndk hp fun y25 hy25 hp => ?_
   refine zc B23 (dynamics_checkRat_c _ X0 (X0_lt _) x17.p _ ⟨_, _, _, _, _, _, rfl, ((e19_h0.mono hc1_).mono Le.x0), ((e19_h1.mono hc1_).mono Le.x0)⟩ y25 hy25) ?_
   rintro v26 w26 B26 j26 hu26 rfl
   refine zz 9 ?_
   refine zb 50 (b := ((y25) != 0)) (fun hc27 => ?_) (fun hc27 => ?_)
   ·
    have hp := ipb hc27 hp
    refine zz 14 ?_
    refine zr' (v := .int .i64 y25) ?_
    have hob := Option.some.inj hp
    subst hob
    exact ⟨B26.upd, _, rfl, rfl⟩
   have hp := iqb hc27 hp
   refine zz 8 ?_
   refine zo 0 B26 ?_
   refine zz 1 ?_
   refine zb 55 (b := x17.p.neg) (fun hc28 => ?_) (fun hc28 => ?_)
   ·
    have hp := ipb hc28 hp
    refine zz 21 ?_
    refine zr' (v := .int .i64 1) ?_
    have hob := Option.some.inj hp
    subst hob
    exact ⟨B26.upd, _, rfl, rfl⟩
   have hp := iqb hc28 hp
   refine zz 2 ?_
   refine zo 0 B26 ?_
   refine zz 5 ?_
   refine zb 61 (b := ((x17.p.ln.length : Int) == 0)) (fun hc29 => ?_) (fun hc29 => ?_)
   ·
    have hp := ipb hc29 hp
    refine zz 13 ?_
    refine zr' (v := .int .i64 1) ?_
    have hob := Option.some.inj hp
    subst hob
    exact ⟨B26.upd, _, rfl, rfl⟩
   have hp := iqb hc29 hp
   refine zz 4 ?_
   refine zo 1 B26 ?_
   refine zz 1 ?_
   refine zo 0 B26 ?_
   have hc2_ := (Le3 j21 j22 j23).trans j26
   have hc3_ := hc1_.trans j26
   refine bndk hp fun y31 hy31 hp => ?_
   refine zc B26 (rat_Add_c _ X0 (X0_lt _) v17_1 _ ⟨_, _, _, _, _, _, rfl, (((hfv17_1_0.mono Le.orl).mono hc2_).mono Le.x0), (((hfv17_1_1.mono Le.orl).mono hc2_).mono Le.x0)⟩ x17.p _ ⟨_, _, _, _, _, _, rfl, ((e19_h0.mono hc3_).mono Le.x0), ((e19_h1.mono hc3_).mono Le.x0)⟩ y31 hy31) ?_
   rintro v32 w32 B32 j32 hu32 ⟨uu32_0, rfl, ⟨u32_0_1, u32_0_2, u32_0_3, u32_0_4, u32_0_5, u32_0_6, rfl, u32_0__h0, u32_0__h1⟩⟩
   have hob := u32_0__h0.hlen
   subst hob
   have hob := u32_0__h1.hlen
   subst hob
   refine zz 3 ?_
   refine zx 1 #[.bool y31.1.neg, .slice u32_0_1 y31.1.ln.length u32_0_3, .slice u32_0_4 y31.1.ld.length u32_0_6] B32 ?_
   intro w33 B33 j33
   refine zz 5 ?_
   refine zs 69 (v := .int .i64 (IntKind.i64.wrap ((k17 : Int) + 1))) (v' := .int .i64 ((k17 : Int) + 1)) (vint (wi64 (wk0 k17) (wk1 ht18 hb17))) ?_
   refine zz 2 ?_
   have hc4_ := (Le6 j17 j21 j22 j23 j26 j32).trans j33
   refine znext (fun a h => G17 (k17 + 1, y31.1, u32_0_1, u32_0_3, u32_0_4, u32_0_6) _ a h ⟨_, B33.tail, hc4_, (u32_0__h0.mono (Le.own B26.lt B26.upd.size j33)), (u32_0__h1.mono (Le.own B26.lt B26.upd.size j33)), hp⟩ ?_)
   exact mu_lt ht18
  intro K34 G34
  refine zz 2 ?_
  refine zdr B22 ?_
  refine gz [1] ?_
  refine gw 2 0 ?_
  refine gp (al 3 29 (fun b => .slice (some ⟨b, 0, none⟩) 1 1) (.cells #[.int .i64 x17.delta] 3 (0, 0))) ?_
  refine bndk hp fun y36 hy36 hp => ?_
  refine gC 0 (fun w35 Y35 _ B35 j35 => (dynamics_within_c _ X0 (X0_lt _) (100 : Int) y36 hy36)) ?_ (hPd := PdOk.nil.k)
  rintro v37 w35 Y37 w37 B35 j37 ⟨u37_0_b0, u37_0_b1, rfl, u37_0_h0, u37_0_h1⟩
  have hAu37_0_b0 : At (rd w37 Y37) ⟨u37_0_b0, 0, none⟩ [.func (.func 71) #[] #[]] := (At.mono (Le.new B35.lt) u37_0_h0)
  have hAu37_0_b1 : At (rd w37 Y37) ⟨u37_0_b1, 0, none⟩ [.int .i64 y36] := (At.mono (Le.new B35.lt) u37_0_h1)
  refine gs1 (fun b38 => ?_) PdOk.nil.k
  refine bndk hp fun y40 hy40 hp => ?_
  refine gC 4 (vs := #[.slice (some ⟨b38, 0, none⟩) 1 1, .pointer (some ⟨u37_0_b0, 0, none⟩), .pointer (some ⟨u37_0_b1, 0, none⟩)]) (fun w39 Y39 _ B39 j39 => (dynamics_within_1_c _ X0 (X0_lt _) ([x17.delta]) _ ⟨_, _, rfl, (SlR.lit (El := IntAt) (size := 1) (n := 1) [⟨(x17.delta : Int), [.int .i64 x17.delta]⟩] (B39.at0 0 rfl rfl) (List.forall_mem_cons.2 ⟨⟨rfl, fun r2 h2 b o h9 => h9⟩, (List.forall_mem_nil _)⟩) rfl (by decide))⟩ _ ((hAu37_0_b0.mono j39).mono Le.x0) y36 _ ((hAu37_0_b1.mono j39).mono Le.x0) y40 hy40)) ?_
  rintro v41 w39 Y41 w41 B39 j41 rfl
  refine gz [5, 6] ?_
  refine gend (fun w42 Y42 B42 j42 => ?_)
  refine zz 1 ?_
  refine zb 25 (b := !y40) (fun hc43 => ?_) (fun hc43 => ?_)
  ·
   have hp := ipb hc43 hp
   refine zz 14 ?_
   refine zr' (v := .int .i64 1) ?_
   have hob := Option.some.inj hp
   subst hob
   exact ⟨B42.upd, _, rfl, rfl⟩
  have hp := iqb hc43 hp
  refine zz 2 ?_
  refine zdr B42 ?_
  refine gz [0, 1, 2] ?_
  refine gt 35 (p := (k17 : Int) > 0) (fun ht44 => ?_) (fun ht44 => ?_)
  ·
   have hp := ip ht44 hp
   refine gz [3] ?_
   refine gw 4 1 ?_
   refine bndk hp fun x45 hx45 hp => ?_
   have hob := ix_some hx45
   obtain ⟨hzx45, hqx45⟩ := hob
   have hob := p0a_h0.opn2 hqx45
   obtain ⟨j46, hEe46⟩ := hob
   obtain ⟨e461, e462, e463, e464, e46_at, e46_h0, e46_h1⟩ := hEe46
   refine gz [5, 6, 7] ?_
   refine gi 8 (b := be19) (off := oe19) (len := p0.length) (cap := p0a2) (kd := .i64) (i := IntKind.i64.wrap ((k17 : Int) - 1)) 4 (oe19 + (IntKind.i64.wrap ((k17 : Int) - 1)).toNat * 4) ?_ (h0 := hzx45) (h1 := (ix_b hzx45 j46))
   have hc5_ := (Le7 j5 j6 j17 j21 j22 j37 j41).trans j42
   refine gz [9] ?_
   refine gl 10 ((e46_at.mono hc5_).sub 0 1) ?_
   refine gz [11, 12, 13] ?_
   refine gend (fun w47 Y47 B47 j47 => ?_)
   refine zz 1 ?_
   refine zt 32 (p := (x17.delta) ≤ x45.delta) (fun ht48 => ?_) (fun ht48 => ?_)
   ·
    have hp := ip ht48 hp
    refine zz 14 ?_
    refine zr' (v := .int .i64 16) ?_
    have hob := Option.some.inj hp
    subst hob
    exact ⟨B47.upd, _, rfl, rfl⟩
   have hp := iq ht48 hp
   refine zz 3 ?_
   have hc6_ := (Le3 j37 j41 j42).trans j47
   exact znext (fun a h => G34 () _ a h ⟨_, B47.tail, hc6_, hp⟩)
  have hp := iq ht44 hp
  refine gz [3, 4, 5, 6, 7, 8, 9, 10, 11, 12, 13] ?_
  refine gend (fun w49 Y49 B49 j49 => ?_)
  refine zz 4 ?_
  have hc7_ := (Le3 j37 j41 j42).trans j49
  exact znext (fun a h => G34 () _ a h ⟨_, B49.tail, hc7_, hp⟩)
 rw [List.drop_eq_nil_of_le (nlt_of_int ht18), dynamics_checkNoise_l17] at hp
 refine zz 5 ?_
 exact znext (fun a h => G16 (v17_1, a17_1_1, a17_1_2, a17_1_3, a17_1_4) _ a h ⟨_, B17, j17, (hfv17_1_0.mono (Le.or (Le.refl _) _)), (hfv17_1_1.mono (Le.or (Le.refl _) _)), hp⟩)
noncomputable def dynamics_Check_l62 (p0 : ModelD) (J54 : Option (Int)) : Nat → Nat → Option (Int)
  | 0, k62 => J54
  | r62 + 1, k62 => (ix ([p0.alert, p0.strengthen, p0.reversal]) (k62 : Int)).bind fun x65 => (dynamics_checkRat_p x65).bind fun y71 => if ((y71) != 0) = true then (some y71) else (if x65.neg = true then (some 1) else (dynamics_Check_l62 p0 J54 r62 (k62 + 1)))
noncomputable def dynamics_Check_l78 (p0 : ModelD) (J53 : Option (Int)) : Nat → Nat → Option (Int)
  | 0, k78 => J53
  | r78 + 1, k78 => (ix ([p0.ownNoise, p0.otherNoise]) (k78 : Int)).bind fun x81 => (dynamics_checkNoise_p x81).bind fun y84 => if ((y84) != 0) = true then (some y84) else (dynamics_Check_l78 p0 J53 r78 (k78 + 1))
noncomputable def dynamics_Check_l92 (y5 : Int) (J34 : Option (Int)) : List BoundsD → Option (Int)
  | [] => J34
  | x92 :: r92 => lt (fun (v98_0 : Bool) => if v98_0 = true then (some 6) else (if (x92.lo) > x92.hi then (some 1) else ((dynamics_within_1_p ([x92.lo, x92.hi]) y5).bind fun y104 => if (!y104) = true then (some 1) else (dynamics_Check_l92 y5 J34 r92 )))) fun J98 => if ((x92.sense) != 1) = true then (J98 ((x92.sense) != 2)) else (J98 false)
noncomputable def dynamics_Check_p (p0 : ModelD) : Option (Int) :=
  (dynamics_within_p (100 : Int)).bind fun y5 => (dynamics_grid_p p0).bind fun y8 => (interp_Check_p y8).bind fun y11 => if ((y11) != 0) = true then (some y11) else ((dynamics_within_p (50000 : Int)).bind fun y15 => (dynamics_within_1_p p0.height y15).bind fun y18 => if (!y18) = true then (some 1) else ((dynamics_within_1_p p0.own y5).bind fun y23 => if (!y23) = true then (some 1) else ((dynamics_within_1_p p0.other y5).bind fun y28 => if (!y28) = true then (some 1) else (if ((p0.advisories.length : Int) == 0) = true then (some 3) else (if (p0.advisories.length : Int) > 6 then (some 4) else (lt ((dynamics_span_has_p (SpanD.mk 0 100) ([p0.pull])).bind fun y38 => if (!y38) = true then (some 1) else ((dynamics_span_has_p (SpanD.mk 0 50000) ([p0.near])).bind fun y44 => if (!y44) = true then (some 1) else ((dynamics_span_has_p (SpanD.mk 0 24) ([p0.steps])).bind fun y50 => if (!y50) = true then (some 1) else (lt (lt ((dynamics_size_p p0).bind fun y56 => if (y56) > 200 then (some 10) else (some 0)) fun J54 => dynamics_Check_l62 p0 J54 ((3 : Int).toNat - 0) 0) fun J53 => dynamics_Check_l78 p0 J53 ((2 : Int).toNat - 0) 0)))) fun J34 => grd (0 ≤ (1 : Int) ∧ (1 : Int) ≤ (p0.advisories.length : Int) ∧ (p0.advisories.length : Int) ≤ (p0.advisories.length : Int)) <| dynamics_Check_l92 y5 J34 ((p0.advisories.drop 1).drop 0) ))))))
theorem dynamics_Check_c (w : World) (X : Hid) (hX : ∀ k o, X k o → k < w.heap.size) (p0 : ModelD) (vp0 : Value) (hp0 : ModelDV (rd w X) vp0 p0) (y : Int) (hp : dynamics_Check_p p0 = some y) : Calls Tryz.prog 26 #[vp0] w (Ret E0 w fun _ v => v = .int .i64 y) := by
 have hVp0 := hp0
 refine ModelDV.op hp0 fun p0a1 p0a2 p0a3 p0a4 p0a5 p0a6 p0a7 p0a8 p0a9 p0a10 p0a11 p0a12 p0a13 p0a14 p0a15 p0a16 p0a17 p0a18 p0a19 p0a20 p0a21 p0a22 p0a23 p0a24 hv9 p0a_h0 p0a_h1 p0a_h2 p0a_h3 p0a_h4 p0a_h5 p0a_h6 p0a_h7 p0a_h8 p0a_h9 p0a_h10 p0a_h11 => ?_
 subst hv9
 unfold dynamics_Check_p at hp
 refine zen Tryz.func26 ?_
 have B0 : St E0 w X w X [] := St.start hX
 refine zz 2 ?_
 refine zn pn (.cells #[.slice p0a1 p0.height.length p0a2, .slice p0a3 p0.own.length p0a4, .slice p0a5 p0.other.length p0a6, .slice p0a7 p0.advisories.length p0a8, .int .i64 p0.pull, .int .i64 p0.near, .int .i64 p0.steps, .slice p0a9 p0.ownNoise.length p0a10, .slice p0a11 p0.otherNoise.length p0a12, .bool p0.alert.neg, .slice p0a13 p0.alert.ln.length p0a14, .slice p0a15 p0.alert.ld.length p0a16, .bool p0.strengthen.neg, .slice p0a17 p0.strengthen.ln.length p0a18, .slice p0a19 p0.strengthen.ld.length p0a20, .bool p0.reversal.neg, .slice p0a21 p0.reversal.ln.length p0a22, .slice p0a23 p0.reversal.ld.length p0a24] 30 (0, 0)) B0 ?_
 intro b3 w3 Y3 B3 j3 hu3
 refine zz 5 ?_
 refine bndk hp fun y5 hy5 hp => ?_
 refine zc B3 (dynamics_within_c _ X0 (X0_lt _) (100 : Int) y5 hy5) ?_
 rintro v6 w6 B6 j6 hu6 ⟨u6_0_b0, u6_0_b1, rfl, u6_0_h0, u6_0_h1⟩
 have hAu6_0_b0 : At (rd w6 Y3) ⟨u6_0_b0, 0, none⟩ [.func (.func 71) #[] #[]] := (At.mono (Le.new B3.lt) u6_0_h0)
 have hAu6_0_b1 : At (rd w6 Y3) ⟨u6_0_b1, 0, none⟩ [.int .i64 y5] := (At.mono (Le.new B3.lt) u6_0_h1)
 refine zz 6 ?_
 refine zo 0 B6 ?_
 refine bndk hp fun y8 hy8 hp => ?_
 refine zc B6 (dynamics_grid_c _ _ B6.lt p0 _ (hVp0.mono (Le2 j3 j6)) y8 hy8) ?_
 rintro v9 w9 B9 j9 hu9 ⟨u9_0_1, u9_0_2, rfl, u9_0__h0⟩
 refine bndk hp fun y11 hy11 hp => ?_
 refine zc B9 (interp_Check_c _ X0 (X0_lt _) y8 _ ⟨_, _, rfl, (u9_0__h0.mono Le.x0)⟩ y11 hy11) ?_
 rintro v12 w12 B12 j12 hu12 rfl
 refine zz 11 ?_
 refine zb 17 (b := ((y11) != 0)) (fun hc13 => ?_) (fun hc13 => ?_)
 ·
  have hp := ipb hc13 hp
  refine zz 10 ?_
  refine zr' (v := .int .i64 y11) ?_
  have hob := Option.some.inj hp
  subst hob
  exact ⟨B12.upd, _, rfl, rfl⟩
 have hp := iqb hc13 hp
 refine zz 2 ?_
 refine zdr B12 ?_
 refine gz [1] ?_
 refine gw 2 0 ?_
 refine bndk hp fun y15 hy15 hp => ?_
 refine gC 0 (fun w14 Y14 _ B14 j14 => (dynamics_within_c _ X0 (X0_lt _) (50000 : Int) y15 hy15)) ?_
 rintro v16 w14 Y16 w16 B14 j16 ⟨u16_0_b0, u16_0_b1, rfl, u16_0_h0, u16_0_h1⟩
 have hAu16_0_b0 : At (rd w16 Y16) ⟨u16_0_b0, 0, none⟩ [.func (.func 71) #[] #[]] := (At.mono (Le.new B14.lt) u16_0_h0)
 have hAu16_0_b1 : At (rd w16 Y16) ⟨u16_0_b1, 0, none⟩ [.int .i64 y15] := (At.mono (Le.new B14.lt) u16_0_h1)
 have hc1_ := (Le4 j3 j6 j9 j12).trans j16
 refine bndk hp fun y18 hy18 hp => ?_
 refine gC 3 (fun w17 Y17 _ B17 j17 => (dynamics_within_1_c _ X0 (X0_lt _) p0.height _ ⟨_, _, rfl, ((p0a_h0.mono (hc1_.trans j17)).mono Le.x0)⟩ _ ((hAu16_0_b0.mono j17).mono Le.x0) y15 _ ((hAu16_0_b1.mono j17).mono Le.x0) y18 hy18)) ?_
 rintro v19 w17 Y19 w19 B17 j19 rfl
 refine gz [4, 5] ?_
 refine gb 27 (b := !y18) (fun hc20 => ?_) (fun hc20 => ?_)
 ·
  have hp := ipb hc20 hp
  refine gz [6, 7, 8, 9, 10, 11, 12, 13, 14, 15, 16, 17, 18, 19] ?_
  refine gend (fun w21 Y21 B21 j21 => ?_)
  refine zz 10 ?_
  refine zr' (v := .int .i64 1) ?_
  have hob := Option.some.inj hp
  subst hob
  exact ⟨B21.upd, _, rfl, rfl⟩
 have hp := iqb hc20 hp
 refine gz [6, 7] ?_
 refine gw 8 0 ?_
 have hc2_ := hc1_.trans j19
 have hc3_ := (Le3 j9 j12 j16).trans j19
 refine bndk hp fun y23 hy23 hp => ?_
 refine gC 9 (fun w22 Y22 _ B22 j22 => (dynamics_within_1_c _ X0 (X0_lt _) p0.own _ ⟨_, _, rfl, ((p0a_h1.mono (hc2_.trans j22)).mono Le.x0)⟩ _ ((hAu6_0_b0.mono (hc3_.trans j22)).mono Le.x0) y5 _ ((hAu6_0_b1.mono (hc3_.trans j22)).mono Le.x0) y23 hy23)) ?_
 rintro v24 w22 Y24 w24 B22 j24 rfl
 refine gz [10, 11, 12] ?_
 refine gb 34 (b := !y23) (fun hc25 => ?_) (fun hc25 => ?_)
 ·
  have hp := ipb hc25 hp
  refine gz [13, 14, 15, 16, 17, 18, 19] ?_
  refine gend (fun w26 Y26 B26 j26 => ?_)
  refine zz 10 ?_
  refine zr' (v := .int .i64 1) ?_
  have hob := Option.some.inj hp
  subst hob
  exact ⟨B26.upd, _, rfl, rfl⟩
 have hp := iqb hc25 hp
 refine gz [13, 14] ?_
 refine gw 15 0 ?_
 have hc4_ := hc2_.trans j24
 have hc5_ := hc3_.trans j24
 refine bndk hp fun y28 hy28 hp => ?_
 refine gC 16 (fun w27 Y27 _ B27 j27 => (dynamics_within_1_c _ X0 (X0_lt _) p0.other _ ⟨_, _, rfl, ((p0a_h2.mono (hc4_.trans j27)).mono Le.x0)⟩ _ ((hAu6_0_b0.mono (hc5_.trans j27)).mono Le.x0) y5 _ ((hAu6_0_b1.mono (hc5_.trans j27)).mono Le.x0) y28 hy28)) ?_
 rintro v29 w27 Y29 w29 B27 j29 rfl
 refine gz [17, 18, 19] ?_
 refine gend (fun w30 Y30 B30 j30 => ?_)
 refine zz 1 ?_
 refine zb 21 (b := !y28) (fun hc31 => ?_) (fun hc31 => ?_)
 ·
  have hp := ipb hc31 hp
  refine zz 9 ?_
  refine zr' (v := .int .i64 1) ?_
  have hob := Option.some.inj hp
  subst hob
  exact ⟨B30.upd, _, rfl, rfl⟩
 have hp := iqb hc31 hp
 refine zz 4 ?_
 refine zo 0 B30 ?_
 refine zz 5 ?_
 refine zb 41 (b := ((p0.advisories.length : Int) == 0)) (fun hc32 => ?_) (fun hc32 => ?_)
 ·
  have hp := ipb hc32 hp
  refine zz 9 ?_
  refine zr' (v := .int .i64 3) ?_
  have hob := Option.some.inj hp
  subst hob
  exact ⟨B30.upd, _, rfl, rfl⟩
 have hp := iqb hc32 hp
 refine zz 4 ?_
 refine zo 0 B30 ?_
 refine zz 5 ?_
 refine zt 46 (p := (p0.advisories.length : Int) > 6) (fun ht33 => ?_) (fun ht33 => ?_)
 ·
  have hp := ip ht33 hp
  refine zz 9 ?_
  refine zr' (v := .int .i64 4) ?_
  have hob := Option.some.inj hp
  subst hob
  exact ⟨B30.upd, _, rfl, rfl⟩
 have hp := iq ht33 hp
 refine zz 4 ?_
 have hob := ltd0 hp
 obtain ⟨J34, hJ34, hp⟩ := hob
 refine zjoin (fun (_ : Unit) => [(1, .pointer (some ⟨b3, 0, none⟩))]) (fun (_ : Unit) w1 => ∃ Y1 : Hid, St E0 w X w1 Y1 [(b3, .cells #[.slice p0a1 p0.height.length p0a2, .slice p0a3 p0.own.length p0a4, .slice p0a5 p0.other.length p0a6, .slice p0a7 p0.advisories.length p0a8, .int .i64 p0.pull, .int .i64 p0.near, .int .i64 p0.steps, .slice p0a9 p0.ownNoise.length p0a10, .slice p0a11 p0.otherNoise.length p0a12, .bool p0.alert.neg, .slice p0a13 p0.alert.ln.length p0a14, .slice p0a15 p0.alert.ld.length p0a16, .bool p0.strengthen.neg, .slice p0a17 p0.strengthen.ln.length p0a18, .slice p0a19 p0.strengthen.ld.length p0a20, .bool p0.reversal.neg, .slice p0a21 p0.reversal.ln.length p0a22, .slice p0a23 p0.reversal.ld.length p0a24] 30 (0, 0))] ∧ Le (rd w30 Y30) (rd w1 Y1) ∧ J34 = some y) ?_ ?_
 ·
  rintro _ w34 ⟨Y34, B34, j34, hp⟩
  have hp := hJ34.symm.trans hp
  refine zz 5 ?_
  refine zo 0 B34 ?_
  refine zn (fun b => .slice (some ⟨b, 0, none⟩) 1 1) (.cells #[.int .i64 p0.pull] 3 (0, 0)) B34 ?_
  intro b36 w36 Y36 B36 j36 hu36
  refine bndk hp fun y38 hy38 hp => ?_
  refine zc B36 (dynamics_span_has_c _ X0 (X0_lt _) (SpanD.mk 0 100) _ rfl ([p0.pull]) _ ⟨_, _, rfl, (SlR.lit (El := IntAt) (size := 1) (n := 1) [⟨(p0.pull : Int), [.int .i64 p0.pull]⟩] (B36.at0 0 rfl rfl) (List.forall_mem_cons.2 ⟨⟨rfl, fun r2 h2 b o h9 => h9⟩, (List.forall_mem_nil _)⟩) rfl (by decide))⟩ y38 hy38) ?_ (vs := #[.agg #[.int .i64 0, .int .i64 100], .slice (some ⟨b36, 0, none⟩) 1 1])
  rintro v39 w39 B39 j39 hu39 rfl
  refine zz 2 ?_
  refine zb 91 (b := !y38) (fun hc40 => ?_) (fun hc40 => ?_)
  ·
   have hp := ipb hc40 hp
   refine zz 25 ?_
   refine zr' (v := .int .i64 1) ?_
   have hob := Option.some.inj hp
   subst hob
   exact ⟨B39.upd, _, rfl, rfl⟩
  have hp := iqb hc40 hp
  refine zz 2 ?_
  refine zo 1 B39 ?_
  refine zn (fun b => .slice (some ⟨b, 0, none⟩) 1 1) (.cells #[.int .i64 p0.near] 3 (0, 0)) B39 ?_
  intro b42 w42 Y42 B42 j42 hu42
  refine bndk hp fun y44 hy44 hp => ?_
  refine zc B42 (dynamics_span_has_c _ X0 (X0_lt _) (SpanD.mk 0 50000) _ rfl ([p0.near]) _ ⟨_, _, rfl, (SlR.lit (El := IntAt) (size := 1) (n := 1) [⟨(p0.near : Int), [.int .i64 p0.near]⟩] (B42.at0 0 rfl rfl) (List.forall_mem_cons.2 ⟨⟨rfl, fun r2 h2 b o h9 => h9⟩, (List.forall_mem_nil _)⟩) rfl (by decide))⟩ y44 hy44) ?_ (vs := #[.agg #[.int .i64 0, .int .i64 50000], .slice (some ⟨b42, 0, none⟩) 1 1])
  rintro v45 w45 B45 j45 hu45 rfl
  refine zz 3 ?_
  refine zb 99 (b := !y44) (fun hc46 => ?_) (fun hc46 => ?_)
  ·
   have hp := ipb hc46 hp
   refine zz 17 ?_
   refine zr' (v := .int .i64 1) ?_
   have hob := Option.some.inj hp
   subst hob
   exact ⟨B45.upd, _, rfl, rfl⟩
  have hp := iqb hc46 hp
  refine zz 2 ?_
  refine zo 2 B45 ?_
  refine zn (fun b => .slice (some ⟨b, 0, none⟩) 1 1) (.cells #[.int .i64 p0.steps] 3 (0, 0)) B45 ?_
  intro b48 w48 Y48 B48 j48 hu48
  refine bndk hp fun y50 hy50 hp => ?_
  refine zc B48 (dynamics_span_has_c _ X0 (X0_lt _) (SpanD.mk 0 24) _ rfl ([p0.steps]) _ ⟨_, _, rfl, (SlR.lit (El := IntAt) (size := 1) (n := 1) [⟨(p0.steps : Int), [.int .i64 p0.steps]⟩] (B48.at0 0 rfl rfl) (List.forall_mem_cons.2 ⟨⟨rfl, fun r2 h2 b o h9 => h9⟩, (List.forall_mem_nil _)⟩) rfl (by decide))⟩ y50 hy50) ?_ (vs := #[.agg #[.int .i64 0, .int .i64 24], .slice (some ⟨b48, 0, none⟩) 1 1])
  rintro v51 w51 B51 j51 hu51 rfl
  refine zz 4 ?_
  refine zb 106 (b := !y50) (fun hc52 => ?_) (fun hc52 => ?_)
  ·
   have hp := ipb hc52 hp
   refine zz 8 ?_
   refine zr' (v := .int .i64 1) ?_
   have hob := Option.some.inj hp
   subst hob
   exact ⟨B51.upd, _, rfl, rfl⟩
  have hp := iqb hc52 hp
  refine zz 3 ?_
  have hob := ltd0 hp
  obtain ⟨J53, hJ53, hp⟩ := hob
  refine zjoin (fun (_ : Unit) => [(1, .pointer (some ⟨b3, 0, none⟩))]) (fun (_ : Unit) w1 => ∃ Y1 : Hid, St E0 w X w1 Y1 [(b48, .cells #[.int .i64 p0.steps] 3 (0, 0)), (b42, .cells #[.int .i64 p0.near] 3 (0, 0)), (b36, .cells #[.int .i64 p0.pull] 3 (0, 0)), (b3, .cells #[.slice p0a1 p0.height.length p0a2, .slice p0a3 p0.own.length p0a4, .slice p0a5 p0.other.length p0a6, .slice p0a7 p0.advisories.length p0a8, .int .i64 p0.pull, .int .i64 p0.near, .int .i64 p0.steps, .slice p0a9 p0.ownNoise.length p0a10, .slice p0a11 p0.otherNoise.length p0a12, .bool p0.alert.neg, .slice p0a13 p0.alert.ln.length p0a14, .slice p0a15 p0.alert.ld.length p0a16, .bool p0.strengthen.neg, .slice p0a17 p0.strengthen.ln.length p0a18, .slice p0a19 p0.strengthen.ld.length p0a20, .bool p0.reversal.neg, .slice p0a21 p0.reversal.ln.length p0a22, .slice p0a23 p0.reversal.ld.length p0a24] 30 (0, 0))] ∧ Le (rd w51 Y48) (rd w1 Y1) ∧ J53 = some y) ?_ ?_
  ·
   rintro _ w53 ⟨Y53, B53, j53, hp⟩
   have hp := hJ53.symm.trans hp
   have hob := ltd0 hp
   obtain ⟨J54, hJ54, hp⟩ := hob
   refine zjoin (fun (_ : Unit) => [(1, .pointer (some ⟨b3, 0, none⟩))]) (fun (_ : Unit) w1 => ∃ Y1 : Hid, St E0 w X w1 Y1 [(b48, .cells #[.int .i64 p0.steps] 3 (0, 0)), (b42, .cells #[.int .i64 p0.near] 3 (0, 0)), (b36, .cells #[.int .i64 p0.pull] 3 (0, 0)), (b3, .cells #[.slice p0a1 p0.height.length p0a2, .slice p0a3 p0.own.length p0a4, .slice p0a5 p0.other.length p0a6, .slice p0a7 p0.advisories.length p0a8, .int .i64 p0.pull, .int .i64 p0.near, .int .i64 p0.steps, .slice p0a9 p0.ownNoise.length p0a10, .slice p0a11 p0.otherNoise.length p0a12, .bool p0.alert.neg, .slice p0a13 p0.alert.ln.length p0a14, .slice p0a15 p0.alert.ld.length p0a16, .bool p0.strengthen.neg, .slice p0a17 p0.strengthen.ln.length p0a18, .slice p0a19 p0.strengthen.ld.length p0a20, .bool p0.reversal.neg, .slice p0a21 p0.reversal.ln.length p0a22, .slice p0a23 p0.reversal.ld.length p0a24] 30 (0, 0))] ∧ Le (rd w53 Y53) (rd w1 Y1) ∧ J54 = some y) ?_ ?_
   ·
    rintro _ w54 ⟨Y54, B54, j54, hp⟩
    have hp := hJ54.symm.trans hp
    refine zz 3 ?_
    refine zo 3 B54 ?_
    have hc6_ := ((((((((((hc4_.trans j29).trans j30).trans j34).trans j36).trans j39).trans j42).trans j45).trans j48).trans j51).trans j53).trans j54
    refine bndk hp fun y56 hy56 hp => ?_
    refine zc B54 (dynamics_size_c _ X0 (X0_lt _) p0 _ ((hVp0.mono hc6_).mono Le.x0) y56 hy56) ?_
    rintro v57 w57 B57 j57 hu57 rfl
    refine zz 3 ?_
    refine zt 145 (p := (y56) > 200) (fun ht58 => ?_) (fun ht58 => ?_)
    ·
     have hp := ip ht58 hp
     refine zz 8 ?_
     refine zr' (v := .int .i64 10) ?_
     have hob := Option.some.inj hp
     subst hob
     exact ⟨B57.upd, _, rfl, rfl⟩
    have hp := iq ht58 hp
    refine zz 9 ?_
    refine zr' (v := .int .i64 0) ?_
    have hob := Option.some.inj hp
    subst hob
    exact ⟨B57.upd, _, rfl, rfl⟩
   intro K59 G59
   refine zz 3 ?_
   refine zo 3 B53 ?_
   refine zz 1 ?_
   refine zo 3 B53 ?_
   refine zz 1 ?_
   refine zo 3 B53 ?_
   refine zn (fun b => .slice (some ⟨b, 0, none⟩) 3 3) (.cells #[.bool p0.alert.neg, .slice p0a13 p0.alert.ln.length p0a14, .slice p0a15 p0.alert.ld.length p0a16, .bool p0.strengthen.neg, .slice p0a17 p0.strengthen.ln.length p0a18, .slice p0a19 p0.strengthen.ld.length p0a20, .bool p0.reversal.neg, .slice p0a21 p0.reversal.ln.length p0a22, .slice p0a23 p0.reversal.ld.length p0a24] 28 (0, 0)) B53 ?_
   intro b61 w61 Y61 B61 j61 hu61
   refine zz 5 ?_
   have hob := St.pubAt 0 B61 rfl
   obtain ⟨Y63, hSx63, j63, hat63, hatN63⟩ := hob
   have B63 : St E0 w X w61 Y63 [(b48, .cells #[.int .i64 p0.steps] 3 (0, 0)), (b42, .cells #[.int .i64 p0.near] 3 (0, 0)), (b36, .cells #[.int .i64 p0.pull] 3 (0, 0)), (b3, .cells #[.slice p0a1 p0.height.length p0a2, .slice p0a3 p0.own.length p0a4, .slice p0a5 p0.other.length p0a6, .slice p0a7 p0.advisories.length p0a8, .int .i64 p0.pull, .int .i64 p0.near, .int .i64 p0.steps, .slice p0a9 p0.ownNoise.length p0a10, .slice p0a11 p0.otherNoise.length p0a12, .bool p0.alert.neg, .slice p0a13 p0.alert.ln.length p0a14, .slice p0a15 p0.alert.ld.length p0a16, .bool p0.strengthen.neg, .slice p0a17 p0.strengthen.ln.length p0a18, .slice p0a19 p0.strengthen.ld.length p0a20, .bool p0.reversal.neg, .slice p0a21 p0.reversal.ln.length p0a22, .slice p0a23 p0.reversal.ld.length p0a24] 30 (0, 0))] := hSx63
   have hc7_ := (((((((((((hc4_.trans j29).trans j30).trans j34).trans j36).trans j39).trans j42).trans j45).trans j48).trans j51).trans j53).trans j61).trans j63
   have hR63 : Rats (rd w61 Y63) (some ⟨b61, 0, none⟩) 3 3 [p0.alert, p0.strengthen, p0.reversal] := (Rats.ofSl (SlR.lit (El := RatAt) (size := 3) (n := 3) [⟨p0.alert, [.bool p0.alert.neg, .slice p0a13 p0.alert.ln.length p0a14, .slice p0a15 p0.alert.ld.length p0a16]⟩, ⟨p0.strengthen, [.bool p0.strengthen.neg, .slice p0a17 p0.strengthen.ln.length p0a18, .slice p0a19 p0.strengthen.ld.length p0a20]⟩, ⟨p0.reversal, [.bool p0.reversal.neg, .slice p0a21 p0.reversal.ln.length p0a22, .slice p0a23 p0.reversal.ld.length p0a24]⟩] hat63 (List.forall_mem_cons.2 ⟨⟨rfl, fun r2 h2 b o h9 => ⟨_, _, _, _, _, _, h9, ((p0a_h6.mono hc7_).mono h2), ((p0a_h7.mono hc7_).mono h2)⟩⟩, (List.forall_mem_cons.2 ⟨⟨rfl, fun r2 h2 b o h9 => ⟨_, _, _, _, _, _, h9, ((p0a_h8.mono hc7_).mono h2), ((p0a_h9.mono hc7_).mono h2)⟩⟩, (List.forall_mem_cons.2 ⟨⟨rfl, fun r2 h2 b o h9 => ⟨_, _, _, _, _, _, h9, ((p0a_h10.mono hc7_).mono h2), ((p0a_h11.mono hc7_).mono h2)⟩⟩, (List.forall_mem_nil _)⟩)⟩)⟩) rfl (by decide)))
   refine zlp Tryz.f26 [K59] [1, 1, 1, 1, 1, 1, 9, 1, 0] (fun (k62 : Nat) => [(1, .pointer (some ⟨b3, 0, none⟩)), (129, .slice (some ⟨b61, 0, none⟩) 3 3), (130, .int .i64 3), (131, .int .i64 (k62 : Int))]) (fun (k62 : Nat) w1 => ∃ Y1 : Hid, St E0 w X w1 Y1 [(b48, .cells #[.int .i64 p0.steps] 3 (0, 0)), (b42, .cells #[.int .i64 p0.near] 3 (0, 0)), (b36, .cells #[.int .i64 p0.pull] 3 (0, 0)), (b3, .cells #[.slice p0a1 p0.height.length p0a2, .slice p0a3 p0.own.length p0a4, .slice p0a5 p0.other.length p0a6, .slice p0a7 p0.advisories.length p0a8, .int .i64 p0.pull, .int .i64 p0.near, .int .i64 p0.steps, .slice p0a9 p0.ownNoise.length p0a10, .slice p0a11 p0.otherNoise.length p0a12, .bool p0.alert.neg, .slice p0a13 p0.alert.ln.length p0a14, .slice p0a15 p0.alert.ld.length p0a16, .bool p0.strengthen.neg, .slice p0a17 p0.strengthen.ln.length p0a18, .slice p0a19 p0.strengthen.ld.length p0a20, .bool p0.reversal.neg, .slice p0a21 p0.reversal.ln.length p0a22, .slice p0a23 p0.reversal.ld.length p0a24] 30 (0, 0))] ∧ Le (rd w61 Y63) (rd w1 Y1) ∧ dynamics_Check_l62 p0 J54 ((3 : Int).toNat - k62) k62 = some y) (fun (k62 : Nat) => (3 : Int).toNat - k62) 0 ?_ ?_
   ·
    exact ⟨_, B63, Le.refl _, hp⟩
   rintro k62 w62 K62 G62 ⟨Y62, B62, j62, hp⟩
   refine zz 6 ?_
   refine zt 132 (p := (k62 : Int) < 3) (fun ht64 => ?_) (fun ht64 => ?_)
   ·
    have hob := cnt_ltI (N := (3 : Int)) (k := k62) ht64
    obtain ⟨r62, hm62, hn62⟩ := hob
    rw [hm62, dynamics_Check_l62] at hp
    refine zz 7 ?_
    refine bndk hp fun x65 hx65 hp => ?_
    have hob := ix_some hx65
    obtain ⟨hzx65, hqx65⟩ := hob
    have hwx65 : ([p0.alert, p0.strengthen, p0.reversal])[k62]? = some x65 := hqx65
    have hob := hR63.sl.opn2 hwx65
    obtain ⟨j66, hEe66⟩ := hob
    obtain ⟨e661, e662, e663, e664, e665, e666, e66_at, e66_h0, e66_h1⟩ := hEe66
    have hob := e66_h0.hlen
    subst hob
    have hob := e66_h1.hlen
    subst hob
    refine zi (b := b61) (off := 0) (len := 3) (cap := 3) (kd := .i64) (i := (k62 : Int)) 3 (0 + k62 * 3) ?_ (h0 := hzx65) (h1 := (ix_b hzx65 j66))
    refine zl ((e66_at.mono j62)).cells ?_
    refine zn pn (.cells #[.bool false, .slice none 0 0, .slice none 0 0] 28 (0, 0)) B62 ?_
    intro b68 w68 Y68 B68 j68 hu68
    refine zx 0 #[.bool x65.neg, .slice e661 x65.ln.length e663, .slice e664 x65.ld.length e666] B68 ?_
    intro w69 B69 j69
    refine zz 5 ?_
    refine zo 0 B69 ?_
    refine bndk hp fun y71 hy71 hp => ?_
    refine zc B69 (dynamics_checkRat_c _ X0 (X0_lt _) x65 _ ⟨_, _, _, _, _, _, rfl, ((e66_h0.mono (Le3 j62 j68 j69)).mono Le.x0), ((e66_h1.mono (Le3 j62 j68 j69)).mono Le.x0)⟩ y71 hy71) ?_
    rintro v72 w72 B72 j72 hu72 rfl
    refine zz 9 ?_
    refine zb 138 (b := ((y71) != 0)) (fun hc73 => ?_) (fun hc73 => ?_)
    ·
     have hp := ipb hc73 hp
     refine zz 14 ?_
     refine zr' (v := .int .i64 y71) ?_
     have hob := Option.some.inj hp
     subst hob
     exact ⟨B72.upd, _, rfl, rfl⟩
    have hp := iqb hc73 hp
    refine zz 6 ?_
    refine zo 0 B72 ?_
    refine zz 2 ?_
    refine zb 141 (b := x65.neg) (fun hc74 => ?_) (fun hc74 => ?_)
    ·
     have hp := ipb hc74 hp
     refine zz 12 ?_
     refine zr' (v := .int .i64 1) ?_
     have hob := Option.some.inj hp
     subst hob
     exact ⟨B72.upd, _, rfl, rfl⟩
    have hp := iqb hc74 hp
    refine zz 6 ?_
    refine zs 142 (v := .int .i64 (IntKind.i64.wrap ((k62 : Int) + 1))) (v' := .int .i64 ((k62 : Int) + 1)) (vint (wi64 (wk0 k62) (wk1 ht64 (by decide)))) ?_
    refine zz 2 ?_
    have hc8_ := (Le3 j62 j68 j69).trans j72
    refine znext (fun a h => G62 (k62 + 1) _ a h ⟨_, B72.tail, hc8_, (by rw [hn62]; exact hp)⟩ ?_)
    exact mu_ltN ht64
   rw [cnt_end (N := (3 : Int)) ht64, dynamics_Check_l62] at hp
   refine zz 5 ?_
   exact znext (fun a h => G59 () _ a h ⟨_, B62, (Le3 j61 j63 j62), hp⟩)
  intro K75 G75
  refine zz 3 ?_
  refine zo 3 B51 ?_
  refine zz 1 ?_
  refine zo 3 B51 ?_
  refine zn (fun b => .slice (some ⟨b, 0, none⟩) 2 2) (.cells #[.slice p0a9 p0.ownNoise.length p0a10, .slice p0a11 p0.otherNoise.length p0a12] 24 (0, 0)) B51 ?_
  intro b77 w77 Y77 B77 j77 hu77
  refine zz 5 ?_
  have hob := St.pubAt 0 B77 rfl
  obtain ⟨Y79, hSx79, j79, hat79, hatN79⟩ := hob
  have B79 : St E0 w X w77 Y79 [(b48, .cells #[.int .i64 p0.steps] 3 (0, 0)), (b42, .cells #[.int .i64 p0.near] 3 (0, 0)), (b36, .cells #[.int .i64 p0.pull] 3 (0, 0)), (b3, .cells #[.slice p0a1 p0.height.length p0a2, .slice p0a3 p0.own.length p0a4, .slice p0a5 p0.other.length p0a6, .slice p0a7 p0.advisories.length p0a8, .int .i64 p0.pull, .int .i64 p0.near, .int .i64 p0.steps, .slice p0a9 p0.ownNoise.length p0a10, .slice p0a11 p0.otherNoise.length p0a12, .bool p0.alert.neg, .slice p0a13 p0.alert.ln.length p0a14, .slice p0a15 p0.alert.ld.length p0a16, .bool p0.strengthen.neg, .slice p0a17 p0.strengthen.ln.length p0a18, .slice p0a19 p0.strengthen.ld.length p0a20, .bool p0.reversal.neg, .slice p0a21 p0.reversal.ln.length p0a22, .slice p0a23 p0.reversal.ld.length p0a24] 30 (0, 0))] := hSx79
  have hc9_ := ((((((((((hc4_.trans j29).trans j30).trans j34).trans j36).trans j39).trans j42).trans j45).trans j48).trans j51).trans j77).trans j79
  have hR79 : NoiseDSS (rd w77 Y79) (some ⟨b77, 0, none⟩) 2 2 [p0.ownNoise, p0.otherNoise] := (SlR.lit (El := NoiseDSAt) (size := 1) (n := 2) [⟨p0.ownNoise, [.slice p0a9 p0.ownNoise.length p0a10]⟩, ⟨p0.otherNoise, [.slice p0a11 p0.otherNoise.length p0a12]⟩] hat79 (List.forall_mem_cons.2 ⟨⟨rfl, fun r2 h2 b o h9 => ⟨_, _, h9, ((p0a_h4.mono hc9_).mono h2)⟩⟩, (List.forall_mem_cons.2 ⟨⟨rfl, fun r2 h2 b o h9 => ⟨_, _, h9, ((p0a_h5.mono hc9_).mono h2)⟩⟩, (List.forall_mem_nil _)⟩)⟩) rfl (by decide))
  refine zlp Tryz.f26 [K75] [1, 1, 1, 1, 1, 9, 1, 0] (fun (k78 : Nat) => [(1, .pointer (some ⟨b3, 0, none⟩)), (111, .slice (some ⟨b77, 0, none⟩) 2 2), (112, .int .i64 2), (113, .int .i64 (k78 : Int))]) (fun (k78 : Nat) w1 => ∃ Y1 : Hid, St E0 w X w1 Y1 [(b48, .cells #[.int .i64 p0.steps] 3 (0, 0)), (b42, .cells #[.int .i64 p0.near] 3 (0, 0)), (b36, .cells #[.int .i64 p0.pull] 3 (0, 0)), (b3, .cells #[.slice p0a1 p0.height.length p0a2, .slice p0a3 p0.own.length p0a4, .slice p0a5 p0.other.length p0a6, .slice p0a7 p0.advisories.length p0a8, .int .i64 p0.pull, .int .i64 p0.near, .int .i64 p0.steps, .slice p0a9 p0.ownNoise.length p0a10, .slice p0a11 p0.otherNoise.length p0a12, .bool p0.alert.neg, .slice p0a13 p0.alert.ln.length p0a14, .slice p0a15 p0.alert.ld.length p0a16, .bool p0.strengthen.neg, .slice p0a17 p0.strengthen.ln.length p0a18, .slice p0a19 p0.strengthen.ld.length p0a20, .bool p0.reversal.neg, .slice p0a21 p0.reversal.ln.length p0a22, .slice p0a23 p0.reversal.ld.length p0a24] 30 (0, 0))] ∧ Le (rd w77 Y79) (rd w1 Y1) ∧ dynamics_Check_l78 p0 J53 ((2 : Int).toNat - k78) k78 = some y) (fun (k78 : Nat) => (2 : Int).toNat - k78) 0 ?_ ?_
  ·
   exact ⟨_, B79, Le.refl _, hp⟩
  rintro k78 w78 K78 G78 ⟨Y78, B78, j78, hp⟩
  refine zz 6 ?_
  refine zt 114 (p := (k78 : Int) < 2) (fun ht80 => ?_) (fun ht80 => ?_)
  ·
   have hob := cnt_ltI (N := (2 : Int)) (k := k78) ht80
   obtain ⟨r78, hm78, hn78⟩ := hob
   rw [hm78, dynamics_Check_l78] at hp
   refine zz 7 ?_
   refine bndk hp fun x81 hx81 hp => ?_
   have hob := ix_some hx81
   obtain ⟨hzx81, hqx81⟩ := hob
   have hwx81 : ([p0.ownNoise, p0.otherNoise])[k78]? = some x81 := hqx81
   have hob := hR79.opn2 hwx81
   obtain ⟨j82, hEe82⟩ := hob
   obtain ⟨e821, e822, e82_at, e82_h0⟩ := hEe82
   refine zi (b := b77) (off := 0) (len := 2) (cap := 2) (kd := .i64) (i := (k78 : Int)) 1 (0 + k78 * 1) ?_ (h0 := hzx81) (h1 := (ix_b hzx81 j82))
   refine zl ((e82_at.mono j78)).cells ?_
   refine zz 6 ?_
   refine bndk hp fun y84 hy84 hp => ?_
   refine zc B78 (dynamics_checkNoise_c _ X0 (X0_lt _) x81 _ ⟨_, _, rfl, ((e82_h0.mono j78).mono Le.x0)⟩ y84 hy84) ?_
   rintro v85 w85 B85 j85 hu85 rfl
   refine zz 9 ?_
   refine zb 120 (b := ((y84) != 0)) (fun hc86 => ?_) (fun hc86 => ?_)
   ·
    have hp := ipb hc86 hp
    refine zz 13 ?_
    refine zr' (v := .int .i64 y84) ?_
    have hob := Option.some.inj hp
    subst hob
    exact ⟨B85.upd, _, rfl, rfl⟩
   have hp := iqb hc86 hp
   refine zz 6 ?_
   refine zs 122 (v := .int .i64 (IntKind.i64.wrap ((k78 : Int) + 1))) (v' := .int .i64 ((k78 : Int) + 1)) (vint (wi64 (wk0 k78) (wk1 ht80 (by decide)))) ?_
   refine zz 2 ?_
   refine znext (fun a h => G78 (k78 + 1) _ a h ⟨_, B85, (Le2 j78 j85), (by rw [hn78]; exact hp)⟩ ?_)
   exact mu_ltN ht80
  rw [cnt_end (N := (2 : Int)) ht80, dynamics_Check_l78] at hp
  refine zz 5 ?_
  exact znext (fun a h => G75 () _ a h ⟨_, B78, (Le3 j77 j79 j78), hp⟩)
 intro K87 G87
 refine zz 3 ?_
 refine zo 0 B30 ?_
 have hob := grdp hp
 obtain ⟨hg89, hp⟩ := hob
 have hob := SlR.cutN (k := 1) (n := p0.advisories.length) (p0a_h3) (cutbn hg89) (Nat.le_refl _)
 obtain ⟨ad90, cap90, hcu90, hsl90⟩ := hob
 have hpe90 : ((p0.advisories.take p0.advisories.length).drop 1) = (p0.advisories.drop 1) := by simp
 rw [hpe90] at hsl90 hcu90
 have hsf90 : BoundsDS (rd w X) ad90 (p0.advisories.drop 1).length cap90 (p0.advisories.drop 1) := hsl90
 refine zop (at1 [K87] Tryz.f26 [1, 1, 1, 9, 0]) 2 (fun a88 _ C88 hz88 => zC (d := 53) (v := .slice ad90 ((p0.advisories.drop 1).length) cap90) C88 kr (run_cutLoN (kd := .i64) (i := 1) (t := 23) (e := 60) (g := true) (m := 3) (ad := p0a7) (len := p0.advisories.length) (cap := p0a8) hcu90 rfl kr kr kr kr hg89.1 hg89.2.1 rfl _) ?_)
 intro a91 C91
 refine hz88 C91 ?_
 refine zz 5 ?_
 have hb92 : ((p0.advisories.drop 1).length : Int) ≤ 9223372036854775807 := lenb (hsf90).hcap (hsf90).hbig
 refine zlp Tryz.f26 [K87] [1, 1, 1, 9, 1, 0] (fun (k92 : Nat) => [(1, .pointer (some ⟨b3, 0, none⟩)), (3, .func (.func 96) #[] #[.pointer (some ⟨u6_0_b0, 0, none⟩), .pointer (some ⟨u6_0_b1, 0, none⟩)]), (53, .slice ad90 ((p0.advisories.drop 1).length) cap90), (54, .int .i64 ((p0.advisories.drop 1).length : Int)), (55, .int .i64 (k92 : Int))]) (fun (k92 : Nat) w1 => ∃ Y1 : Hid, St E0 w X w1 Y1 [(b3, .cells #[.slice p0a1 p0.height.length p0a2, .slice p0a3 p0.own.length p0a4, .slice p0a5 p0.other.length p0a6, .slice p0a7 p0.advisories.length p0a8, .int .i64 p0.pull, .int .i64 p0.near, .int .i64 p0.steps, .slice p0a9 p0.ownNoise.length p0a10, .slice p0a11 p0.otherNoise.length p0a12, .bool p0.alert.neg, .slice p0a13 p0.alert.ln.length p0a14, .slice p0a15 p0.alert.ld.length p0a16, .bool p0.strengthen.neg, .slice p0a17 p0.strengthen.ln.length p0a18, .slice p0a19 p0.strengthen.ld.length p0a20, .bool p0.reversal.neg, .slice p0a21 p0.reversal.ln.length p0a22, .slice p0a23 p0.reversal.ld.length p0a24] 30 (0, 0))] ∧ Le (rd w30 Y30) (rd w1 Y1) ∧ dynamics_Check_l92 y5 J34 ((p0.advisories.drop 1).drop k92)  = some y) (fun (k92 : Nat) => (p0.advisories.drop 1).length - k92) 0 ?_ ?_
 ·
  exact ⟨_, B30, Le.refl _, hp⟩
 rintro k92 w92 K92 G92 ⟨Y92, B92, j92, hp⟩
 refine zz 6 ?_
 refine zt 56 (p := (k92 : Int) < ((p0.advisories.drop 1).length : Int)) (fun ht93 => ?_) (fun ht93 => ?_)
 ·
  have hob := get_lt (l := (p0.advisories.drop 1)) (k := k92) (lt_of_int ht93)
  obtain ⟨x92, hqx92⟩ := hob
  rw [dropC hqx92, dynamics_Check_l92] at hp
  have hzx92 : (0 : Int) ≤ (k92 : Int) := Int.natCast_nonneg _
  refine zz 7 ?_
  have hob := hsf90.opn hqx92
  obtain ⟨be94, oe94, rfl, j94, hEe94⟩ := hob
  have e94_at : At (rd w X) ⟨be94, oe94 + k92 * 3, none⟩ [.int .u8 x92.sense, .int .i64 x92.lo, .int .i64 x92.hi] := hEe94
  refine zi (b := be94) (off := oe94) (len := (p0.advisories.drop 1).length) (cap := cap90) (kd := .i64) (i := (k92 : Int)) 3 (oe94 + k92 * 3) ?_ (h0 := hzx92) (h1 := (ix_b hzx92 j94))
  have hc10_ := ((hc4_.trans j29).trans j30).trans j92
  refine zl ((e94_at.mono hc10_)).cells ?_
  refine zn pn (.cells #[.int .u8 0, .int .i64 0, .int .i64 0] 60 (0, 0)) B92 ?_
  intro b96 w96 Y96 B96 j96 hu96
  refine zx 0 #[.int .u8 x92.sense, .int .i64 x92.lo, .int .i64 x92.hi] B96 ?_
  intro w97 B97 j97
  refine zz 3 ?_
  have hob := ltd1 hp
  obtain ⟨J98, hJ98, hp⟩ := hob
  refine zjoin (fun (v98_0 : Bool) => [(59, .bool v98_0), (1, .pointer (some ⟨b3, 0, none⟩)), (3, .func (.func 96) #[] #[.pointer (some ⟨u6_0_b0, 0, none⟩), .pointer (some ⟨u6_0_b1, 0, none⟩)]), (6, .pointer (some ⟨b96, 0, none⟩)), (53, .slice (some ⟨be94, oe94, none⟩) ((p0.advisories.drop 1).length) cap90), (54, .int .i64 ((p0.advisories.drop 1).length : Int)), (55, .int .i64 (k92 : Int))]) (fun (v98_0 : Bool) w1 => ∃ Y1 : Hid, St E0 w X w1 Y1 [(b96, .cells #[.int .u8 x92.sense, .int .i64 x92.lo, .int .i64 x92.hi] 60 (0, 0)), (b3, .cells #[.slice p0a1 p0.height.length p0a2, .slice p0a3 p0.own.length p0a4, .slice p0a5 p0.other.length p0a6, .slice p0a7 p0.advisories.length p0a8, .int .i64 p0.pull, .int .i64 p0.near, .int .i64 p0.steps, .slice p0a9 p0.ownNoise.length p0a10, .slice p0a11 p0.otherNoise.length p0a12, .bool p0.alert.neg, .slice p0a13 p0.alert.ln.length p0a14, .slice p0a15 p0.alert.ld.length p0a16, .bool p0.strengthen.neg, .slice p0a17 p0.strengthen.ln.length p0a18, .slice p0a19 p0.strengthen.ld.length p0a20, .bool p0.reversal.neg, .slice p0a21 p0.reversal.ln.length p0a22, .slice p0a23 p0.reversal.ld.length p0a24] 30 (0, 0))] ∧ Le (rd w97 Y96) (rd w1 Y1) ∧ J98 v98_0 = some y) ?_ ?_
  ·
   rintro v98_0 w98 ⟨Y98, B98, j98, hp⟩
   have hp := (hJ98 _).symm.trans hp
   refine zb 59 (b := v98_0) (fun hc99 => ?_) (fun hc99 => ?_)
   ·
    have hp := ipb hc99 hp
    refine zz 13 ?_
    refine zr' (v := .int .i64 6) ?_
    have hob := Option.some.inj hp
    subst hob
    exact ⟨B98.upd, _, rfl, rfl⟩
   have hp := iqb hc99 hp
   refine zz 4 ?_
   refine zo 0 B98 ?_
   refine zz 1 ?_
   refine zo 0 B98 ?_
   refine zz 2 ?_
   refine zt 74 (p := (x92.lo) > x92.hi) (fun ht100 => ?_) (fun ht100 => ?_)
   ·
    have hp := ip ht100 hp
    refine zz 25 ?_
    refine zr' (v := .int .i64 1) ?_
    have hob := Option.some.inj hp
    subst hob
    exact ⟨B98.upd, _, rfl, rfl⟩
   have hp := iq ht100 hp
   refine zz 2 ?_
   refine zo 0 B98 ?_
   refine zz 1 ?_
   refine zo 0 B98 ?_
   refine zn (fun b => .slice (some ⟨b, 0, none⟩) 2 2) (.cells #[.int .i64 x92.lo, .int .i64 x92.hi] 3 (0, 0)) B98 ?_
   intro b102 w102 Y102 B102 j102 hu102
   have hc11_ := ((((((hc5_.trans j29).trans j30).trans j92).trans j96).trans j97).trans j98).trans j102
   refine bndk hp fun y104 hy104 hp => ?_
   refine zc B102 (dynamics_within_1_c _ X0 (X0_lt _) ([x92.lo, x92.hi]) _ ⟨_, _, rfl, (SlR.lit (El := IntAt) (size := 1) (n := 2) [⟨(x92.lo : Int), [.int .i64 x92.lo]⟩, ⟨(x92.hi : Int), [.int .i64 x92.hi]⟩] (B102.at0 0 rfl rfl) (List.forall_mem_cons.2 ⟨⟨rfl, fun r2 h2 b o h9 => h9⟩, (List.forall_mem_cons.2 ⟨⟨rfl, fun r2 h2 b o h9 => h9⟩, (List.forall_mem_nil _)⟩)⟩) rfl (by decide))⟩ _ ((hAu6_0_b0.mono hc11_).mono Le.x0) y5 _ ((hAu6_0_b1.mono hc11_).mono Le.x0) y104 hy104) ?_ (vs := #[.slice (some ⟨b102, 0, none⟩) 2 2, .pointer (some ⟨u6_0_b0, 0, none⟩), .pointer (some ⟨u6_0_b1, 0, none⟩)])
   rintro v105 w105 B105 j105 hu105 rfl
   refine zz 5 ?_
   refine zb 68 (b := !y104) (fun hc106 => ?_) (fun hc106 => ?_)
   ·
    have hp := ipb hc106 hp
    refine zz 13 ?_
    refine zr' (v := .int .i64 1) ?_
    have hob := Option.some.inj hp
    subst hob
    exact ⟨B105.upd, _, rfl, rfl⟩
   have hp := iqb hc106 hp
   refine zz 7 ?_
   refine zs 84 (v := .int .i64 (IntKind.i64.wrap ((k92 : Int) + 1))) (v' := .int .i64 ((k92 : Int) + 1)) (vint (wi64 (wk0 k92) (wk1 ht93 hb92))) ?_
   refine zz 2 ?_
   have hc12_ := (Le5 j92 j96 j97 j98 j102).trans j105
   refine znext (fun a h => G92 (k92 + 1) _ a h ⟨_, B105.tail.tail, hc12_, hp⟩ ?_)
   exact mu_lt ht93
  intro K107 G107
  refine zz 2 ?_
  refine zo 0 B97 ?_
  refine zz 2 ?_
  refine zb 63 (b := ((x92.sense) != 1)) (fun hc108 => ?_) (fun hc108 => ?_)
  ·
   have hp := ipb hc108 hp
   refine zz 1 ?_
   refine zo 0 B97 ?_
   refine zz 4 ?_
   exact znext (fun a h => G107 ((x92.sense) != 2) _ a h ⟨_, B97, (Le.refl _), hp⟩)
  have hp := iqb hc108 hp
  refine zz 6 ?_
  exact znext (fun a h => G107 false _ a h ⟨_, B97, (Le.refl _), hp⟩)
 rw [List.drop_eq_nil_of_le (nlt_of_int ht93), dynamics_Check_l92] at hp
 refine zz 5 ?_
 exact znext (fun a h => G87 () _ a h ⟨_, B92, j92, hp⟩)
end Go.Proofs.YtppalofalmieaaaGreat
namespace Go.Proofs.YtppalofalmieaaaGreat
open Go Go.Gv Go.RowKit
set_option maxRecDepth 100000
set_option maxHeartbeats 1000000
noncomputable def dynamics_known_p (p0 : ModelD) (p1 : List Int) : Option (Int) :=
  (dynamics_Check_p p0).bind fun y5 => if ((y5) != 0) = true then (some y5) else ((dynamics_span_has_p (SpanD.mk 0 (IntKind.i64.wrap ((p0.advisories.length : Int) - 1))) p1).bind fun y9 => if (!y9) = true then (some 8) else (some 0))
theorem dynamics_known_c (w : World) (X : Hid) (hX : ∀ k o, X k o → k < w.heap.size) (p0 : ModelD) (vp0 : Value) (hp0 : ModelDV (rd w X) vp0 p0) (p1 : List Int) (vp1 : Value) (hp1 : SV Ints (rd w X) vp1 p1) (y : Int) (hp : dynamics_known_p p0 p1 = some y) : Calls Tryz.prog 53 #[vp0, vp1] w (Ret E0 w fun _ v => v = .int .i64 y) := by
 have hVp0 := hp0
 refine ModelDV.op hp0 fun p0a1 p0a2 p0a3 p0a4 p0a5 p0a6 p0a7 p0a8 p0a9 p0a10 p0a11 p0a12 p0a13 p0a14 p0a15 p0a16 p0a17 p0a18 p0a19 p0a20 p0a21 p0a22 p0a23 p0a24 hv9 p0a_h0 p0a_h1 p0a_h2 p0a_h3 p0a_h4 p0a_h5 p0a_h6 p0a_h7 p0a_h8 p0a_h9 p0a_h10 p0a_h11 => ?_
 subst hv9
 obtain ⟨p1a1, p1a2, rfl, p1a_h0⟩ := hp1
 unfold dynamics_known_p at hp
 refine zen Tryz.func53 ?_
 have B0 : St E0 w X w X [] := St.start hX
 refine zz 2 ?_
 refine zn pn (.cells #[.slice p0a1 p0.height.length p0a2, .slice p0a3 p0.own.length p0a4, .slice p0a5 p0.other.length p0a6, .slice p0a7 p0.advisories.length p0a8, .int .i64 p0.pull, .int .i64 p0.near, .int .i64 p0.steps, .slice p0a9 p0.ownNoise.length p0a10, .slice p0a11 p0.otherNoise.length p0a12, .bool p0.alert.neg, .slice p0a13 p0.alert.ln.length p0a14, .slice p0a15 p0.alert.ld.length p0a16, .bool p0.strengthen.neg, .slice p0a17 p0.strengthen.ln.length p0a18, .slice p0a19 p0.strengthen.ld.length p0a20, .bool p0.reversal.neg, .slice p0a21 p0.reversal.ln.length p0a22, .slice p0a23 p0.reversal.ld.length p0a24] 30 (0, 0)) B0 ?_
 intro b3 w3 Y3 B3 j3 hu3
 refine zz 6 ?_
 refine zo 0 B3 ?_
 refine bndk hp fun y5 hy5 hp => ?_
 refine zc B3 (dynamics_Check_c _ X0 (X0_lt _) p0 _ ((hVp0.mono j3).mono Le.x0) y5 hy5) ?_
 rintro v6 w6 B6 j6 hu6 rfl
 refine zz 9 ?_
 refine zb 9 (b := ((y5) != 0)) (fun hc7 => ?_) (fun hc7 => ?_)
 ·
  have hp := ipb hc7 hp
  refine zz 9 ?_
  refine zr' (v := .int .i64 y5) ?_
  have hob := Option.some.inj hp
  subst hob
  exact ⟨B6.upd, _, rfl, rfl⟩
 have hp := iqb hc7 hp
 refine zz 7 ?_
 refine zo 0 B6 ?_
 refine zz 4 ?_
 refine bndk hp fun y9 hy9 hp => ?_
 refine zc B6 (dynamics_span_has_c _ X0 (X0_lt _) (SpanD.mk 0 (IntKind.i64.wrap ((p0.advisories.length : Int) - 1))) _ rfl p1 _ ⟨_, _, rfl, ((p1a_h0.mono (Le2 j3 j6)).mono Le.x0)⟩ y9 hy9) ?_
 rintro v10 w10 B10 j10 hu10 rfl
 refine zz 3 ?_
 refine zb 18 (b := !y9) (fun hc11 => ?_) (fun hc11 => ?_)
 ·
  have hp := ipb hc11 hp
  refine zz 8 ?_
  refine zr' (v := .int .i64 8) ?_
  have hob := Option.some.inj hp
  subst hob
  exact ⟨B10.upd, _, rfl, rfl⟩
 have hp := iqb hc11 hp
 refine zz 9 ?_
 refine zr' (v := .int .i64 0) ?_
 have hob := Option.some.inj hp
 subst hob
 exact ⟨B10.upd, _, rfl, rfl⟩
noncomputable def dynamics_Size_p (p0 : ModelD) : Option (Int × Int) :=
  (dynamics_Check_p p0).bind fun y5 => if ((y5) != 0) = true then (some (0, y5)) else ((dynamics_size_p p0).bind fun y9 => some (y9, 0))
theorem dynamics_Size_c (w : World) (X : Hid) (hX : ∀ k o, X k o → k < w.heap.size) (p0 : ModelD) (vp0 : Value) (hp0 : ModelDV (rd w X) vp0 p0) (y : Int × Int) (hp : dynamics_Size_p p0 = some y) : Calls Tryz.prog 23 #[vp0] w (Ret E0 w fun _ v => v = .tuple #[.int .i64 y.1, .int .i64 y.2]) := by
 have hVp0 := hp0
 refine ModelDV.op hp0 fun p0a1 p0a2 p0a3 p0a4 p0a5 p0a6 p0a7 p0a8 p0a9 p0a10 p0a11 p0a12 p0a13 p0a14 p0a15 p0a16 p0a17 p0a18 p0a19 p0a20 p0a21 p0a22 p0a23 p0a24 hv9 p0a_h0 p0a_h1 p0a_h2 p0a_h3 p0a_h4 p0a_h5 p0a_h6 p0a_h7 p0a_h8 p0a_h9 p0a_h10 p0a_h11 => ?_
 subst hv9
 unfold dynamics_Size_p at hp
 refine zen Tryz.func23 ?_
 have B0 : St E0 w X w X [] := St.start hX
 refine zz 2 ?_
 refine zn pn (.cells #[.slice p0a1 p0.height.length p0a2, .slice p0a3 p0.own.length p0a4, .slice p0a5 p0.other.length p0a6, .slice p0a7 p0.advisories.length p0a8, .int .i64 p0.pull, .int .i64 p0.near, .int .i64 p0.steps, .slice p0a9 p0.ownNoise.length p0a10, .slice p0a11 p0.otherNoise.length p0a12, .bool p0.alert.neg, .slice p0a13 p0.alert.ln.length p0a14, .slice p0a15 p0.alert.ld.length p0a16, .bool p0.strengthen.neg, .slice p0a17 p0.strengthen.ln.length p0a18, .slice p0a19 p0.strengthen.ld.length p0a20, .bool p0.reversal.neg, .slice p0a21 p0.reversal.ln.length p0a22, .slice p0a23 p0.reversal.ld.length p0a24] 30 (0, 0)) B0 ?_
 intro b3 w3 Y3 B3 j3 hu3
 refine zz 7 ?_
 refine zo 0 B3 ?_
 refine bndk hp fun y5 hy5 hp => ?_
 refine zc B3 (dynamics_Check_c _ X0 (X0_lt _) p0 _ ((hVp0.mono j3).mono Le.x0) y5 hy5) ?_
 rintro v6 w6 B6 j6 hu6 rfl
 refine zz 9 ?_
 refine zb 8 (b := ((y5) != 0)) (fun hc7 => ?_) (fun hc7 => ?_)
 ·
  have hp := ipb hc7 hp
  refine zz 10 ?_
  refine zr' (v := .tuple #[.int .i64 0, .int .i64 y5]) ?_
  have hob := Option.some.inj hp
  subst hob
  exact ⟨B6.upd, _, rfl, rfl⟩
 have hp := iqb hc7 hp
 refine zz 5 ?_
 refine zo 0 B6 ?_
 refine bndk hp fun y9 hy9 hp => ?_
 refine zc B6 (dynamics_size_c _ X0 (X0_lt _) p0 _ ((hVp0.mono (Le2 j3 j6)).mono Le.x0) y9 hy9) ?_
 rintro v10 w10 B10 j10 hu10 rfl
 refine zz 5 ?_
 refine zr' (v := .tuple #[.int .i64 y9, .int .i64 0]) ?_
 have hob := Option.some.inj hp
 subst hob
 exact ⟨B10.upd, _, rfl, rfl⟩
noncomputable def dynamics_Number_p (p0 : ModelD) (p1 : Int) (p2 : Int) : Option (Int × Int) :=
  (dynamics_known_p p0 ([p2])).bind fun y7 => if ((y7) != 0) = true then (some (0, y7)) else (if (p1) < 0 then (some (0, 8)) else ((dynamics_size_p p0).bind fun y13 => grd ((p0.advisories.length : Int) ≠ 0) <| if (p1) ≥ (IntKind.i64.wrap (Int.tdiv y13 (p0.advisories.length : Int))) then (some (0, 8)) else (some (IntKind.i64.wrap ((IntKind.i64.wrap ((p1) * (p0.advisories.length : Int))) + p2), 0))))
theorem dynamics_Number_c (w : World) (X : Hid) (hX : ∀ k o, X k o → k < w.heap.size) (p0 : ModelD) (vp0 : Value) (hp0 : ModelDV (rd w X) vp0 p0) (p1 : Int) (p2 : Int) (y : Int × Int) (hp : dynamics_Number_p p0 p1 p2 = some y) : Calls Tryz.prog 24 #[vp0, .int .i64 p1, .int .i64 p2] w (Ret E0 w fun _ v => v = .tuple #[.int .i64 y.1, .int .i64 y.2]) := by
 have hVp0 := hp0
 refine ModelDV.op hp0 fun p0a1 p0a2 p0a3 p0a4 p0a5 p0a6 p0a7 p0a8 p0a9 p0a10 p0a11 p0a12 p0a13 p0a14 p0a15 p0a16 p0a17 p0a18 p0a19 p0a20 p0a21 p0a22 p0a23 p0a24 hv9 p0a_h0 p0a_h1 p0a_h2 p0a_h3 p0a_h4 p0a_h5 p0a_h6 p0a_h7 p0a_h8 p0a_h9 p0a_h10 p0a_h11 => ?_
 subst hv9
 unfold dynamics_Number_p at hp
 refine zen Tryz.func24 ?_
 have B0 : St E0 w X w X [] := St.start hX
 refine zz 2 ?_
 refine zn pn (.cells #[.slice p0a1 p0.height.length p0a2, .slice p0a3 p0.own.length p0a4, .slice p0a5 p0.other.length p0a6, .slice p0a7 p0.advisories.length p0a8, .int .i64 p0.pull, .int .i64 p0.near, .int .i64 p0.steps, .slice p0a9 p0.ownNoise.length p0a10, .slice p0a11 p0.otherNoise.length p0a12, .bool p0.alert.neg, .slice p0a13 p0.alert.ln.length p0a14, .slice p0a15 p0.alert.ld.length p0a16, .bool p0.strengthen.neg, .slice p0a17 p0.strengthen.ln.length p0a18, .slice p0a19 p0.strengthen.ld.length p0a20, .bool p0.reversal.neg, .slice p0a21 p0.reversal.ln.length p0a22, .slice p0a23 p0.reversal.ld.length p0a24] 30 (0, 0)) B0 ?_
 intro b3 w3 Y3 B3 j3 hu3
 refine zz 7 ?_
 refine zo 0 B3 ?_
 refine zz 1 ?_
 refine zn (fun b => .slice (some ⟨b, 0, none⟩) 1 1) (.cells #[.int .i64 p2] 3 (0, 0)) B3 ?_
 intro b5 w5 Y5 B5 j5 hu5
 refine bndk hp fun y7 hy7 hp => ?_
 refine zc B5 (dynamics_known_c _ X0 (X0_lt _) p0 _ ((hVp0.mono (Le2 j3 j5)).mono Le.x0) ([p2]) _ ⟨_, _, rfl, (SlR.lit (El := IntAt) (size := 1) (n := 1) [⟨(p2 : Int), [.int .i64 p2]⟩] (B5.at0 0 rfl rfl) (List.forall_mem_cons.2 ⟨⟨rfl, fun r2 h2 b o h9 => h9⟩, (List.forall_mem_nil _)⟩) rfl (by decide))⟩ y7 hy7) ?_ (vs := #[.agg #[.slice p0a1 p0.height.length p0a2, .slice p0a3 p0.own.length p0a4, .slice p0a5 p0.other.length p0a6, .slice p0a7 p0.advisories.length p0a8, .int .i64 p0.pull, .int .i64 p0.near, .int .i64 p0.steps, .slice p0a9 p0.ownNoise.length p0a10, .slice p0a11 p0.otherNoise.length p0a12, .bool p0.alert.neg, .slice p0a13 p0.alert.ln.length p0a14, .slice p0a15 p0.alert.ld.length p0a16, .bool p0.strengthen.neg, .slice p0a17 p0.strengthen.ln.length p0a18, .slice p0a19 p0.strengthen.ld.length p0a20, .bool p0.reversal.neg, .slice p0a21 p0.reversal.ln.length p0a22, .slice p0a23 p0.reversal.ld.length p0a24], .slice (some ⟨b5, 0, none⟩) 1 1])
 rintro v8 w8 B8 j8 hu8 rfl
 refine zz 11 ?_
 refine zb 13 (b := ((y7) != 0)) (fun hc9 => ?_) (fun hc9 => ?_)
 ·
  have hp := ipb hc9 hp
  refine zz 11 ?_
  refine zr' (v := .tuple #[.int .i64 0, .int .i64 y7]) ?_
  have hob := Option.some.inj hp
  subst hob
  exact ⟨B8.upd, _, rfl, rfl⟩
 have hp := iqb hc9 hp
 refine zz 2 ?_
 refine zdr B8 ?_
 refine gz [0, 1, 2] ?_
 refine gt 20 (p := (p1) < 0) (fun ht10 => ?_) (fun ht10 => ?_)
 ·
  have hp := ip ht10 hp
  refine gz [3, 4, 5, 6, 7, 8, 9, 10, 11, 12] ?_
  refine gend (fun w11 Y11 B11 j11 => ?_)
  refine zz 11 ?_
  refine zr' (v := .tuple #[.int .i64 0, .int .i64 8]) ?_
  have hob := Option.some.inj hp
  subst hob
  exact ⟨B11.upd, _, rfl, rfl⟩
 have hp := iq ht10 hp
 refine gz [3] ?_
 refine gw 4 1 ?_
 refine gz [6] ?_
 refine gw 7 1 ?_
 refine gz [8] ?_
 have hc1_ := (Le2 j3 j5).trans j8
 refine bndk hp fun y13 hy13 hp => ?_
 refine gC 5 (fun w12 Y12 _ B12 j12 => (dynamics_size_c _ X0 (X0_lt _) p0 _ ((hVp0.mono (hc1_.trans j12)).mono Le.x0) y13 hy13)) ?_
 rintro v14 w12 Y14 w14 B12 j14 rfl
 have hob := grdp hp
 obtain ⟨hg15, hp⟩ := hob
 refine gH (v := .int .i64 (IntKind.i64.wrap (Int.tdiv y13 (p0.advisories.length : Int)))) 9 (fun w => run_quoV (a := y13) (b := (p0.advisories.length : Int)) rfl kr kr hg15 _) ?_
 refine gz [10, 11, 12] ?_
 refine gend (fun w16 Y16 B16 j16 => ?_)
 refine zz 1 ?_
 refine zt 17 (p := (p1) ≥ (IntKind.i64.wrap (Int.tdiv y13 (p0.advisories.length : Int)))) (fun ht17 => ?_) (fun ht17 => ?_)
 ·
  have hp := ip ht17 hp
  refine zz 10 ?_
  refine zr' (v := .tuple #[.int .i64 0, .int .i64 8]) ?_
  have hob := Option.some.inj hp
  subst hob
  exact ⟨B16.upd, _, rfl, rfl⟩
 have hp := iq ht17 hp
 refine zz 8 ?_
 refine zo 1 B16 ?_
 refine zz 9 ?_
 refine zr' (v := .tuple #[.int .i64 (IntKind.i64.wrap ((IntKind.i64.wrap ((p1) * (p0.advisories.length : Int))) + p2)), .int .i64 0]) ?_
 have hob := Option.some.inj hp
 subst hob
 exact ⟨B16.upd, _, rfl, rfl⟩
noncomputable def dynamics_Split_p (p0 : ModelD) (p1 : Int) : Option (Int × Int × Int) :=
  (dynamics_Check_p p0).bind fun y5 => if ((y5) != 0) = true then (some (0, 0, y5)) else (if (p1) < 0 then (some (0, 0, 8)) else ((dynamics_size_p p0).bind fun y10 => if (p1) ≥ y10 then (some (0, 0, 8)) else (grd ((p0.advisories.length : Int) ≠ 0) <| grd ((p0.advisories.length : Int) ≠ 0) <| some (IntKind.i64.wrap (Int.tdiv p1 (p0.advisories.length : Int)), Int.tmod p1 (p0.advisories.length : Int), 0))))
theorem dynamics_Split_c (w : World) (X : Hid) (hX : ∀ k o, X k o → k < w.heap.size) (p0 : ModelD) (vp0 : Value) (hp0 : ModelDV (rd w X) vp0 p0) (p1 : Int) (y : Int × Int × Int) (hp : dynamics_Split_p p0 p1 = some y) : Calls Tryz.prog 13 #[vp0, .int .i64 p1] w (Ret E0 w fun _ v => v = .tuple #[.int .i64 y.1, .int .i64 y.2.1, .int .i64 y.2.2]) := by
 have hVp0 := hp0
 refine ModelDV.op hp0 fun p0a1 p0a2 p0a3 p0a4 p0a5 p0a6 p0a7 p0a8 p0a9 p0a10 p0a11 p0a12 p0a13 p0a14 p0a15 p0a16 p0a17 p0a18 p0a19 p0a20 p0a21 p0a22 p0a23 p0a24 hv9 p0a_h0 p0a_h1 p0a_h2 p0a_h3 p0a_h4 p0a_h5 p0a_h6 p0a_h7 p0a_h8 p0a_h9 p0a_h10 p0a_h11 => ?_
 subst hv9
 unfold dynamics_Split_p at hp
 refine zen Tryz.func13 ?_
 have B0 : St E0 w X w X [] := St.start hX
 refine zz 2 ?_
 refine zn pn (.cells #[.slice p0a1 p0.height.length p0a2, .slice p0a3 p0.own.length p0a4, .slice p0a5 p0.other.length p0a6, .slice p0a7 p0.advisories.length p0a8, .int .i64 p0.pull, .int .i64 p0.near, .int .i64 p0.steps, .slice p0a9 p0.ownNoise.length p0a10, .slice p0a11 p0.otherNoise.length p0a12, .bool p0.alert.neg, .slice p0a13 p0.alert.ln.length p0a14, .slice p0a15 p0.alert.ld.length p0a16, .bool p0.strengthen.neg, .slice p0a17 p0.strengthen.ln.length p0a18, .slice p0a19 p0.strengthen.ld.length p0a20, .bool p0.reversal.neg, .slice p0a21 p0.reversal.ln.length p0a22, .slice p0a23 p0.reversal.ld.length p0a24] 30 (0, 0)) B0 ?_
 intro b3 w3 Y3 B3 j3 hu3
 refine zz 8 ?_
 refine zo 0 B3 ?_
 refine bndk hp fun y5 hy5 hp => ?_
 refine zc B3 (dynamics_Check_c _ X0 (X0_lt _) p0 _ ((hVp0.mono j3).mono Le.x0) y5 hy5) ?_
 rintro v6 w6 B6 j6 hu6 rfl
 refine zz 11 ?_
 refine zb 10 (b := ((y5) != 0)) (fun hc7 => ?_) (fun hc7 => ?_)
 ·
  have hp := ipb hc7 hp
  refine zz 12 ?_
  refine zr' (v := .tuple #[.int .i64 0, .int .i64 0, .int .i64 y5]) ?_
  have hob := Option.some.inj hp
  subst hob
  exact ⟨B6.upd, _, rfl, rfl⟩
 have hp := iqb hc7 hp
 refine zz 6 ?_
 refine zt 17 (p := (p1) < 0) (fun ht8 => ?_) (fun ht8 => ?_)
 ·
  have hp := ip ht8 hp
  refine zz 19 ?_
  refine zr' (v := .tuple #[.int .i64 0, .int .i64 0, .int .i64 8]) ?_
  have hob := Option.some.inj hp
  subst hob
  exact ⟨B6.upd, _, rfl, rfl⟩
 have hp := iq ht8 hp
 refine zz 1 ?_
 refine zo 0 B6 ?_
 refine bndk hp fun y10 hy10 hp => ?_
 refine zc B6 (dynamics_size_c _ X0 (X0_lt _) p0 _ ((hVp0.mono (Le2 j3 j6)).mono Le.x0) y10 hy10) ?_
 rintro v11 w11 B11 j11 hu11 rfl
 refine zz 5 ?_
 refine zt 14 (p := (p1) ≥ y10) (fun ht12 => ?_) (fun ht12 => ?_)
 ·
  have hp := ip ht12 hp
  refine zz 11 ?_
  refine zr' (v := .tuple #[.int .i64 0, .int .i64 0, .int .i64 8]) ?_
  have hob := Option.some.inj hp
  subst hob
  exact ⟨B11.upd, _, rfl, rfl⟩
 have hp := iq ht12 hp
 refine zz 5 ?_
 refine zdr B11 ?_
 refine gz [0, 1] ?_
 refine gw 2 0 ?_
 refine gz [3] ?_
 have hob := grdp hp
 obtain ⟨hg13, hp⟩ := hob
 refine gH (v := .int .i64 (IntKind.i64.wrap (Int.tdiv p1 (p0.advisories.length : Int)))) 4 (fun w => run_quoV (a := p1) (b := (p0.advisories.length : Int)) rfl kr kr hg13 _) ?_
 refine gz [5, 6] ?_
 refine gw 7 0 ?_
 refine gz [8] ?_
 have hob := grdp hp
 obtain ⟨hg14, hp⟩ := hob
 refine gH (v := .int .i64 (Int.tmod p1 (p0.advisories.length : Int))) 9 (fun w => run_remV (a := p1) (b := (p0.advisories.length : Int)) rfl kr kr hg14 _) ?_
 refine gz [10, 11, 12] ?_
 refine gend (fun w15 Y15 B15 j15 => ?_)
 refine zz 2 ?_
 refine zr' (v := .tuple #[.int .i64 (IntKind.i64.wrap (Int.tdiv p1 (p0.advisories.length : Int))), .int .i64 (Int.tmod p1 (p0.advisories.length : Int)), .int .i64 0]) ?_
 have hob := Option.some.inj hp
 subst hob
 exact ⟨B15.upd, _, rfl, rfl⟩
noncomputable def dynamics_respond_p (p0 : ModelD) (p1 : Int) (p2 : Int) : Option (Int) :=
  (ix p0.advisories (p2)).bind fun x4 => if ((p2) == 0) = true then (some p1) else (if (p1) < x4.lo then ((some (if (x4.lo) < (IntKind.i64.wrap ((p1) + p0.pull)) then x4.lo else IntKind.i64.wrap ((p1) + p0.pull))).bind fun z11 => some z11) else (if (p1) > x4.hi then ((some (if (x4.hi) > (IntKind.i64.wrap ((p1) - p0.pull)) then x4.hi else IntKind.i64.wrap ((p1) - p0.pull))).bind fun z13 => some z13) else (some p1)))
theorem dynamics_respond_c (w : World) (X : Hid) (hX : ∀ k o, X k o → k < w.heap.size) (p0 : ModelD) (vp0 : Value) (hp0 : ModelDV (rd w X) vp0 p0) (p1 : Int) (p2 : Int) (y : Int) (hp : dynamics_respond_p p0 p1 p2 = some y) : Calls Tryz.prog 68 #[vp0, .int .i64 p1, .int .i64 p2] w (Ret E0 w fun _ v => v = .int .i64 y) := by
 have hVp0 := hp0
 refine ModelDV.op hp0 fun p0a1 p0a2 p0a3 p0a4 p0a5 p0a6 p0a7 p0a8 p0a9 p0a10 p0a11 p0a12 p0a13 p0a14 p0a15 p0a16 p0a17 p0a18 p0a19 p0a20 p0a21 p0a22 p0a23 p0a24 hv9 p0a_h0 p0a_h1 p0a_h2 p0a_h3 p0a_h4 p0a_h5 p0a_h6 p0a_h7 p0a_h8 p0a_h9 p0a_h10 p0a_h11 => ?_
 subst hv9
 unfold dynamics_respond_p at hp
 refine zen Tryz.func68 ?_
 have B0 : St E0 w X w X [] := St.start hX
 refine zz 2 ?_
 refine zn pn (.cells #[.slice p0a1 p0.height.length p0a2, .slice p0a3 p0.own.length p0a4, .slice p0a5 p0.other.length p0a6, .slice p0a7 p0.advisories.length p0a8, .int .i64 p0.pull, .int .i64 p0.near, .int .i64 p0.steps, .slice p0a9 p0.ownNoise.length p0a10, .slice p0a11 p0.otherNoise.length p0a12, .bool p0.alert.neg, .slice p0a13 p0.alert.ln.length p0a14, .slice p0a15 p0.alert.ld.length p0a16, .bool p0.strengthen.neg, .slice p0a17 p0.strengthen.ln.length p0a18, .slice p0a19 p0.strengthen.ld.length p0a20, .bool p0.reversal.neg, .slice p0a21 p0.reversal.ln.length p0a22, .slice p0a23 p0.reversal.ld.length p0a24] 30 (0, 0)) B0 ?_
 intro b3 w3 Y3 B3 j3 hu3
 refine zz 7 ?_
 refine zo 0 B3 ?_
 refine zz 1 ?_
 refine bndk hp fun x4 hx4 hp => ?_
 have hob := ix_some hx4
 obtain ⟨hzx4, hqx4⟩ := hob
 have hob := p0a_h3.opn hqx4
 obtain ⟨be5, oe5, rfl, j5, hEe5⟩ := hob
 have e5_at : At (rd w X) ⟨be5, oe5 + (p2).toNat * 3, none⟩ [.int .u8 x4.sense, .int .i64 x4.lo, .int .i64 x4.hi] := hEe5
 refine zi (b := be5) (off := oe5) (len := p0.advisories.length) (cap := p0a8) (kd := .i64) (i := p2) 3 (oe5 + (p2).toNat * 3) ?_ (h0 := hzx4) (h1 := (ix_b hzx4 j5))
 refine zl ((e5_at.mono j3)).cells ?_
 refine zn pn (.cells #[.int .u8 0, .int .i64 0, .int .i64 0] 60 (0, 0)) B3 ?_
 intro b7 w7 Y7 B7 j7 hu7
 refine zx 0 #[.int .u8 x4.sense, .int .i64 x4.lo, .int .i64 x4.hi] B7 ?_
 intro w8 B8 j8
 refine zz 10 ?_
 refine zb 13 (b := ((p2) == 0)) (fun hc9 => ?_) (fun hc9 => ?_)
 ·
  have hp := ipb hc9 hp
  refine zz 10 ?_
  refine zr' (v := .int .i64 p1) ?_
  have hob := Option.some.inj hp
  subst hob
  exact ⟨B8.upd, _, rfl, rfl⟩
 have hp := iqb hc9 hp
 refine zz 5 ?_
 refine zo 0 B8 ?_
 refine zz 4 ?_
 refine zt 17 (p := (p1) < x4.lo) (fun ht10 => ?_) (fun ht10 => ?_)
 ·
  have hp := ip ht10 hp
  refine zz 5 ?_
  refine zo 1 B8 ?_
  refine zz 2 ?_
  refine zo 0 B8 ?_
  refine bndk hp fun z11 hz11 hp => ?_
  refine zz 1 ?_
  refine zs 28 (v := .int .i64 (if (x4.lo) < (IntKind.i64.wrap ((p1) + p0.pull)) then x4.lo else IntKind.i64.wrap ((p1) + p0.pull))) (v' := .int .i64 z11) (vint (Option.some.inj hz11)) ?_
  refine zz 6 ?_
  refine zr' (v := .int .i64 z11) ?_
  have hob := Option.some.inj hp
  subst hob
  exact ⟨B8.upd, _, rfl, rfl⟩
 have hp := iq ht10 hp
 refine zz 5 ?_
 refine zo 0 B8 ?_
 refine zz 4 ?_
 refine zt 29 (p := (p1) > x4.hi) (fun ht12 => ?_) (fun ht12 => ?_)
 ·
  have hp := ip ht12 hp
  refine zz 5 ?_
  refine zo 1 B8 ?_
  refine zz 2 ?_
  refine zo 0 B8 ?_
  refine bndk hp fun z13 hz13 hp => ?_
  refine zz 1 ?_
  refine zs 40 (v := .int .i64 (if (x4.hi) > (IntKind.i64.wrap ((p1) - p0.pull)) then x4.hi else IntKind.i64.wrap ((p1) - p0.pull))) (v' := .int .i64 z13) (vint (Option.some.inj hz13)) ?_
  refine zz 6 ?_
  refine zr' (v := .int .i64 z13) ?_
  have hob := Option.some.inj hp
  subst hob
  exact ⟨B8.upd, _, rfl, rfl⟩
 have hp := iq ht12 hp
 refine zz 11 ?_
 refine zr' (v := .int .i64 p1) ?_
 have hob := Option.some.inj hp
 subst hob
 exact ⟨B8.upd, _, rfl, rfl⟩
noncomputable def dynamics_Respond_p (p0 : ModelD) (p1 : Int) (p2 : Int) : Option (Int × Int) :=
  (dynamics_Check_p p0).bind fun y5 => if ((y5) != 0) = true then (some (0, y5)) else ((dynamics_within_p (100 : Int)).bind fun y9 => (dynamics_within_1_p ([p1]) y9).bind fun y14 => if (!y14) = true then (some (0, 1)) else ((dynamics_known_p p0 ([p2])).bind fun y20 => if ((y20) != 0) = true then (some (0, y20)) else ((dynamics_respond_p p0 (p1) (p2)).bind fun y24 => some (y24, 0))))
theorem dynamics_Respond_c (w : World) (X : Hid) (hX : ∀ k o, X k o → k < w.heap.size) (p0 : ModelD) (vp0 : Value) (hp0 : ModelDV (rd w X) vp0 p0) (p1 : Int) (p2 : Int) (y : Int × Int) (hp : dynamics_Respond_p p0 p1 p2 = some y) : Calls Tryz.prog 25 #[vp0, .int .i64 p1, .int .i64 p2] w (Ret E0 w fun _ v => v = .tuple #[.int .i64 y.1, .int .i64 y.2]) := by
 have hVp0 := hp0
 refine ModelDV.op hp0 fun p0a1 p0a2 p0a3 p0a4 p0a5 p0a6 p0a7 p0a8 p0a9 p0a10 p0a11 p0a12 p0a13 p0a14 p0a15 p0a16 p0a17 p0a18 p0a19 p0a20 p0a21 p0a22 p0a23 p0a24 hv9 p0a_h0 p0a_h1 p0a_h2 p0a_h3 p0a_h4 p0a_h5 p0a_h6 p0a_h7 p0a_h8 p0a_h9 p0a_h10 p0a_h11 => ?_
 subst hv9
 unfold dynamics_Respond_p at hp
 refine zen Tryz.func25 ?_
 have B0 : St E0 w X w X [] := St.start hX
 refine zz 2 ?_
 refine zn pn (.cells #[.slice p0a1 p0.height.length p0a2, .slice p0a3 p0.own.length p0a4, .slice p0a5 p0.other.length p0a6, .slice p0a7 p0.advisories.length p0a8, .int .i64 p0.pull, .int .i64 p0.near, .int .i64 p0.steps, .slice p0a9 p0.ownNoise.length p0a10, .slice p0a11 p0.otherNoise.length p0a12, .bool p0.alert.neg, .slice p0a13 p0.alert.ln.length p0a14, .slice p0a15 p0.alert.ld.length p0a16, .bool p0.strengthen.neg, .slice p0a17 p0.strengthen.ln.length p0a18, .slice p0a19 p0.strengthen.ld.length p0a20, .bool p0.reversal.neg, .slice p0a21 p0.reversal.ln.length p0a22, .slice p0a23 p0.reversal.ld.length p0a24] 30 (0, 0)) B0 ?_
 intro b3 w3 Y3 B3 j3 hu3
 refine zz 7 ?_
 refine zo 0 B3 ?_
 refine bndk hp fun y5 hy5 hp => ?_
 refine zc B3 (dynamics_Check_c _ X0 (X0_lt _) p0 _ ((hVp0.mono j3).mono Le.x0) y5 hy5) ?_
 rintro v6 w6 B6 j6 hu6 rfl
 refine zz 11 ?_
 refine zb 12 (b := ((y5) != 0)) (fun hc7 => ?_) (fun hc7 => ?_)
 ·
  have hp := ipb hc7 hp
  refine zz 11 ?_
  refine zr' (v := .tuple #[.int .i64 0, .int .i64 y5]) ?_
  have hob := Option.some.inj hp
  subst hob
  exact ⟨B6.upd, _, rfl, rfl⟩
 have hp := iqb hc7 hp
 refine zz 3 ?_
 refine bndk hp fun y9 hy9 hp => ?_
 refine zc B6 (dynamics_within_c _ X0 (X0_lt _) (100 : Int) y9 hy9) ?_
 rintro v10 w10 B10 j10 hu10 ⟨u10_0_b0, u10_0_b1, rfl, u10_0_h0, u10_0_h1⟩
 have hAu10_0_b0 : At (rd w10 Y3) ⟨u10_0_b0, 0, none⟩ [.func (.func 71) #[] #[]] := (At.mono (Le.new B6.lt) u10_0_h0)
 have hAu10_0_b1 : At (rd w10 Y3) ⟨u10_0_b1, 0, none⟩ [.int .i64 y9] := (At.mono (Le.new B6.lt) u10_0_h1)
 refine zz 1 ?_
 refine zn (fun b => .slice (some ⟨b, 0, none⟩) 1 1) (.cells #[.int .i64 p1] 3 (0, 0)) B10 ?_
 intro b12 w12 Y12 B12 j12 hu12
 refine bndk hp fun y14 hy14 hp => ?_
 refine zc B12 (dynamics_within_1_c _ X0 (X0_lt _) ([p1]) _ ⟨_, _, rfl, (SlR.lit (El := IntAt) (size := 1) (n := 1) [⟨(p1 : Int), [.int .i64 p1]⟩] (B12.at0 0 rfl rfl) (List.forall_mem_cons.2 ⟨⟨rfl, fun r2 h2 b o h9 => h9⟩, (List.forall_mem_nil _)⟩) rfl (by decide))⟩ _ ((hAu10_0_b0.mono j12).mono Le.x0) y9 _ ((hAu10_0_b1.mono j12).mono Le.x0) y14 hy14) ?_ (vs := #[.slice (some ⟨b12, 0, none⟩) 1 1, .pointer (some ⟨u10_0_b0, 0, none⟩), .pointer (some ⟨u10_0_b1, 0, none⟩)])
 rintro v15 w15 B15 j15 hu15 rfl
 refine zz 4 ?_
 refine zb 16 (b := !y14) (fun hc16 => ?_) (fun hc16 => ?_)
 ·
  have hp := ipb hc16 hp
  refine zz 10 ?_
  refine zr' (v := .tuple #[.int .i64 0, .int .i64 1]) ?_
  have hob := Option.some.inj hp
  subst hob
  exact ⟨B15.upd, _, rfl, rfl⟩
 have hp := iqb hc16 hp
 refine zz 7 ?_
 refine zo 1 B15 ?_
 refine zz 1 ?_
 refine zn (fun b => .slice (some ⟨b, 0, none⟩) 1 1) (.cells #[.int .i64 p2] 3 (0, 0)) B15 ?_
 intro b18 w18 Y18 B18 j18 hu18
 have hc1_ := (Le5 j3 j6 j10 j12 j15).trans j18
 refine bndk hp fun y20 hy20 hp => ?_
 refine zc B18 (dynamics_known_c _ X0 (X0_lt _) p0 _ ((hVp0.mono hc1_).mono Le.x0) ([p2]) _ ⟨_, _, rfl, (SlR.lit (El := IntAt) (size := 1) (n := 1) [⟨(p2 : Int), [.int .i64 p2]⟩] (B18.at0 0 rfl rfl) (List.forall_mem_cons.2 ⟨⟨rfl, fun r2 h2 b o h9 => h9⟩, (List.forall_mem_nil _)⟩) rfl (by decide))⟩ y20 hy20) ?_ (vs := #[.agg #[.slice p0a1 p0.height.length p0a2, .slice p0a3 p0.own.length p0a4, .slice p0a5 p0.other.length p0a6, .slice p0a7 p0.advisories.length p0a8, .int .i64 p0.pull, .int .i64 p0.near, .int .i64 p0.steps, .slice p0a9 p0.ownNoise.length p0a10, .slice p0a11 p0.otherNoise.length p0a12, .bool p0.alert.neg, .slice p0a13 p0.alert.ln.length p0a14, .slice p0a15 p0.alert.ld.length p0a16, .bool p0.strengthen.neg, .slice p0a17 p0.strengthen.ln.length p0a18, .slice p0a19 p0.strengthen.ld.length p0a20, .bool p0.reversal.neg, .slice p0a21 p0.reversal.ln.length p0a22, .slice p0a23 p0.reversal.ld.length p0a24], .slice (some ⟨b18, 0, none⟩) 1 1])
 rintro v21 w21 B21 j21 hu21 rfl
 refine zz 9 ?_
 refine zb 27 (b := ((y20) != 0)) (fun hc22 => ?_) (fun hc22 => ?_)
 ·
  have hp := ipb hc22 hp
  refine zz 10 ?_
  refine zr' (v := .tuple #[.int .i64 0, .int .i64 y20]) ?_
  have hob := Option.some.inj hp
  subst hob
  exact ⟨B21.upd, _, rfl, rfl⟩
 have hp := iqb hc22 hp
 refine zz 5 ?_
 refine zo 2 B21 ?_
 refine zz 2 ?_
 have hc2_ := hc1_.trans j21
 refine bndk hp fun y24 hy24 hp => ?_
 refine zc B21 (dynamics_respond_c _ X0 (X0_lt _) p0 _ ((hVp0.mono hc2_).mono Le.x0) (p1) (p2) y24 hy24) ?_
 rintro v25 w25 B25 j25 hu25 rfl
 refine zz 5 ?_
 refine zr' (v := .tuple #[.int .i64 y24, .int .i64 0]) ?_
 have hob := Option.some.inj hp
 subst hob
 exact ⟨B25.upd, _, rfl, rfl⟩
noncomputable def clearwaylaw24_of_p (p0 : Int) (p1 : Int) : Option (Raw) :=
  (rat_Of_p (p0) (p1)).bind fun y5 => some y5.1
theorem clearwaylaw24_of_c (w : World) (X : Hid) (hX : ∀ k o, X k o → k < w.heap.size) (p0 : Int) (p1 : Int) (y : Raw) (hp : clearwaylaw24_of_p p0 p1 = some y) : Calls Tryz.prog 51 #[.int .i64 p0, .int .i64 p1] w (Ret E0 w fun w' v => RawV (rd w' (old w)) v y) := by
 unfold clearwaylaw24_of_p at hp
 refine zen Tryz.func51 ?_
 have B0 : St E0 w X w X [] := St.start hX
 refine zz 2 ?_
 refine zn pn (.cells #[.bool false, .slice none 0 0, .slice none 0 0] 28 (0, 0)) B0 ?_
 intro b3 w3 Y3 B3 j3 hu3
 refine zz 6 ?_
 refine bndk hp fun y5 hy5 hp => ?_
 refine zc B3 (rat_Of_c _ X0 (X0_lt _) (p0) (p1) y5 hy5) ?_
 rintro v6 w6 B6 j6 hu6 ⟨uu6_0, rfl, ⟨u6_0_1, u6_0_2, u6_0_3, u6_0_4, u6_0_5, u6_0_6, rfl, u6_0__h0, u6_0__h1⟩⟩
 have hob := u6_0__h0.hlen
 subst hob
 have hob := u6_0__h1.hlen
 subst hob
 refine zz 3 ?_
 refine zn pn (.cells #[.bool false, .slice none 0 0, .slice none 0 0] 28 (0, 0)) B6 ?_
 intro b8 w8 Y8 B8 j8 hu8
 refine zx 0 #[.bool y5.1.neg, .slice u6_0_1 y5.1.ln.length u6_0_3, .slice u6_0_4 y5.1.ld.length u6_0_6] B8 ?_
 intro w9 B9 j9
 refine zz 5 ?_
 refine zo 0 B9 ?_
 refine zx 1 #[.bool y5.1.neg, .slice u6_0_1 y5.1.ln.length u6_0_3, .slice u6_0_4 y5.1.ld.length u6_0_6] B9 ?_
 intro w10 B10 j10
 refine zz 3 ?_
 refine zrS [.cell 4 28] (v := .agg #[.bool y5.1.neg, .slice u6_0_1 y5.1.ln.length u6_0_3, .slice u6_0_4 y5.1.ld.length u6_0_6]) (Res.cM B10 1 Res.nil) ?_
 have hob := Option.some.inj hp
 subst hob
 exact ⟨B10.upd, _, rfl, ⟨_, _, _, _, _, _, rfl, ((u6_0__h0.mono (Le.own B3.lt B3.upd.size (Le3 j8 j9 j10)))).mono Le.orr, ((u6_0__h1.mono (Le.own B3.lt B3.upd.size (Le3 j8 j9 j10)))).mono Le.orr⟩⟩
noncomputable def clearwaylaw24_small_p : Option (ModelD) :=
  (rat_From_p (1 : Int)).bind fun y5 => (clearwaylaw24_of_p (1 : Int) (10 : Int)).bind fun y18 => some (ModelD.mk ([(-100), 0, 100]) ([0, 10]) ([0]) ([(BoundsD.mk 0 0 0), (BoundsD.mk 1 10 20)]) 5 50 0 ([(NoiseD.mk 0 y5)]) ([(NoiseD.mk 0 y5)]) y18 Raw.zero Raw.zero)
theorem clearwaylaw24_small_c (w : World) (X : Hid) (hX : ∀ k o, X k o → k < w.heap.size)  (y : ModelD) (hp : clearwaylaw24_small_p = some y) : Calls Tryz.prog 50 #[] w (Ret E0 w fun w' v => ModelDV (rd w' (old w)) v y) := by
 unfold clearwaylaw24_small_p at hp
 refine zen Tryz.func50 ?_
 have B0 : St E0 w X w X [] := St.start hX
 refine zz 2 ?_
 refine zn pn (.cells #[.slice none 0 0, .slice none 0 0, .slice none 0 0, .slice none 0 0, .int .i64 0, .int .i64 0, .int .i64 0, .slice none 0 0, .slice none 0 0, .bool false, .slice none 0 0, .slice none 0 0, .bool false, .slice none 0 0, .slice none 0 0, .bool false, .slice none 0 0, .slice none 0 0] 30 (0, 0)) B0 ?_
 intro b3 w3 Y3 B3 j3 hu3
 refine zz 4 ?_
 refine bndk hp fun y5 hy5 hp => ?_
 refine zc B3 (rat_From_c _ X0 (X0_lt _) (1 : Int) y5 hy5) ?_
 rintro v6 w6 B6 j6 hu6 ⟨u6_0_1, u6_0_2, u6_0_3, u6_0_4, u6_0_5, u6_0_6, rfl, u6_0__h0, u6_0__h1⟩
 have hob := u6_0__h0.hlen
 subst hob
 have hob := u6_0__h1.hlen
 subst hob
 refine zz 1 ?_
 refine zn (fun b => .slice (some ⟨b, 0, none⟩) 1 1) (.cells #[.int .i64 0, .bool y5.neg, .slice u6_0_1 y5.ln.length u6_0_3, .slice u6_0_4 y5.ld.length u6_0_6] 58 (0, 0)) B6 ?_
 intro b8 w8 Y8 B8 j8 hu8
 refine zz 5 ?_
 refine zn (fun b => .slice (some ⟨b, 0, none⟩) 3 3) (.cells #[.int .i64 (-100), .int .i64 0, .int .i64 100] 3 (0, 0)) B8 ?_
 intro b10 w10 Y10 B10 j10 hu10
 refine zn (fun b => .slice (some ⟨b, 0, none⟩) 2 2) (.cells #[.int .i64 0, .int .i64 10] 3 (0, 0)) B10 ?_
 intro b12 w12 Y12 B12 j12 hu12
 refine zn (fun b => .slice (some ⟨b, 0, none⟩) 1 1) (.cells #[.int .i64 0] 3 (0, 0)) B12 ?_
 intro b14 w14 Y14 B14 j14 hu14
 refine zz 2 ?_
 refine zn (fun b => .slice (some ⟨b, 0, none⟩) 2 2) (.cells #[.int .u8 0, .int .i64 0, .int .i64 0, .int .u8 1, .int .i64 10, .int .i64 20] 60 (0, 0)) B14 ?_
 intro b16 w16 Y16 B16 j16 hu16
 refine zz 2 ?_
 refine bndk hp fun y18 hy18 hp => ?_
 refine zc B16 (clearwaylaw24_of_c _ X0 (X0_lt _) (1 : Int) (10 : Int) y18 hy18) ?_
 rintro v19 w19 B19 j19 hu19 ⟨u19_0_1, u19_0_2, u19_0_3, u19_0_4, u19_0_5, u19_0_6, rfl, u19_0__h0, u19_0__h1⟩
 have hob := u19_0__h0.hlen
 subst hob
 have hob := u19_0__h1.hlen
 subst hob
 refine zz 1 ?_
 refine zx 5 #[.slice (some ⟨b10, 0, none⟩) 3 3, .slice (some ⟨b12, 0, none⟩) 2 2, .slice (some ⟨b14, 0, none⟩) 1 1, .slice (some ⟨b16, 0, none⟩) 2 2, .int .i64 5, .int .i64 50, .int .i64 0, .slice (some ⟨b8, 0, none⟩) 1 1, .slice (some ⟨b8, 0, none⟩) 1 1, .bool y18.neg, .slice u19_0_1 y18.ln.length u19_0_3, .slice u19_0_4 y18.ld.length u19_0_6, .bool false, .slice none 0 0, .slice none 0 0, .bool false, .slice none 0 0, .slice none 0 0] B19 ?_
 intro w20 B20 j20
 refine zz 3 ?_
 refine zrS [.cell 0 30] (v := .agg #[.slice (some ⟨b10, 0, none⟩) 3 3, .slice (some ⟨b12, 0, none⟩) 2 2, .slice (some ⟨b14, 0, none⟩) 1 1, .slice (some ⟨b16, 0, none⟩) 2 2, .int .i64 5, .int .i64 50, .int .i64 0, .slice (some ⟨b8, 0, none⟩) 1 1, .slice (some ⟨b8, 0, none⟩) 1 1, .bool y18.neg, .slice u19_0_1 y18.ln.length u19_0_3, .slice u19_0_4 y18.ld.length u19_0_6, .bool false, .slice none 0 0, .slice none 0 0, .bool false, .slice none 0 0, .slice none 0 0]) (Res.cM B20 5 Res.nil) ?_
 have hob := St.pubAt 3 B20 rfl
 obtain ⟨Y21, hSx21, j21, hat21, hatN21⟩ := hob
 have B21 : St E0 w X w20 Y21 [(b16, .cells #[.int .u8 0, .int .i64 0, .int .i64 0, .int .u8 1, .int .i64 10, .int .i64 20] 60 (0, 0)), (b14, .cells #[.int .i64 0] 3 (0, 0)), (b12, .cells #[.int .i64 0, .int .i64 10] 3 (0, 0)), (b8, .cells #[.int .i64 0, .bool y5.neg, .slice u6_0_1 y5.ln.length u6_0_3, .slice u6_0_4 y5.ld.length u6_0_6] 58 (0, 0)), (b3, .cells #[.slice (some ⟨b10, 0, none⟩) 3 3, .slice (some ⟨b12, 0, none⟩) 2 2, .slice (some ⟨b14, 0, none⟩) 1 1, .slice (some ⟨b16, 0, none⟩) 2 2, .int .i64 5, .int .i64 50, .int .i64 0, .slice (some ⟨b8, 0, none⟩) 1 1, .slice (some ⟨b8, 0, none⟩) 1 1, .bool y18.neg, .slice u19_0_1 y18.ln.length u19_0_3, .slice u19_0_4 y18.ld.length u19_0_6, .bool false, .slice none 0 0, .slice none 0 0, .bool false, .slice none 0 0, .slice none 0 0] 30 (0, 0))] := hSx21
 have hR21 : Ints (rd w20 (orN Y21 w.heap.size)) (some ⟨b10, 0, none⟩) 3 3 [(-100), 0, 100] := (SlR.lit (El := IntAt) (size := 1) (n := 3) [⟨((-100) : Int), [.int .i64 (-100)]⟩, ⟨(0 : Int), [.int .i64 0]⟩, ⟨(100 : Int), [.int .i64 100]⟩] (hatN21 _ (Nat.le_refl _)) (List.forall_mem_cons.2 ⟨⟨rfl, fun r2 h2 b o h9 => h9⟩, (List.forall_mem_cons.2 ⟨⟨rfl, fun r2 h2 b o h9 => h9⟩, (List.forall_mem_cons.2 ⟨⟨rfl, fun r2 h2 b o h9 => h9⟩, (List.forall_mem_nil _)⟩)⟩)⟩) rfl (by decide))
 have hob := St.pubAt 2 B21 rfl
 obtain ⟨Y22, hSx22, j22, hat22, hatN22⟩ := hob
 have B22 : St E0 w X w20 Y22 [(b16, .cells #[.int .u8 0, .int .i64 0, .int .i64 0, .int .u8 1, .int .i64 10, .int .i64 20] 60 (0, 0)), (b14, .cells #[.int .i64 0] 3 (0, 0)), (b8, .cells #[.int .i64 0, .bool y5.neg, .slice u6_0_1 y5.ln.length u6_0_3, .slice u6_0_4 y5.ld.length u6_0_6] 58 (0, 0)), (b3, .cells #[.slice (some ⟨b10, 0, none⟩) 3 3, .slice (some ⟨b12, 0, none⟩) 2 2, .slice (some ⟨b14, 0, none⟩) 1 1, .slice (some ⟨b16, 0, none⟩) 2 2, .int .i64 5, .int .i64 50, .int .i64 0, .slice (some ⟨b8, 0, none⟩) 1 1, .slice (some ⟨b8, 0, none⟩) 1 1, .bool y18.neg, .slice u19_0_1 y18.ln.length u19_0_3, .slice u19_0_4 y18.ld.length u19_0_6, .bool false, .slice none 0 0, .slice none 0 0, .bool false, .slice none 0 0, .slice none 0 0] 30 (0, 0))] := hSx22
 have hR22 : Ints (rd w20 (orN Y22 w.heap.size)) (some ⟨b12, 0, none⟩) 2 2 [0, 10] := (SlR.lit (El := IntAt) (size := 1) (n := 2) [⟨(0 : Int), [.int .i64 0]⟩, ⟨(10 : Int), [.int .i64 10]⟩] (hatN22 _ (Nat.le_refl _)) (List.forall_mem_cons.2 ⟨⟨rfl, fun r2 h2 b o h9 => h9⟩, (List.forall_mem_cons.2 ⟨⟨rfl, fun r2 h2 b o h9 => h9⟩, (List.forall_mem_nil _)⟩)⟩) rfl (by decide))
 have hob := St.pubAt 1 B22 rfl
 obtain ⟨Y23, hSx23, j23, hat23, hatN23⟩ := hob
 have B23 : St E0 w X w20 Y23 [(b16, .cells #[.int .u8 0, .int .i64 0, .int .i64 0, .int .u8 1, .int .i64 10, .int .i64 20] 60 (0, 0)), (b8, .cells #[.int .i64 0, .bool y5.neg, .slice u6_0_1 y5.ln.length u6_0_3, .slice u6_0_4 y5.ld.length u6_0_6] 58 (0, 0)), (b3, .cells #[.slice (some ⟨b10, 0, none⟩) 3 3, .slice (some ⟨b12, 0, none⟩) 2 2, .slice (some ⟨b14, 0, none⟩) 1 1, .slice (some ⟨b16, 0, none⟩) 2 2, .int .i64 5, .int .i64 50, .int .i64 0, .slice (some ⟨b8, 0, none⟩) 1 1, .slice (some ⟨b8, 0, none⟩) 1 1, .bool y18.neg, .slice u19_0_1 y18.ln.length u19_0_3, .slice u19_0_4 y18.ld.length u19_0_6, .bool false, .slice none 0 0, .slice none 0 0, .bool false, .slice none 0 0, .slice none 0 0] 30 (0, 0))] := hSx23
 have hR23 : Ints (rd w20 (orN Y23 w.heap.size)) (some ⟨b14, 0, none⟩) 1 1 [0] := (SlR.lit (El := IntAt) (size := 1) (n := 1) [⟨(0 : Int), [.int .i64 0]⟩] (hatN23 _ (Nat.le_refl _)) (List.forall_mem_cons.2 ⟨⟨rfl, fun r2 h2 b o h9 => h9⟩, (List.forall_mem_nil _)⟩) rfl (by decide))
 have hob := St.pubAt 0 B23 rfl
 obtain ⟨Y24, hSx24, j24, hat24, hatN24⟩ := hob
 have B24 : St E0 w X w20 Y24 [(b8, .cells #[.int .i64 0, .bool y5.neg, .slice u6_0_1 y5.ln.length u6_0_3, .slice u6_0_4 y5.ld.length u6_0_6] 58 (0, 0)), (b3, .cells #[.slice (some ⟨b10, 0, none⟩) 3 3, .slice (some ⟨b12, 0, none⟩) 2 2, .slice (some ⟨b14, 0, none⟩) 1 1, .slice (some ⟨b16, 0, none⟩) 2 2, .int .i64 5, .int .i64 50, .int .i64 0, .slice (some ⟨b8, 0, none⟩) 1 1, .slice (some ⟨b8, 0, none⟩) 1 1, .bool y18.neg, .slice u19_0_1 y18.ln.length u19_0_3, .slice u19_0_4 y18.ld.length u19_0_6, .bool false, .slice none 0 0, .slice none 0 0, .bool false, .slice none 0 0, .slice none 0 0] 30 (0, 0))] := hSx24
 have hR24 : BoundsDS (rd w20 (orN Y24 w.heap.size)) (some ⟨b16, 0, none⟩) 2 2 [(BoundsD.mk 0 0 0), (BoundsD.mk 1 10 20)] := (SlR.lit (El := BoundsDAt) (size := 3) (n := 2) [⟨(BoundsD.mk 0 0 0), [.int .u8 0, .int .i64 0, .int .i64 0]⟩, ⟨(BoundsD.mk 1 10 20), [.int .u8 1, .int .i64 10, .int .i64 20]⟩] (hatN24 _ (Nat.le_refl _)) (List.forall_mem_cons.2 ⟨⟨rfl, fun r2 h2 b o h9 => h9⟩, (List.forall_mem_cons.2 ⟨⟨rfl, fun r2 h2 b o h9 => h9⟩, (List.forall_mem_nil _)⟩)⟩) rfl (by decide))
 have hob := St.pubAt 0 B24 rfl
 obtain ⟨Y25, hSx25, j25, hat25, hatN25⟩ := hob
 have B25 : St E0 w X w20 Y25 [(b3, .cells #[.slice (some ⟨b10, 0, none⟩) 3 3, .slice (some ⟨b12, 0, none⟩) 2 2, .slice (some ⟨b14, 0, none⟩) 1 1, .slice (some ⟨b16, 0, none⟩) 2 2, .int .i64 5, .int .i64 50, .int .i64 0, .slice (some ⟨b8, 0, none⟩) 1 1, .slice (some ⟨b8, 0, none⟩) 1 1, .bool y18.neg, .slice u19_0_1 y18.ln.length u19_0_3, .slice u19_0_4 y18.ld.length u19_0_6, .bool false, .slice none 0 0, .slice none 0 0, .bool false, .slice none 0 0, .slice none 0 0] 30 (0, 0))] := hSx25
 have hc1_ := (Le11 j8 j10 j12 j14 j16 j19 j20 j21 j22 j23 j24).trans j25
 have hR25 : NoiseDS (rd w20 (orN Y25 w.heap.size)) (some ⟨b8, 0, none⟩) 1 1 [(NoiseD.mk 0 y5)] := (SlR.lit (El := NoiseDAt) (size := 4) (n := 1) [⟨(NoiseD.mk 0 y5), [.int .i64 0, .bool y5.neg, .slice u6_0_1 y5.ln.length u6_0_3, .slice u6_0_4 y5.ld.length u6_0_6]⟩] (hatN25 _ (Nat.le_refl _)) (List.forall_mem_cons.2 ⟨⟨rfl, fun r2 h2 b o h9 => ⟨_, _, _, _, h9, ((u6_0__h0.mono (Le.own B3.lt B3.upd.size hc1_)).mono h2), ((u6_0__h1.mono (Le.own B3.lt B3.upd.size hc1_)).mono h2)⟩⟩, (List.forall_mem_nil _)⟩) rfl (by decide))
 have hob := Option.some.inj hp
 subst hob
 have hc2_ := (Le3 j22 j23 j24).trans j25
 have hc3_ := (Le5 j20 j21 j22 j23 j24).trans j25
 exact ⟨B25.upd, _, rfl, ⟨_, _, _, _, _, _, _, _, _, _, _, _, _, _, _, _, _, _, _, _, _, _, _, _, rfl, ((hR21.mono (Le.or hc2_ _))).mono Le.orr, ((hR22.mono (Le.or (Le3 j23 j24 j25) _))).mono Le.orr, ((hR23.mono (Le.or (Le2 j24 j25) _))).mono Le.orr, ((hR24.mono (Le.or j25 _))).mono Le.orr, ((hR25.mono (Le.or (Le.refl _) _))).mono Le.orr, ((hR25.mono (Le.or (Le.refl _) _))).mono Le.orr, ((u19_0__h0.mono (Le.own B16.lt B16.upd.size hc3_))).mono Le.orr, ((u19_0__h1.mono (Le.own B16.lt B16.upd.size hc3_))).mono Le.orr, Limbs.nil0, Limbs.nil0, Limbs.nil0, Limbs.nil0⟩⟩
end Go.Proofs.YtppalofalmieaaaGreat
namespace Go.Proofs.YtppalofalmieaaaGreat
open Go Go.Gv Go.RowKit
set_option maxRecDepth 100000
set_option maxHeartbeats 1000000
noncomputable def interp_shares_l13 (p0 : List Int) (p1 : Int) (x4 : Int) (x6 : Int) (J9 : (List ShareD) → Option ((List ShareD))) : List Int → Nat → Option ((List ShareD))
  | [], k13 => J9 ([] : List ShareD)
  | x13 :: r13, k13 => (some ((if (if (x6) < p1 then x6 else p1) > x4 then if (x6) < p1 then x6 else p1 else x4) == x13)).bind fun z16 => if z16 = true then ((rat_Of_p (1 : Int) (1 : Int)).bind fun y20 => grd ((([] : List ShareD).length + 1) * 64 ≤ 140737488355328) <| J9 (([] : List ShareD) ++ [(ShareD.mk (k13 : Int) y20.1)])) else ((some (decide ((if (if (x6) < p1 then x6 else p1) > x4 then if (x6) < p1 then x6 else p1 else x4) < x13))).bind fun z34 => if z34 = true then ((ix p0 (IntKind.i64.wrap ((k13 : Int) - 1))).bind fun x36 => (some (IntKind.i64.wrap ((x13) - (if (if (x6) < p1 then x6 else p1) > x4 then if (x6) < p1 then x6 else p1 else x4)))).bind fun z38 => (rat_Of_p (z38) (IntKind.i64.wrap ((x13) - x36))).bind fun y41 => grd ((([] : List ShareD).length + 1) * 64 ≤ 140737488355328) <| (some (IntKind.i64.wrap ((if (if (x6) < p1 then x6 else p1) > x4 then if (x6) < p1 then x6 else p1 else x4) - x36))).bind fun z55 => (rat_Of_p (z55) (IntKind.i64.wrap ((x13) - x36))).bind fun y58 => grd (((([] : List ShareD) ++ [(ShareD.mk (IntKind.i64.wrap ((k13 : Int) - 1)) y41.1)]).length + 1) * 64 ≤ 140737488355328) <| J9 ((([] : List ShareD) ++ [(ShareD.mk (IntKind.i64.wrap ((k13 : Int) - 1)) y41.1)]) ++ [(ShareD.mk (k13 : Int) y58.1)])) else (interp_shares_l13 p0 p1 x4 x6 J9 r13 (k13 + 1)))
noncomputable def interp_shares_p (p0 : List Int) (p1 : Int) : Option ((List ShareD)) :=
  (ix p0 (0 : Int)).bind fun x4 => (ix p0 (IntKind.i64.wrap ((p0.length : Int) - 1))).bind fun x6 => lt (fun (v9_0 : List ShareD) => some v9_0) fun J9 => interp_shares_l13 p0 p1 x4 x6 J9 (p0.drop 0) 0
theorem interp_shares_c (w : World) (X : Hid) (hX : ∀ k o, X k o → k < w.heap.size) (p0 : List Int) (vp0 : Value) (hp0 : SV Ints (rd w X) vp0 p0) (p1 : Int) (y : (List ShareD)) (hp : interp_shares_p p0 p1 = some y) : Calls Tryz.prog 130 #[vp0, .int .i64 p1] w (Ret E0 w fun w' v => SV ShareDS (rd w' (old w)) v y) := by
 obtain ⟨p0a1, p0a2, rfl, p0a_h0⟩ := hp0
 unfold interp_shares_p at hp
 refine zen Tryz.func130 ?_
 have B0 : St E0 w X w X [] := St.start hX
 refine zz 2 ?_
 refine zn pn (.cells #[.slice none 0 0] 168 (0, 0)) B0 ?_
 intro b3 w3 Y3 B3 j3 hu3
 refine zz 4 ?_
 refine zdr B3 ?_
 refine bndk hp fun x4 hx4 hp => ?_
 have hob := ix_some hx4
 obtain ⟨hzx4, hqx4⟩ := hob
 have hwx4 : p0[0]? = some x4 := hqx4
 have hob := p0a_h0.opn hwx4
 obtain ⟨be5, oe5, rfl, j5, hEe5⟩ := hob
 have hAe5 : At (rd w X) ⟨be5, oe5 + 0 * 1, none⟩ [.int .i64 x4] := hEe5
 refine gz [0] ?_
 refine gi 1 (b := be5) (off := oe5) (len := p0.length) (cap := p0a2) (kd := .i64) (i := 0) 1 (oe5 + 0 * 1) ?_ (h0 := hzx4) (h1 := (ix_b hzx4 j5))
 refine gl 2 ((hAe5.mono j3)) ?_
 refine bndk hp fun x6 hx6 hp => ?_
 have hob := ix_some hx6
 obtain ⟨hzx6, hqx6⟩ := hob
 have hob := p0a_h0.opn2 hqx6
 obtain ⟨j7, hEe7⟩ := hob
 have hAe7 : At (rd w X) ⟨be5, oe5 + (IntKind.i64.wrap ((p0.length : Int) - 1)).toNat * 1, none⟩ [.int .i64 x6] := hEe7
 refine gz [3, 4, 5, 6, 7] ?_
 refine gi 8 (b := be5) (off := oe5) (len := p0.length) (cap := p0a2) (kd := .i64) (i := IntKind.i64.wrap ((p0.length : Int) - 1)) 1 (oe5 + (IntKind.i64.wrap ((p0.length : Int) - 1)).toNat * 1) ?_ (h0 := hzx6) (h1 := (ix_b hzx6 j7))
 refine gl 9 ((hAe7.mono j3)) ?_
 refine gz [10, 11, 12] ?_
 refine gend (fun w8 Y8 B8 j8 => ?_)
 refine zz 10 ?_
 have hob := ltd1 hp
 obtain ⟨J9, hJ9, hp⟩ := hob
 refine zjoin (fun ((v9_0, rb9_0, ad9_0, m9_0, cap9_0) : (List ShareD) × (List (Nat × Obj)) × (Option Addr) × Nat × Nat) => [(4, .pointer (some ⟨b3, 0, none⟩))]) (fun ((v9_0, rb9_0, ad9_0, m9_0, cap9_0) : (List ShareD) × (List (Nat × Obj)) × (Option Addr) × Nat × Nat) w1 => ∃ Y1 : Hid, St E0 w X w1 Y1 ((b3, .cells #[.slice ad9_0 m9_0 cap9_0] 168 (0, 0)) :: rb9_0) ∧ Le (rd w8 Y8) (rd w1 Y1) ∧ GRow ShareDCs 171 4 (rd w1 (orN Y1 w.heap.size)) rb9_0 ad9_0 m9_0 cap9_0 v9_0 ∧ J9 v9_0 = some y) ?_ ?_
 ·
  rintro ⟨v9_0, rb9_0, ad9_0, m9_0, cap9_0⟩ w9 ⟨Y9, B9, j9, hfv9_0_0, hp⟩
  have hp := (hJ9 _).symm.trans hp
  refine zz 2 ?_
  refine zo 0 B9 ?_
  refine zx 0 #[.slice ad9_0 m9_0 cap9_0] B9 ?_
  intro w10 B10 j10
  refine zz 4 ?_
  refine zrS [.cell 4 168] (v := .slice ad9_0 m9_0 cap9_0) (Res.cM B10 0 Res.nil) ?_
  have hob := St.pubGRN (A := [(b3, .cells #[.slice ad9_0 m9_0 cap9_0] 168 (0, 0))]) (B := []) (fun rb => ((b3, .cells #[.slice ad9_0 m9_0 cap9_0] 168 (0, 0)) :: rb)) B10 (fun _ => by simp only [List.append_assoc, List.cons_append, List.nil_append, List.append_nil]) (hfv9_0_0.mono (Le.or j10 _)) (Nat.le_refl _) ShareDCs.at
  obtain ⟨Y11, hSx11, j11, hRx11⟩ := hob
  have B11 : St E0 w X w10 Y11 [(b3, .cells #[.slice ad9_0 m9_0 cap9_0] 168 (0, 0))] := hSx11
  have hob := hRx11.hlen
  subst hob
  have hR11 : ShareDS (rd w10 (orN Y11 w.heap.size)) ad9_0 v9_0.length cap9_0 v9_0 := hRx11
  have hob := Option.some.inj hp
  subst hob
  exact ⟨B11.upd, _, rfl, ⟨_, _, rfl, ((hR11.mono (Le.or (Le.refl _) _))).mono Le.orr⟩⟩
 intro K12 G12
 refine zz 8 ?_
 have hb13 : (p0.length : Int) ≤ 9223372036854775807 := lenb (p0a_h0).hcap (p0a_h0).hbig
 refine zlp Tryz.f130 [K12] [1, 0, 1, 1, 1, 9, 1, 0] (fun (k13 : Nat) => [(0, .slice (some ⟨be5, oe5, none⟩) p0.length p0a2), (1, .int .i64 (if (if (x6) < p1 then x6 else p1) > x4 then if (x6) < p1 then x6 else p1 else x4)), (4, .pointer (some ⟨b3, 0, none⟩)), (5, .func (.func 160) #[] #[.pointer (some ⟨b3, 0, none⟩)]), (22, .slice (some ⟨be5, oe5, none⟩) p0.length p0a2), (23, .int .i64 (p0.length : Int)), (24, .int .i64 (k13 : Int))]) (fun (k13 : Nat) w1 => ∃ Y1 : Hid, St E0 w X w1 Y1 [(b3, .cells #[.slice none 0 0] 168 (0, 0))] ∧ Le (rd w8 Y8) (rd w1 Y1) ∧ interp_shares_l13 p0 p1 x4 x6 J9 (p0.drop k13) k13 = some y) (fun (k13 : Nat) => p0.length - k13) 0 ?_ ?_
 ·
  exact ⟨_, B8, Le.refl _, hp⟩
 rintro k13 w13 K13 G13 ⟨Y13, B13, j13, hp⟩
 refine zz 6 ?_
 refine zt 25 (p := (k13 : Int) < (p0.length : Int)) (fun ht14 => ?_) (fun ht14 => ?_)
 ·
  have hob := get_lt (l := p0) (k := k13) (lt_of_int ht14)
  obtain ⟨x13, hqx13⟩ := hob
  rw [dropC hqx13, interp_shares_l13] at hp
  have hzx13 : (0 : Int) ≤ (k13 : Int) := Int.natCast_nonneg _
  refine zz 8 ?_
  have hob := p0a_h0.opn2 hqx13
  obtain ⟨j15, hEe15⟩ := hob
  have hAe15 : At (rd w X) ⟨be5, oe5 + k13 * 1, none⟩ [.int .i64 x13] := hEe15
  refine zi (b := be5) (off := oe5) (len := p0.length) (cap := p0a2) (kd := .i64) (i := (k13 : Int)) 1 (oe5 + k13 * 1) ?_ (h0 := hzx13) (h1 := (ix_b hzx13 j15))
  refine zl ((hAe15.mono (Le3 j3 j8 j13))).cells ?_
  refine bndk hp fun z16 hz16 hp => ?_
  refine zz 10 ?_
  refine zs 32 (v := .bool ((if (if (x6) < p1 then x6 else p1) > x4 then if (x6) < p1 then x6 else p1 else x4) == x13)) (v' := .bool z16) (zJ (Option.some.inj hz16)) ?_
  refine zz 3 ?_
  refine zb 29 (b := z16) (fun hc17 => ?_) (fun hc17 => ?_)
  ·
   have hp := ipb hc17 hp
   refine zz 5 ?_
   refine zci (vs := #[.int .i64 (k13 : Int), .int .i64 1, .int .i64 1, .pointer (some ⟨b3, 0, none⟩)]) Tryz.func160 (fun R18 hR18 => ?_)
   refine zz 4 ?_
   refine bndk hp fun y20 hy20 hp => ?_
   refine zc B13 (rat_Of_c _ X0 (X0_lt _) (1 : Int) (1 : Int) y20 hy20) ?_
   rintro v21 w21 B21 j21 hu21 ⟨uu21_0, rfl, ⟨u21_0_1, u21_0_2, u21_0_3, u21_0_4, u21_0_5, u21_0_6, rfl, u21_0__h0, u21_0__h1⟩⟩
   have hob := u21_0__h0.hlen
   subst hob
   have hob := u21_0__h1.hlen
   subst hob
   refine zz 3 ?_
   refine zn pn (.cells #[.bool false, .slice none 0 0, .slice none 0 0] 28 (0, 0)) B21 ?_
   intro b23 w23 Y23 B23 j23 hu23
   refine zx 0 #[.bool y20.1.neg, .slice u21_0_1 y20.1.ln.length u21_0_3, .slice u21_0_4 y20.1.ld.length u21_0_6] B23 ?_
   intro w24 B24 j24
   refine zz 4 ?_
   refine zo 1 B24 ?_
   refine zz 1 ?_
   refine zo 0 B24 ?_
   refine zz 1 ?_
   refine zn (fun b => .slice (some ⟨b, 0, none⟩) 1 1) (.cells #[.int .i64 (k13 : Int), .bool y20.1.neg, .slice u21_0_1 y20.1.ln.length u21_0_3, .slice u21_0_4 y20.1.ld.length u21_0_6] 171 (0, 0)) B24 ?_
   intro b26 w26 Y26 B26 j26 hu26
   have hob := grdp hp
   obtain ⟨hg29, hp⟩ := hob
   have hob := (GRow.nil : GRow ShareDCs 171 4 (rd w26 (orN Y26 w.heap.size)) [] none 0 0 [])
   obtain ⟨es30, hr30, hq30, hk30, hm30⟩ := hob
   refine zop (at1 [] Tryz.f160 [1]) 5 (fun a27 _ C27 hz27 => op_appEZ (b := 64) (m := 1) (c := 1) (ad := ⟨b26, 0, none⟩) (news := [.int .i64 (k13 : Int), .bool y20.1.neg, .slice u21_0_1 y20.1.ln.length u21_0_3, .slice u21_0_4 y20.1.ld.length u21_0_6]) (i0 := Tryz.t171) (rb := []) (R1 := []) 3 C27 B26 rfl hr30 (B26.cells 0 rfl rfl) (app_b1 hg29 rfl rfl) (app_b2 hg29 rfl) ?_)
   intro rb31 ad31 cap31 w31 Y31 hrow31 B31 j31 a32 C32
   have hc1_ := (Le3 j23 j24 j26).trans j31
   have hg31 : GRow ShareDCs 171 4 (rd w31 (orN Y31 w.heap.size)) rb31 ad31 (0 + 1) cap31 (([] : List ShareD) ++ [(ShareD.mk (k13 : Int) y20.1)]) := GRow.snoc hrow31 hq30 hk30 hm30 (Le.or j31 _) ⟨rfl, fun r2 h2 => ⟨_, _, _, _, rfl, ((u21_0__h0.mono (Le.own B13.lt B13.upd.size hc1_)).mono h2), ((u21_0__h1.mono (Le.own B13.lt B13.upd.size hc1_)).mono h2)⟩⟩
   refine hz27 C32 ?_
   refine zx 2 #[.slice ad31 (0 + 1) cap31] B31 ?_
   intro w33 B33 j33
   refine zz 1 ?_
   refine zr' (v := .tuple #[]) ?_
   refine hR18 _ _ ?_
   refine zz 8 ?_
   have hc2_ := (Le6 j13 j21 j23 j24 j26 j31).trans j33
   exact znext (fun a h => G12 ((([] : List ShareD) ++ [(ShareD.mk (k13 : Int) y20.1)]), rb31, ad31, (0 + 1), cap31) _ a h ⟨_, B33.tail.tail, hc2_, (hg31.mono (Le.or j33 _)), hp⟩)
  have hp := iqb hc17 hp
  refine bndk hp fun z34 hz34 hp => ?_
  refine zz 6 ?_
  refine zs 39 (v := .bool (decide ((if (if (x6) < p1 then x6 else p1) > x4 then if (x6) < p1 then x6 else p1 else x4) < x13))) (v' := .bool z34) (zJ (Option.some.inj hz34)) ?_
  refine zz 3 ?_
  refine zb 36 (b := z34) (fun hc35 => ?_) (fun hc35 => ?_)
  ·
   have hp := ipb hc35 hp
   refine zz 6 ?_
   refine bndk hp fun x36 hx36 hp => ?_
   have hob := ix_some hx36
   obtain ⟨hzx36, hqx36⟩ := hob
   have hob := p0a_h0.opn2 hqx36
   obtain ⟨j37, hEe37⟩ := hob
   have hAe37 : At (rd w X) ⟨be5, oe5 + (IntKind.i64.wrap ((k13 : Int) - 1)).toNat * 1, none⟩ [.int .i64 x36] := hEe37
   refine zi (b := be5) (off := oe5) (len := p0.length) (cap := p0a2) (kd := .i64) (i := IntKind.i64.wrap ((k13 : Int) - 1)) 1 (oe5 + (IntKind.i64.wrap ((k13 : Int) - 1)).toNat * 1) ?_ (h0 := hzx36) (h1 := (ix_b hzx36 j37))
   refine zl ((hAe37.mono (Le3 j3 j8 j13))).cells ?_
   refine bndk hp fun z38 hz38 hp => ?_
   refine zz 11 ?_
   refine zs 50 (v := .int .i64 (IntKind.i64.wrap ((x13) - (if (if (x6) < p1 then x6 else p1) > x4 then if (x6) < p1 then x6 else p1 else x4)))) (v' := .int .i64 z38) (vint (Option.some.inj hz38)) ?_
   refine zz 3 ?_
   refine zci (vs := #[.int .i64 (IntKind.i64.wrap ((k13 : Int) - 1)), .int .i64 z38, .int .i64 (IntKind.i64.wrap ((x13) - x36)), .pointer (some ⟨b3, 0, none⟩)]) Tryz.func160 (fun R39 hR39 => ?_)
   refine zz 4 ?_
   refine bndk hp fun y41 hy41 hp => ?_
   refine zc B13 (rat_Of_c _ X0 (X0_lt _) (z38) (IntKind.i64.wrap ((x13) - x36)) y41 hy41) ?_
   rintro v42 w42 B42 j42 hu42 ⟨uu42_0, rfl, ⟨u42_0_1, u42_0_2, u42_0_3, u42_0_4, u42_0_5, u42_0_6, rfl, u42_0__h0, u42_0__h1⟩⟩
   have hob := u42_0__h0.hlen
   subst hob
   have hob := u42_0__h1.hlen
   subst hob
   refine zz 3 ?_
   refine zn pn (.cells #[.bool false, .slice none 0 0, .slice none 0 0] 28 (0, 0)) B42 ?_
   intro b44 w44 Y44 B44 j44 hu44
   refine zx 0 #[.bool y41.1.neg, .slice u42_0_1 y41.1.ln.length u42_0_3, .slice u42_0_4 y41.1.ld.length u42_0_6] B44 ?_
   intro w45 B45 j45
   refine zz 4 ?_
   refine zo 1 B45 ?_
   refine zz 1 ?_
   refine zo 0 B45 ?_
   refine zz 1 ?_
   refine zn (fun b => .slice (some ⟨b, 0, none⟩) 1 1) (.cells #[.int .i64 (IntKind.i64.wrap ((k13 : Int) - 1)), .bool y41.1.neg, .slice u42_0_1 y41.1.ln.length u42_0_3, .slice u42_0_4 y41.1.ld.length u42_0_6] 171 (0, 0)) B45 ?_
   intro b47 w47 Y47 B47 j47 hu47
   have hob := grdp hp
   obtain ⟨hg50, hp⟩ := hob
   have hob := (GRow.nil : GRow ShareDCs 171 4 (rd w47 (orN Y47 w.heap.size)) [] none 0 0 [])
   obtain ⟨es51, hr51, hq51, hk51, hm51⟩ := hob
   refine zop (at1 [] Tryz.f160 [1]) 5 (fun a48 _ C48 hz48 => op_appEZ (b := 64) (m := 1) (c := 1) (ad := ⟨b47, 0, none⟩) (news := [.int .i64 (IntKind.i64.wrap ((k13 : Int) - 1)), .bool y41.1.neg, .slice u42_0_1 y41.1.ln.length u42_0_3, .slice u42_0_4 y41.1.ld.length u42_0_6]) (i0 := Tryz.t171) (rb := []) (R1 := []) 3 C48 B47 rfl hr51 (B47.cells 0 rfl rfl) (app_b1 hg50 rfl rfl) (app_b2 hg50 rfl) ?_)
   intro rb52 ad52 cap52 w52 Y52 hrow52 B52 j52 a53 C53
   have hc3_ := (Le3 j44 j45 j47).trans j52
   have hg52 : GRow ShareDCs 171 4 (rd w52 (orN Y52 w.heap.size)) rb52 ad52 (0 + 1) cap52 (([] : List ShareD) ++ [(ShareD.mk (IntKind.i64.wrap ((k13 : Int) - 1)) y41.1)]) := GRow.snoc hrow52 hq51 hk51 hm51 (Le.or j52 _) ⟨rfl, fun r2 h2 => ⟨_, _, _, _, rfl, ((u42_0__h0.mono (Le.own B13.lt B13.upd.size hc3_)).mono h2), ((u42_0__h1.mono (Le.own B13.lt B13.upd.size hc3_)).mono h2)⟩⟩
   refine hz48 C53 ?_
   refine zx 2 #[.slice ad52 (0 + 1) cap52] B52 ?_
   intro w54 B54 j54
   refine zz 1 ?_
   refine zr' (v := .tuple #[]) ?_
   refine hR39 _ _ ?_
   refine bndk hp fun z55 hz55 hp => ?_
   refine zz 9 ?_
   refine zs 59 (v := .int .i64 (IntKind.i64.wrap ((if (if (x6) < p1 then x6 else p1) > x4 then if (x6) < p1 then x6 else p1 else x4) - x36))) (v' := .int .i64 z55) (vint (Option.some.inj hz55)) ?_
   refine zz 3 ?_
   refine zci (vs := #[.int .i64 (k13 : Int), .int .i64 z55, .int .i64 (IntKind.i64.wrap ((x13) - x36)), .pointer (some ⟨b3, 0, none⟩)]) Tryz.func160 (fun R56 hR56 => ?_)
   refine zz 4 ?_
   refine bndk hp fun y58 hy58 hp => ?_
   refine zc B54 (rat_Of_c _ X0 (X0_lt _) (z55) (IntKind.i64.wrap ((x13) - x36)) y58 hy58) ?_
   rintro v59 w59 B59 j59 hu59 ⟨uu59_0, rfl, ⟨u59_0_1, u59_0_2, u59_0_3, u59_0_4, u59_0_5, u59_0_6, rfl, u59_0__h0, u59_0__h1⟩⟩
   have hob := u59_0__h0.hlen
   subst hob
   have hob := u59_0__h1.hlen
   subst hob
   refine zz 3 ?_
   refine zn pn (.cells #[.bool false, .slice none 0 0, .slice none 0 0] 28 (0, 0)) B59 ?_
   intro b61 w61 Y61 B61 j61 hu61
   refine zx 0 #[.bool y58.1.neg, .slice u59_0_1 y58.1.ln.length u59_0_3, .slice u59_0_4 y58.1.ld.length u59_0_6] B61 ?_
   intro w62 B62 j62
   refine zz 4 ?_
   refine zo 3 B62 ?_
   refine zz 1 ?_
   refine zo 0 B62 ?_
   refine zz 1 ?_
   refine zn (fun b => .slice (some ⟨b, 0, none⟩) 1 1) (.cells #[.int .i64 (k13 : Int), .bool y58.1.neg, .slice u59_0_1 y58.1.ln.length u59_0_3, .slice u59_0_4 y58.1.ld.length u59_0_6] 171 (0, 0)) B62 ?_
   intro b64 w64 Y64 B64 j64 hu64
   have hob := grdp hp
   obtain ⟨hg66, hp⟩ := hob
   have hln67 : (0 + 1) = (([] : List ShareD) ++ [(ShareD.mk (IntKind.i64.wrap ((k13 : Int) - 1)) y41.1)]).length := GRow.len hg52
   have hc4_ := (Le4 j54 j59 j61 j62).trans j64
   have hob := (hg52.mono (Le.or hc4_ _))
   obtain ⟨es67, hr67, hq67, hk67, hm67⟩ := hob
   refine zop (at1 [] Tryz.f160 [1]) 5 (fun a65 _ C65 hz65 => op_appEZ (b := 64) (m := 1) (c := 1) (ad := ⟨b64, 0, none⟩) (news := [.int .i64 (k13 : Int), .bool y58.1.neg, .slice u59_0_1 y58.1.ln.length u59_0_3, .slice u59_0_4 y58.1.ld.length u59_0_6]) (i0 := Tryz.t171) (rb := rb52) (R1 := []) 5 C65 B64 rfl hr67 (B64.cells 0 rfl rfl) (app_b1 hg66 hln67 rfl) (app_b2 hg66 hln67) ?_)
   intro rb68 ad68 cap68 w68 Y68 hrow68 B68 j68 a69 C69
   have hc5_ := (Le3 j61 j62 j64).trans j68
   have hg68 : GRow ShareDCs 171 4 (rd w68 (orN Y68 w.heap.size)) rb68 ad68 ((0 + 1) + 1) cap68 ((([] : List ShareD) ++ [(ShareD.mk (IntKind.i64.wrap ((k13 : Int) - 1)) y41.1)]) ++ [(ShareD.mk (k13 : Int) y58.1)]) := GRow.snoc hrow68 hq67 hk67 hm67 (Le.or j68 _) ⟨rfl, fun r2 h2 => ⟨_, _, _, _, rfl, ((u59_0__h0.mono (Le.own B54.lt B54.upd.size hc5_)).mono h2), ((u59_0__h1.mono (Le.own B54.lt B54.upd.size hc5_)).mono h2)⟩⟩
   refine hz65 C69 ?_
   refine zx 4 #[.slice ad68 ((0 + 1) + 1) cap68] B68 ?_
   intro w70 B70 j70
   refine zz 1 ?_
   refine zr' (v := .tuple #[]) ?_
   refine hR56 _ _ ?_
   refine zz 8 ?_
   have hc6_ := (Le12 j13 j42 j44 j45 j47 j52 j54 j59 j61 j62 j64 j68).trans j70
   exact znext (fun a h => G12 (((([] : List ShareD) ++ [(ShareD.mk (IntKind.i64.wrap ((k13 : Int) - 1)) y41.1)]) ++ [(ShareD.mk (k13 : Int) y58.1)]), rb68, ad68, ((0 + 1) + 1), cap68) _ a h ⟨_, B70.tail.tail.tail.tail, hc6_, (hg68.mono (Le.or j70 _)), hp⟩)
  have hp := iqb hc35 hp
  refine zz 7 ?_
  refine zs 64 (v := .int .i64 (IntKind.i64.wrap ((k13 : Int) + 1))) (v' := .int .i64 ((k13 : Int) + 1)) (vint (wi64 (wk0 k13) (wk1 ht14 hb13))) ?_
  refine zz 2 ?_
  refine znext (fun a h => G13 (k13 + 1) _ a h ⟨_, B13, j13, hp⟩ ?_)
  exact mu_lt ht14
 rw [List.drop_eq_nil_of_le (nlt_of_int ht14), interp_shares_l13] at hp
 refine zz 5 ?_
 exact znext (fun a h => G12 (([] : List ShareD), [], none, 0, 0) _ a h ⟨_, B13, j13, GRow.nil, hp⟩)
noncomputable def interp_Weights_l34 (x14 : List Int) (x21 : WeightD) (J23 : (List WeightD) → Option ((List WeightD) × Int)) : List ShareD → (List WeightD) → Option ((List WeightD) × Int)
  | [], v34_0 => J23 v34_0
  | x34 :: r34, v34_0 => (rat_Mul_p x21.w x34.w).bind fun y41 => grd ((v34_0.length + 1) * 64 ≤ 140737488355328) <| interp_Weights_l34 x14 x21 J23 r34 (v34_0 ++ [(WeightD.mk (IntKind.i64.wrap ((IntKind.i64.wrap ((x21.vertex) * (x14.length : Int))) + x34.index)) y41.1)])
noncomputable def interp_Weights_l21 (p1 : List Int) (k14 : Nat) (x14 : List Int) (J18 : (List WeightD) → Option ((List WeightD) × Int)) : List WeightD → (List WeightD) → Option ((List WeightD) × Int)
  | [], v21_0 => J18 v21_0
  | x21 :: r21, v21_0 => lt (fun (v23_0 : List WeightD) => interp_Weights_l21 p1 k14 x14 J18 r21 v23_0) fun J23 => (ix p1 (k14 : Int)).bind fun x29 => (interp_shares_p x14 (x29)).bind fun y32 => interp_Weights_l34 x14 x21 J23 (y32.drop 0) v21_0
noncomputable def interp_Weights_l14 (p1 : List Int) (J12 : (List WeightD) → Option ((List WeightD) × Int)) : List (List Int) → Nat → (List WeightD) → Option ((List WeightD) × Int)
  | [], k14, v14_0 => J12 v14_0
  | x14 :: r14, k14, v14_0 => lt (fun (v18_0 : List WeightD) => interp_Weights_l14 p1 J12 r14 (k14 + 1) v18_0) fun J18 => interp_Weights_l21 p1 k14 x14 J18 (v14_0.drop 0) ([] : List WeightD)
noncomputable def interp_Weights_p (p0 : List (List Int)) (p1 : List Int) : Option ((List WeightD) × Int) :=
  (interp_Check_p p0).bind fun y3 => if ((y3) != 0) = true then (some (([] : List WeightD), y3)) else (if ((p1.length : Int) != (p0.length : Int)) = true then (some (([] : List WeightD), 16)) else ((rat_From_p (1 : Int)).bind fun y8 => lt (fun (v12_0 : List WeightD) => some (v12_0, 0)) fun J12 => interp_Weights_l14 p1 J12 (p0.drop 0) 0 ([(WeightD.mk 0 y8)])))
theorem interp_Weights_c (w : World) (X : Hid) (hX : ∀ k o, X k o → k < w.heap.size) (p0 : List (List Int)) (vp0 : Value) (hp0 : SV IntsS (rd w X) vp0 p0) (p1 : List Int) (vp1 : Value) (hp1 : SV Ints (rd w X) vp1 p1) (y : (List WeightD) × Int) (hp : interp_Weights_p p0 p1 = some y) : Calls Tryz.prog 98 #[vp0, vp1] w (Ret E0 w fun w' v => ∃ uu0, v = .tuple #[uu0, .int .i64 y.2] ∧ SV WeightDS (rd w' (old w)) uu0 y.1) := by
 obtain ⟨p0a1, p0a2, rfl, p0a_h0⟩ := hp0
 obtain ⟨p1a1, p1a2, rfl, p1a_h0⟩ := hp1
 unfold interp_Weights_p at hp
 refine zen Tryz.func98 ?_
 have B0 : St E0 w X w X [] := St.start hX
 refine zz 10 ?_
 refine bndk hp fun y3 hy3 hp => ?_
 refine zc B0 (interp_Check_c _ X0 (X0_lt _) p0 _ ⟨_, _, rfl, (p0a_h0.mono Le.x0)⟩ y3 hy3) ?_
 rintro v4 w4 B4 j4 hu4 rfl
 refine zz 11 ?_
 refine zb 19 (b := ((y3) != 0)) (fun hc5 => ?_) (fun hc5 => ?_)
 ·
  have hp := ipb hc5 hp
  refine zz 11 ?_
  refine zr' (v := .tuple #[.slice none 0 0, .int .i64 y3]) ?_
  have hob := Option.some.inj hp
  subst hob
  exact ⟨B4.upd, _, rfl, ⟨_, rfl, ⟨_, _, rfl, (show WeightDS _ none 0 0 [] from SlR.nil none (by decide))⟩⟩⟩
 have hp := iqb hc5 hp
 refine zz 11 ?_
 refine zb 23 (b := ((p1.length : Int) != (p0.length : Int))) (fun hc6 => ?_) (fun hc6 => ?_)
 ·
  have hp := ipb hc6 hp
  refine zz 10 ?_
  refine zr' (v := .tuple #[.slice none 0 0, .int .i64 16]) ?_
  have hob := Option.some.inj hp
  subst hob
  exact ⟨B4.upd, _, rfl, ⟨_, rfl, ⟨_, _, rfl, (show WeightDS _ none 0 0 [] from SlR.nil none (by decide))⟩⟩⟩
 have hp := iqb hc6 hp
 refine zz 6 ?_
 refine bndk hp fun y8 hy8 hp => ?_
 refine zc B4 (rat_From_c _ X0 (X0_lt _) (1 : Int) y8 hy8) ?_
 rintro v9 w9 B9 j9 hu9 ⟨u9_0_1, u9_0_2, u9_0_3, u9_0_4, u9_0_5, u9_0_6, rfl, u9_0__h0, u9_0__h1⟩
 have hob := u9_0__h0.hlen
 subst hob
 have hob := u9_0__h1.hlen
 subst hob
 refine zz 1 ?_
 refine zn (fun b => .slice (some ⟨b, 0, none⟩) 1 1) (.cells #[.int .i64 0, .bool y8.neg, .slice u9_0_1 y8.ln.length u9_0_3, .slice u9_0_4 y8.ld.length u9_0_6] 133 (0, 0)) B9 ?_
 intro b11 w11 Y11 B11 j11 hu11
 refine zz 3 ?_
 have hob := ltd1 hp
 obtain ⟨J12, hJ12, hp⟩ := hob
 refine zjoin (fun ((v12_0, ad12_0, cap12_0) : (List WeightD) × (Option Addr) × Nat) => [(7, .slice ad12_0 v12_0.length cap12_0)]) (fun ((v12_0, ad12_0, cap12_0) : (List WeightD) × (Option Addr) × Nat) w1 => ∃ Y1 : Hid, St E0 w X w1 Y1 [] ∧ Le (rd w11 Y11) (rd w1 Y1) ∧ WeightDS (rd w1 (orN Y1 w.heap.size)) ad12_0 v12_0.length cap12_0 v12_0 ∧ J12 v12_0 = some y) ?_ ?_
 ·
  rintro ⟨v12_0, ad12_0, cap12_0⟩ w12 ⟨Y12, B12, j12, hfv12_0_0, hp⟩
  have hp := (hJ12 _).symm.trans hp
  refine zz 8 ?_
  refine zr' (v := .tuple #[.slice ad12_0 v12_0.length cap12_0, .int .i64 0]) ?_
  have hob := Option.some.inj hp
  subst hob
  exact ⟨B12.upd, _, rfl, ⟨_, rfl, ⟨_, _, rfl, ((hfv12_0_0.mono (Le.or (Le.refl _) _))).mono Le.orr⟩⟩⟩
 intro K13 G13
 refine zz 8 ?_
 have hob := St.pubAt 0 B11 rfl
 obtain ⟨Y15, hSx15, j15, hat15, hatN15⟩ := hob
 have B15 : St E0 w X w11 Y15 [] := hSx15
 have hR15 : WeightDS (rd w11 (orN Y15 w.heap.size)) (some ⟨b11, 0, none⟩) 1 1 [(WeightD.mk 0 y8)] := (SlR.lit (El := WeightDAt) (size := 4) (n := 1) [⟨(WeightD.mk 0 y8), [.int .i64 0, .bool y8.neg, .slice u9_0_1 y8.ln.length u9_0_3, .slice u9_0_4 y8.ld.length u9_0_6]⟩] (hatN15 _ (Nat.le_refl _)) (List.forall_mem_cons.2 ⟨⟨rfl, fun r2 h2 b o h9 => ⟨_, _, _, _, h9, ((u9_0__h0.mono (Le.own B4.lt B4.upd.size (Le2 j11 j15))).mono h2), ((u9_0__h1.mono (Le.own B4.lt B4.upd.size (Le2 j11 j15))).mono h2)⟩⟩, (List.forall_mem_nil _)⟩) rfl (by decide))
 have hb14 : (p0.length : Int) ≤ 9223372036854775807 := lenb (p0a_h0).hcap (p0a_h0).hbig
 refine zlp Tryz.f98 [K13] [1, 1, 1, 9, 1, 0] (fun ((v14_0, k14, ad14_0, cap14_0) : (List WeightD) × Nat × (Option Addr) × Nat) => [(1, .slice p1a1 p1.length p1a2), (7, .slice ad14_0 v14_0.length cap14_0), (32, .slice p0a1 p0.length p0a2), (33, .int .i64 (p0.length : Int)), (34, .int .i64 (k14 : Int))]) (fun ((v14_0, k14, ad14_0, cap14_0) : (List WeightD) × Nat × (Option Addr) × Nat) w1 => ∃ Y1 : Hid, St E0 w X w1 Y1 [] ∧ Le (rd w11 Y15) (rd w1 Y1) ∧ WeightDS (rd w1 (orN Y1 w.heap.size)) ad14_0 v14_0.length cap14_0 v14_0 ∧ interp_Weights_l14 p1 J12 (p0.drop k14) k14 v14_0 = some y) (fun ((v14_0, k14, ad14_0, cap14_0) : (List WeightD) × Nat × (Option Addr) × Nat) => p0.length - k14) ([(WeightD.mk 0 y8)], 0, (some ⟨b11, 0, none⟩), 1) ?_ ?_
 ·
  exact ⟨_, B15, Le.refl _, (hR15.mono (Le.or (Le.refl _) _)), hp⟩
 rintro ⟨v14_0, k14, ad14_0, cap14_0⟩ w14 K14 G14 ⟨Y14, B14, j14, hfv14_0_0, hp⟩
 refine zz 6 ?_
 refine zt 35 (p := (k14 : Int) < (p0.length : Int)) (fun ht16 => ?_) (fun ht16 => ?_)
 ·
  have hob := get_lt (l := p0) (k := k14) (lt_of_int ht16)
  obtain ⟨x14, hqx14⟩ := hob
  rw [dropC hqx14, interp_Weights_l14] at hp
  have hzx14 : (0 : Int) ≤ (k14 : Int) := Int.natCast_nonneg _
  refine zz 8 ?_
  have hob := p0a_h0.opn hqx14
  obtain ⟨be17, oe17, rfl, j17, hEe17⟩ := hob
  obtain ⟨e171, e172, e17_at, e17_h0⟩ := hEe17
  refine zi (b := be17) (off := oe17) (len := p0.length) (cap := p0a2) (kd := .i64) (i := (k14 : Int)) 1 (oe17 + k14 * 1) ?_ (h0 := hzx14) (h1 := (ix_b hzx14 j17))
  have hc1_ := (Le4 j4 j9 j11 j15).trans j14
  refine zl ((e17_at.mono hc1_)).cells ?_
  refine zz 9 ?_
  have hob := ltd1 hp
  obtain ⟨J18, hJ18, hp⟩ := hob
  refine zjoin (fun ((v18_0, rb18_0, ad18_0, m18_0, cap18_0) : (List WeightD) × (List (Nat × Obj)) × (Option Addr) × Nat × Nat) => [(10, .slice ad18_0 m18_0 cap18_0), (1, .slice p1a1 p1.length p1a2), (32, .slice (some ⟨be17, oe17, none⟩) p0.length p0a2), (33, .int .i64 (p0.length : Int)), (34, .int .i64 (k14 : Int))]) (fun ((v18_0, rb18_0, ad18_0, m18_0, cap18_0) : (List WeightD) × (List (Nat × Obj)) × (Option Addr) × Nat × Nat) w1 => ∃ Y1 : Hid, St E0 w X w1 Y1 (rb18_0) ∧ Le (rd w14 Y14) (rd w1 Y1) ∧ GRow WeightDCs 133 4 (rd w1 (orN Y1 w.heap.size)) rb18_0 ad18_0 m18_0 cap18_0 v18_0 ∧ J18 v18_0 = some y) ?_ ?_
  ·
   rintro ⟨v18_0, rb18_0, ad18_0, m18_0, cap18_0⟩ w18 ⟨Y18, B18, j18, hfv18_0_0, hp⟩
   have hp := (hJ18 _).symm.trans hp
   refine zz 8 ?_
   refine zs 80 (v := .int .i64 (IntKind.i64.wrap ((k14 : Int) + 1))) (v' := .int .i64 ((k14 : Int) + 1)) (vint (wi64 (wk0 k14) (wk1 ht16 hb14))) ?_
   refine zz 2 ?_
   have hob := St.pubGRN (A := []) (B := []) (fun rb => (rb)) B18 (fun _ => by simp only [List.append_assoc, List.cons_append, List.nil_append, List.append_nil]) hfv18_0_0 (Nat.le_refl _) WeightDCs.at
   obtain ⟨Y19, hSx19, j19, hRx19⟩ := hob
   have B19 : St E0 w X w18 Y19 [] := hSx19
   have hob := hRx19.hlen
   subst hob
   have hR19 : WeightDS (rd w18 (orN Y19 w.heap.size)) ad18_0 v18_0.length cap18_0 v18_0 := hRx19
   refine znext (fun a h => G14 (v18_0, k14 + 1, ad18_0, cap18_0) _ a h ⟨_, B19, (Le3 j14 j18 j19), (hR19.mono (Le.or (Le.refl _) _)), hp⟩ ?_)
   exact mu_lt ht16
  intro K20 G20
  refine zz 8 ?_
  have hb21 : (v14_0.length : Int) ≤ 9223372036854775807 := lenb ((hfv14_0_0.mono Le.orl)).hcap ((hfv14_0_0.mono Le.orl)).hbig
  refine zlp Tryz.f98 [K13, K14, K20] [1, 1, 1, 9, 1, 0, 0, 1, 1, 0, 0, 1, 1, 9, 1, 0] (fun ((v21_0, k21, rb21_0, ad21_0, m21_0, cap21_0) : (List WeightD) × Nat × (List (Nat × Obj)) × (Option Addr) × Nat × Nat) => [(1, .slice p1a1 p1.length p1a2), (8, .int .i64 (k14 : Int)), (9, .slice e171 x14.length e172), (10, .slice ad21_0 m21_0 cap21_0), (32, .slice (some ⟨be17, oe17, none⟩) p0.length p0a2), (33, .int .i64 (p0.length : Int)), (34, .int .i64 (k14 : Int)), (39, .slice ad14_0 v14_0.length cap14_0), (40, .int .i64 (v14_0.length : Int)), (41, .int .i64 (k21 : Int))]) (fun ((v21_0, k21, rb21_0, ad21_0, m21_0, cap21_0) : (List WeightD) × Nat × (List (Nat × Obj)) × (Option Addr) × Nat × Nat) w1 => ∃ Y1 : Hid, St E0 w X w1 Y1 (rb21_0) ∧ Le (rd w14 Y14) (rd w1 Y1) ∧ GRow WeightDCs 133 4 (rd w1 (orN Y1 w.heap.size)) rb21_0 ad21_0 m21_0 cap21_0 v21_0 ∧ interp_Weights_l21 p1 k14 x14 J18 (v14_0.drop k21)  v21_0 = some y) (fun ((v21_0, k21, rb21_0, ad21_0, m21_0, cap21_0) : (List WeightD) × Nat × (List (Nat × Obj)) × (Option Addr) × Nat × Nat) => v14_0.length - k21) (([] : List WeightD), 0, [], none, 0, 0) ?_ ?_
  ·
   exact ⟨_, B14, Le.refl _, GRow.nil, hp⟩
  rintro ⟨v21_0, k21, rb21_0, ad21_0, m21_0, cap21_0⟩ w21 K21 G21 ⟨Y21, B21, j21, hfv21_0_0, hp⟩
  refine zz 6 ?_
  refine zt 42 (p := (k21 : Int) < (v14_0.length : Int)) (fun ht22 => ?_) (fun ht22 => ?_)
  ·
   have hob := get_lt (l := v14_0) (k := k21) (lt_of_int ht22)
   obtain ⟨x21, hqx21⟩ := hob
   rw [dropC hqx21, interp_Weights_l21] at hp
   have hzx21 : (0 : Int) ≤ (k21 : Int) := Int.natCast_nonneg _
   refine zz 3 ?_
   have hob := ltd1 hp
   obtain ⟨J23, hJ23, hp⟩ := hob
   refine zjoin (fun ((v23_0, rb23_0, ad23_0, m23_0, cap23_0) : (List WeightD) × (List (Nat × Obj)) × (Option Addr) × Nat × Nat) => [(10, .slice ad23_0 m23_0 cap23_0), (1, .slice p1a1 p1.length p1a2), (8, .int .i64 (k14 : Int)), (9, .slice e171 x14.length e172), (32, .slice (some ⟨be17, oe17, none⟩) p0.length p0a2), (33, .int .i64 (p0.length : Int)), (34, .int .i64 (k14 : Int)), (39, .slice ad14_0 v14_0.length cap14_0), (40, .int .i64 (v14_0.length : Int)), (41, .int .i64 (k21 : Int))]) (fun ((v23_0, rb23_0, ad23_0, m23_0, cap23_0) : (List WeightD) × (List (Nat × Obj)) × (Option Addr) × Nat × Nat) w1 => ∃ Y1 : Hid, St E0 w X w1 Y1 (rb23_0) ∧ Le (rd w21 Y21) (rd w1 Y1) ∧ GRow WeightDCs 133 4 (rd w1 (orN Y1 w.heap.size)) rb23_0 ad23_0 m23_0 cap23_0 v23_0 ∧ J23 v23_0 = some y) ?_ ?_
   ·
    rintro ⟨v23_0, rb23_0, ad23_0, m23_0, cap23_0⟩ w23 ⟨Y23, B23, j23, hfv23_0_0, hp⟩
    have hp := (hJ23 _).symm.trans hp
    refine zz 2 ?_
    refine zs 78 (v := .int .i64 (IntKind.i64.wrap ((k21 : Int) + 1))) (v' := .int .i64 ((k21 : Int) + 1)) (vint (wi64 (wk0 k21) (wk1 ht22 hb21))) ?_
    refine zz 2 ?_
    refine znext (fun a h => G21 (v23_0, k21 + 1, rb23_0, ad23_0, m23_0, cap23_0) _ a h ⟨_, B23, (Le2 j21 j23), hfv23_0_0, hp⟩ ?_)
    exact mu_lt ht22
   intro K24 G24
   refine zz 3 ?_
   have hob := (hfv14_0_0.mono Le.orl).opn hqx21
   obtain ⟨be25, oe25, rfl, j25, hEe25⟩ := hob
   obtain ⟨e251, e252, e253, e254, e25_at, e25_h0, e25_h1⟩ := hEe25
   refine zi (b := be25) (off := oe25) (len := v14_0.length) (cap := cap14_0) (kd := .i64) (i := (k21 : Int)) 4 (oe25 + k21 * 4) ?_ (h0 := hzx21) (h1 := (ix_b hzx21 j25))
   refine zl ((e25_at.mono j21)).cells ?_
   refine zn pn (.cells #[.int .i64 0, .bool false, .slice none 0 0, .slice none 0 0] 133 (0, 0)) B21 ?_
   intro b27 w27 Y27 B27 j27 hu27
   refine zx 0 #[.int .i64 x21.vertex, .bool x21.w.neg, .slice e251 x21.w.ln.length e252, .slice e253 x21.w.ld.length e254] B27 ?_
   intro w28 B28 j28
   refine zz 7 ?_
   refine bndk hp fun x29 hx29 hp => ?_
   have hob := ix_some hx29
   obtain ⟨hzx29, hqx29⟩ := hob
   have hwx29 : p1[k14]? = some x29 := hqx29
   have hob := p1a_h0.opn hwx29
   obtain ⟨be30, oe30, rfl, j30, hEe30⟩ := hob
   have hAe30 : At (rd w X) ⟨be30, oe30 + k14 * 1, none⟩ [.int .i64 x29] := hEe30
   refine zi (b := be30) (off := oe30) (len := p1.length) (cap := p1a2) (kd := .i64) (i := (k14 : Int)) 1 (oe30 + k14 * 1) ?_ (h0 := hzx29) (h1 := (ix_b hzx29 j30))
   have hc2_ := ((hc1_.trans j21).trans j27).trans j28
   refine zl ((hAe30.mono hc2_)).cells ?_
   refine bndk hp fun y32 hy32 hp => ?_
   refine zc B28 (interp_shares_c _ X0 (X0_lt _) x14 _ ⟨_, _, rfl, ((e17_h0.mono hc2_).mono Le.x0)⟩ (x29) y32 hy32) ?_
   rintro v33 w33 B33 j33 hu33 ⟨u33_0_1, u33_0_2, rfl, u33_0__h0⟩
   refine zz 5 ?_
   have hb34 : (y32.length : Int) ≤ 9223372036854775807 := lenb ((u33_0__h0.mono (Le.new B28.lt))).hcap ((u33_0__h0.mono (Le.new B28.lt))).hbig
   refine zlp Tryz.f98 [K13, K14, K20, K21, K24] [1, 1, 1, 9, 1, 0, 0, 1, 1, 0, 0, 1, 1, 9, 1, 0, 0, 1, 1, 9, 0, 1, 1, 0] (fun ((v34_0, k34, rb34_0, ad34_0, m34_0, cap34_0) : (List WeightD) × Nat × (List (Nat × Obj)) × (Option Addr) × Nat × Nat) => [(1, .slice (some ⟨be30, oe30, none⟩) p1.length p1a2), (8, .int .i64 (k14 : Int)), (9, .slice e171 x14.length e172), (10, .slice ad34_0 m34_0 cap34_0), (12, .pointer (some ⟨b27, 0, none⟩)), (32, .slice (some ⟨be17, oe17, none⟩) p0.length p0a2), (33, .int .i64 (p0.length : Int)), (34, .int .i64 (k14 : Int)), (39, .slice (some ⟨be25, oe25, none⟩) v14_0.length cap14_0), (40, .int .i64 (v14_0.length : Int)), (41, .int .i64 (k21 : Int)), (50, .slice u33_0_1 y32.length u33_0_2), (51, .int .i64 (y32.length : Int)), (52, .int .i64 (k34 : Int))]) (fun ((v34_0, k34, rb34_0, ad34_0, m34_0, cap34_0) : (List WeightD) × Nat × (List (Nat × Obj)) × (Option Addr) × Nat × Nat) w1 => ∃ Y1 : Hid, St E0 w X w1 Y1 ((b27, .cells #[.int .i64 x21.vertex, .bool x21.w.neg, .slice e251 x21.w.ln.length e252, .slice e253 x21.w.ld.length e254] 133 (0, 0)) :: rb34_0) ∧ Le (rd w33 Y27) (rd w1 Y1) ∧ GRow WeightDCs 133 4 (rd w1 (orN Y1 w.heap.size)) rb34_0 ad34_0 m34_0 cap34_0 v34_0 ∧ interp_Weights_l34 x14 x21 J23 (y32.drop k34)  v34_0 = some y) (fun ((v34_0, k34, rb34_0, ad34_0, m34_0, cap34_0) : (List WeightD) × Nat × (List (Nat × Obj)) × (Option Addr) × Nat × Nat) => y32.length - k34) (v21_0, 0, rb21_0, ad21_0, m21_0, cap21_0) ?_ ?_
   ·
    exact ⟨_, B33, Le.refl _, (hfv21_0_0.mono (Le.or (Le3 j27 j28 j33) _)), hp⟩
   rintro ⟨v34_0, k34, rb34_0, ad34_0, m34_0, cap34_0⟩ w34 K34 G34 ⟨Y34, B34, j34, hfv34_0_0, hp⟩
   refine zz 6 ?_
   refine zt 53 (p := (k34 : Int) < (y32.length : Int)) (fun ht35 => ?_) (fun ht35 => ?_)
   ·
    have hob := get_lt (l := y32) (k := k34) (lt_of_int ht35)
    obtain ⟨x34, hqx34⟩ := hob
    rw [dropC hqx34, interp_Weights_l34] at hp
    have hzx34 : (0 : Int) ≤ (k34 : Int) := Int.natCast_nonneg _
    refine zz 7 ?_
    have hob := (u33_0__h0.mono (Le.new B28.lt)).opn hqx34
    obtain ⟨be36, oe36, rfl, j36, hEe36⟩ := hob
    obtain ⟨e361, e362, e363, e364, e36_at, e36_h0, e36_h1⟩ := hEe36
    refine zi (b := be36) (off := oe36) (len := y32.length) (cap := u33_0_2) (kd := .i64) (i := (k34 : Int)) 4 (oe36 + k34 * 4) ?_ (h0 := hzx34) (h1 := (ix_b hzx34 j36))
    refine zl ((e36_at.mono j34)).cells ?_
    refine zn pn (.cells #[.int .i64 0, .bool false, .slice none 0 0, .slice none 0 0] 171 (0, 0)) B34 ?_
    intro b38 w38 Y38 B38 j38 hu38
    refine zx 0 #[.int .i64 x34.index, .bool x34.w.neg, .slice e361 x34.w.ln.length e362, .slice e363 x34.w.ld.length e364] B38 ?_
    intro w39 B39 j39
    refine zz 5 ?_
    refine zo 1 B39 ?_
    refine zz 1 ?_
    refine zo 0 B39 ?_
    have hc3_ := (Le6 j21 j27 j28 j33 j34 j38).trans j39
    refine bndk hp fun y41 hy41 hp => ?_
    refine zc B39 (rat_Mul_c _ X0 (X0_lt _) x21.w _ ⟨_, _, _, _, _, _, rfl, ((e25_h0.mono hc3_).mono Le.x0), ((e25_h1.mono hc3_).mono Le.x0)⟩ x34.w _ ⟨_, _, _, _, _, _, rfl, ((e36_h0.mono (Le3 j34 j38 j39)).mono Le.x0), ((e36_h1.mono (Le3 j34 j38 j39)).mono Le.x0)⟩ y41 hy41) ?_
    rintro v42 w42 B42 j42 hu42 ⟨uu42_0, rfl, ⟨u42_0_1, u42_0_2, u42_0_3, u42_0_4, u42_0_5, u42_0_6, rfl, u42_0__h0, u42_0__h1⟩⟩
    have hob := u42_0__h0.hlen
    subst hob
    have hob := u42_0__h1.hlen
    subst hob
    refine zz 3 ?_
    refine zn pn (.cells #[.bool false, .slice none 0 0, .slice none 0 0] 28 (0, 0)) B42 ?_
    intro b44 w44 Y44 B44 j44 hu44
    refine zx 0 #[.bool y41.1.neg, .slice u42_0_1 y41.1.ln.length u42_0_3, .slice u42_0_4 y41.1.ld.length u42_0_6] B44 ?_
    intro w45 B45 j45
    refine zz 6 ?_
    refine zo 2 B45 ?_
    refine zz 4 ?_
    refine zo 1 B45 ?_
    refine zz 1 ?_
    refine zo 0 B45 ?_
    refine zz 1 ?_
    refine zn (fun b => .slice (some ⟨b, 0, none⟩) 1 1) (.cells #[.int .i64 (IntKind.i64.wrap ((IntKind.i64.wrap ((x21.vertex) * (x14.length : Int))) + x34.index)), .bool y41.1.neg, .slice u42_0_1 y41.1.ln.length u42_0_3, .slice u42_0_4 y41.1.ld.length u42_0_6] 133 (0, 0)) B45 ?_
    intro b47 w47 Y47 B47 j47 hu47
    have hob := grdp hp
    obtain ⟨hg49, hp⟩ := hob
    have hln50 : m34_0 = v34_0.length := GRow.len hfv34_0_0
    have hc4_ := (Le5 j38 j39 j42 j44 j45).trans j47
    have hob := (hfv34_0_0.mono (Le.or hc4_ _))
    obtain ⟨es50, hr50, hq50, hk50, hm50⟩ := hob
    refine zop (at1 [K13, K14, K20, K21, K24, K34] Tryz.f98 [1, 1, 1, 9, 1, 0, 0, 1, 1, 0, 0, 1, 1, 9, 1, 0, 0, 1, 1, 9, 0, 1, 1, 0, 0, 1, 1, 0, 0, 1, 1]) 12 (fun a48 _ C48 hz48 => op_appEZ (b := 64) (m := 1) (c := 1) (ad := ⟨b47, 0, none⟩) (news := [.int .i64 (IntKind.i64.wrap ((IntKind.i64.wrap ((x21.vertex) * (x14.length : Int))) + x34.index)), .bool y41.1.neg, .slice u42_0_1 y41.1.ln.length u42_0_3, .slice u42_0_4 y41.1.ld.length u42_0_6]) (i0 := Tryz.t133) (rb := rb34_0) (R1 := []) 4 C48 B47 rfl hr50 (B47.cells 0 rfl rfl) (app_b1 hg49 hln50 rfl) (app_b2 hg49 hln50) ?_)
    intro rb51 ad51 cap51 w51 Y51 hrow51 B51 j51 a52 C52
    have hc5_ := (Le3 j44 j45 j47).trans j51
    have hg51 : GRow WeightDCs 133 4 (rd w51 (orN Y51 w.heap.size)) rb51 ad51 (m34_0 + 1) cap51 (v34_0 ++ [(WeightD.mk (IntKind.i64.wrap ((IntKind.i64.wrap ((x21.vertex) * (x14.length : Int))) + x34.index)) y41.1)]) := GRow.snoc hrow51 hq50 hk50 hm50 (Le.or j51 _) ⟨rfl, fun r2 h2 => ⟨_, _, _, _, rfl, ((u42_0__h0.mono (Le.own B39.lt B39.upd.size hc5_)).mono h2), ((u42_0__h1.mono (Le.own B39.lt B39.upd.size hc5_)).mono h2)⟩⟩
    refine hz48 C52 ?_
    refine zz 6 ?_
    refine zs 77 (v := .int .i64 (IntKind.i64.wrap ((k34 : Int) + 1))) (v' := .int .i64 ((k34 : Int) + 1)) (vint (wi64 (wk0 k34) (wk1 ht35 hb34))) ?_
    refine zz 2 ?_
    have hc6_ := (Le7 j34 j38 j39 j42 j44 j45 j47).trans j51
    refine znext (fun a h => G34 ((v34_0 ++ [(WeightD.mk (IntKind.i64.wrap ((IntKind.i64.wrap ((x21.vertex) * (x14.length : Int))) + x34.index)) y41.1)]), k34 + 1, rb51, ad51, (m34_0 + 1), cap51) _ a h ⟨_, B51.tail.tail.tail, hc6_, hg51, hp⟩ ?_)
    exact mu_lt ht35
   rw [List.drop_eq_nil_of_le (nlt_of_int ht35), interp_Weights_l34] at hp
   refine zz 6 ?_
   have hc7_ := (Le3 j27 j28 j33).trans j34
   exact znext (fun a h => G24 (v34_0, rb34_0, ad34_0, m34_0, cap34_0) _ a h ⟨_, B34.tail, hc7_, hfv34_0_0, hp⟩)
  rw [List.drop_eq_nil_of_le (nlt_of_int ht22), interp_Weights_l21] at hp
  refine zz 5 ?_
  exact znext (fun a h => G20 (v21_0, rb21_0, ad21_0, m21_0, cap21_0) _ a h ⟨_, B21, j21, hfv21_0_0, hp⟩)
 rw [List.drop_eq_nil_of_le (nlt_of_int ht16), interp_Weights_l14] at hp
 refine zz 5 ?_
 exact znext (fun a h => G13 (v14_0, ad14_0, cap14_0) _ a h ⟨_, B14, (Le2 j15 j14), (hfv14_0_0.mono (Le.or (Le.refl _) _)), hp⟩)
noncomputable def dynamics_Cost_p (p0 : ModelD) (p1 : Int) (p2 : Int) : Option (Raw × Int) :=
  (dynamics_known_p p0 ([p1, p2])).bind fun y9 => if ((y9) != 0) = true then (some (Raw.zero, y9)) else ((ix p0.advisories (p1)).bind fun x16 => (ix p0.advisories (p2)).bind fun x18 => lt (fun (v24_0 : Raw) => lt (fun (v25_0 : Raw) => if ((p1) != 0) = true then (if ((p2) != 0) = true then (if (!((x16.sense) == x18.sense)) = true then ((rat_Add_p v25_0 p0.reversal).bind fun y33 => some (y33.1, 0)) else (some (v25_0, 0))) else (some (v25_0, 0))) else (some (v25_0, 0))) fun J25 => if ((p1) != 0) = true then (if ((p2) != 0) = true then (if ((x16.sense) == x18.sense) = true then (if (x18.lo) ≥ x16.lo then (if (x18.hi) ≤ x16.hi then (if (!((x16.sense == x18.sense) && ((x16.lo == x18.lo) && (x16.hi == x18.hi)))) = true then ((rat_Add_p v24_0 p0.strengthen).bind fun y58 => J25 y58.1) else (J25 v24_0)) else (J25 v24_0)) else (J25 v24_0)) else (J25 v24_0)) else (J25 v24_0)) else (J25 v24_0)) fun J24 => if ((p2) != 0) = true then ((rat_Add_p Raw.zero p0.alert).bind fun y94 => J24 y94.1) else (J24 Raw.zero))
theorem dynamics_Cost_c (w : World) (X : Hid) (hX : ∀ k o, X k o → k < w.heap.size) (p0 : ModelD) (vp0 : Value) (hp0 : ModelDV (rd w X) vp0 p0) (p1 : Int) (p2 : Int) (y : Raw × Int) (hp : dynamics_Cost_p p0 p1 p2 = some y) : Calls Tryz.prog 15 #[vp0, .int .i64 p1, .int .i64 p2] w (Ret E0 w fun w' v => ∃ uu0, v = .tuple #[uu0, .int .i64 y.2] ∧ RawV (rd w' (old w)) uu0 y.1) := by
 have hVp0 := hp0
 refine ModelDV.op hp0 fun p0a1 p0a2 p0a3 p0a4 p0a5 p0a6 p0a7 p0a8 p0a9 p0a10 p0a11 p0a12 p0a13 p0a14 p0a15 p0a16 p0a17 p0a18 p0a19 p0a20 p0a21 p0a22 p0a23 p0a24 hv9 p0a_h0 p0a_h1 p0a_h2 p0a_h3 p0a_h4 p0a_h5 p0a_h6 p0a_h7 p0a_h8 p0a_h9 p0a_h10 p0a_h11 => ?_
 subst hv9
 unfold dynamics_Cost_p at hp
 refine zen Tryz.func15 ?_
 have B0 : St E0 w X w X [] := St.start hX
 refine zz 2 ?_
 refine zn pn (.cells #[.slice p0a1 p0.height.length p0a2, .slice p0a3 p0.own.length p0a4, .slice p0a5 p0.other.length p0a6, .slice p0a7 p0.advisories.length p0a8, .int .i64 p0.pull, .int .i64 p0.near, .int .i64 p0.steps, .slice p0a9 p0.ownNoise.length p0a10, .slice p0a11 p0.otherNoise.length p0a12, .bool p0.alert.neg, .slice p0a13 p0.alert.ln.length p0a14, .slice p0a15 p0.alert.ld.length p0a16, .bool p0.strengthen.neg, .slice p0a17 p0.strengthen.ln.length p0a18, .slice p0a19 p0.strengthen.ld.length p0a20, .bool p0.reversal.neg, .slice p0a21 p0.reversal.ln.length p0a22, .slice p0a23 p0.reversal.ld.length p0a24] 30 (0, 0)) B0 ?_
 intro b3 w3 Y3 B3 j3 hu3
 refine zn pn (.cells #[.bool false, .slice none 0 0, .slice none 0 0] 28 (0, 0)) B3 ?_
 intro b5 w5 Y5 B5 j5 hu5
 refine zz 6 ?_
 refine zo 1 B5 ?_
 refine zz 2 ?_
 refine zn (fun b => .slice (some ⟨b, 0, none⟩) 2 2) (.cells #[.int .i64 p1, .int .i64 p2] 3 (0, 0)) B5 ?_
 intro b7 w7 Y7 B7 j7 hu7
 refine bndk hp fun y9 hy9 hp => ?_
 refine zc B7 (dynamics_known_c _ X0 (X0_lt _) p0 _ ((hVp0.mono (Le3 j3 j5 j7)).mono Le.x0) ([p1, p2]) _ ⟨_, _, rfl, (SlR.lit (El := IntAt) (size := 1) (n := 2) [⟨(p1 : Int), [.int .i64 p1]⟩, ⟨(p2 : Int), [.int .i64 p2]⟩] (B7.at0 0 rfl rfl) (List.forall_mem_cons.2 ⟨⟨rfl, fun r2 h2 b o h9 => h9⟩, (List.forall_mem_cons.2 ⟨⟨rfl, fun r2 h2 b o h9 => h9⟩, (List.forall_mem_nil _)⟩)⟩) rfl (by decide))⟩ y9 hy9) ?_ (vs := #[.agg #[.slice p0a1 p0.height.length p0a2, .slice p0a3 p0.own.length p0a4, .slice p0a5 p0.other.length p0a6, .slice p0a7 p0.advisories.length p0a8, .int .i64 p0.pull, .int .i64 p0.near, .int .i64 p0.steps, .slice p0a9 p0.ownNoise.length p0a10, .slice p0a11 p0.otherNoise.length p0a12, .bool p0.alert.neg, .slice p0a13 p0.alert.ln.length p0a14, .slice p0a15 p0.alert.ld.length p0a16, .bool p0.strengthen.neg, .slice p0a17 p0.strengthen.ln.length p0a18, .slice p0a19 p0.strengthen.ld.length p0a20, .bool p0.reversal.neg, .slice p0a21 p0.reversal.ln.length p0a22, .slice p0a23 p0.reversal.ld.length p0a24], .slice (some ⟨b7, 0, none⟩) 2 2])
 rintro v10 w10 B10 j10 hu10 rfl
 refine zz 9 ?_
 refine zb 20 (b := ((y9) != 0)) (fun hc11 => ?_) (fun hc11 => ?_)
 ·
  have hp := ipb hc11 hp
  refine zz 5 ?_
  refine zx 1 #[.bool false, .slice none 0 0, .slice none 0 0] B10 ?_
  intro w12 B12 j12
  refine zz 5 ?_
  refine zrS [.cell 6 28, .tmp 7] (v := .tuple #[.agg #[.bool false, .slice none 0 0, .slice none 0 0], .int .i64 y9]) (Res.cM B12 1 (Res.tZ Res.nil)) ?_
  have hob := Option.some.inj hp
  subst hob
  exact ⟨B12.upd, _, rfl, ⟨_, rfl, ⟨_, _, _, _, _, _, rfl, Limbs.nil0, Limbs.nil0⟩⟩⟩
 have hp := iqb hc11 hp
 refine zz 6 ?_
 refine zn pn (.cells #[.bool false, .slice none 0 0, .slice none 0 0] 28 (0, 0)) B10 ?_
 intro b14 w14 Y14 B14 j14 hu14
 refine zx 0 #[.bool false, .slice none 0 0, .slice none 0 0] B14 ?_
 intro w15 B15 j15
 refine zz 9 ?_
 refine zdrs [0, 1, 2, 3] B15 ?_
 refine gz [0] ?_
 refine gw 1 3 ?_
 refine bndk hp fun x16 hx16 hp => ?_
 have hob := ix_some hx16
 obtain ⟨hzx16, hqx16⟩ := hob
 have hob := p0a_h3.opn hqx16
 obtain ⟨be17, oe17, rfl, j17, hEe17⟩ := hob
 have e17_at : At (rd w X) ⟨be17, oe17 + (p1).toNat * 3, none⟩ [.int .u8 x16.sense, .int .i64 x16.lo, .int .i64 x16.hi] := hEe17
 refine gz [2] ?_
 refine gi 3 (b := be17) (off := oe17) (len := p0.advisories.length) (cap := p0a8) (kd := .i64) (i := p1) 3 (oe17 + (p1).toNat * 3) ?_ (h0 := hzx16) (h1 := (ix_b hzx16 j17))
 have hc1_ := (Le5 j3 j5 j7 j10 j14).trans j15
 refine gl 4 ((e17_at.mono hc1_)) ?_
 refine gz [5] ?_
 refine gw 6 3 ?_
 refine bndk hp fun x18 hx18 hp => ?_
 have hob := ix_some hx18
 obtain ⟨hzx18, hqx18⟩ := hob
 have hob := p0a_h3.opn2 hqx18
 obtain ⟨j19, hEe19⟩ := hob
 have e19_at : At (rd w X) ⟨be17, oe17 + (p2).toNat * 3, none⟩ [.int .u8 x18.sense, .int .i64 x18.lo, .int .i64 x18.hi] := hEe19
 refine gz [7] ?_
 refine gi 8 (b := be17) (off := oe17) (len := p0.advisories.length) (cap := p0a8) (kd := .i64) (i := p2) 3 (oe17 + (p2).toNat * 3) ?_ (h0 := hzx18) (h1 := (ix_b hzx18 j19))
 have hc2_ := (Le5 j3 j5 j7 j10 j14).trans j15
 refine gl 9 ((e19_at.mono hc2_)) ?_
 refine gp (al 11 12 pn (.cells #[.int .u8 0, .int .i64 0, .int .i64 0] 60 (0, 0))) ?_
 refine gp (al 10 11 pn (.cells #[.int .u8 0, .int .i64 0, .int .i64 0] 60 (0, 0))) ?_
 refine ge (fun e20 => ?_) PdOk.nil.k.k
 refine gXs 12 0 [2, 3, 4, 5] #[.int .u8 x16.sense, .int .i64 x16.lo, .int .i64 x16.hi] ?_
 intro w21 Y21 j21
 refine gXs 13 1 [2, 3, 4, 5] #[.int .u8 x18.sense, .int .i64 x18.lo, .int .i64 x18.hi] ?_
 intro w22 Y22 j22
 refine gend (fun w23 Y23 B23 j23 => ?_)
 refine zz 4 ?_
 refine zo 0 B23 ?_
 refine zz 1 ?_
 refine zo 1 B23 ?_
 refine zz 4 ?_
 have hob := ltd1 hp
 obtain ⟨J24, hJ24, hp⟩ := hob
 refine zjoin (fun ((v24_0, a24_0_1, a24_0_2, a24_0_3, a24_0_4) : Raw × (Option Addr) × Nat × (Option Addr) × Nat) => [(1, .int .i64 p1), (2, .int .i64 p2), (3, .pointer (some ⟨b3, 0, none⟩)), (6, .pointer (some ⟨b5, 0, none⟩)), (9, .pointer (some ⟨b14, 0, none⟩)), (10, .func (.func 58) #[] #[.pointer (some ⟨b14, 0, none⟩)]), (11, .pointer (some ⟨(e20 10), 0, none⟩)), (12, .pointer (some ⟨(e20 11), 0, none⟩)), (13, .bool ((x16.sense) == x18.sense))]) (fun ((v24_0, a24_0_1, a24_0_2, a24_0_3, a24_0_4) : Raw × (Option Addr) × Nat × (Option Addr) × Nat) w1 => ∃ Y1 : Hid, St E0 w X w1 Y1 [((e20 10), .cells #[.int .u8 x16.sense, .int .i64 x16.lo, .int .i64 x16.hi] 60 (0, 0)), ((e20 11), .cells #[.int .u8 x18.sense, .int .i64 x18.lo, .int .i64 x18.hi] 60 (0, 0)), (b14, .cells #[.bool v24_0.neg, .slice a24_0_1 v24_0.ln.length a24_0_2, .slice a24_0_3 v24_0.ld.length a24_0_4] 28 (0, 0)), (b7, .cells #[.int .i64 p1, .int .i64 p2] 3 (0, 0)), (b5, .cells #[.bool false, .slice none 0 0, .slice none 0 0] 28 (0, 0)), (b3, .cells #[.slice p0a1 p0.height.length p0a2, .slice p0a3 p0.own.length p0a4, .slice p0a5 p0.other.length p0a6, .slice (some ⟨be17, oe17, none⟩) p0.advisories.length p0a8, .int .i64 p0.pull, .int .i64 p0.near, .int .i64 p0.steps, .slice p0a9 p0.ownNoise.length p0a10, .slice p0a11 p0.otherNoise.length p0a12, .bool p0.alert.neg, .slice p0a13 p0.alert.ln.length p0a14, .slice p0a15 p0.alert.ld.length p0a16, .bool p0.strengthen.neg, .slice p0a17 p0.strengthen.ln.length p0a18, .slice p0a19 p0.strengthen.ld.length p0a20, .bool p0.reversal.neg, .slice p0a21 p0.reversal.ln.length p0a22, .slice p0a23 p0.reversal.ld.length p0a24] 30 (0, 0))] ∧ Le (rd w23 Y23) (rd w1 Y1) ∧ Limbs (rd w1 (orN Y1 w.heap.size)) a24_0_1 v24_0.ln.length a24_0_2 v24_0.ln ∧ Limbs (rd w1 (orN Y1 w.heap.size)) a24_0_3 v24_0.ld.length a24_0_4 v24_0.ld ∧ J24 v24_0 = some y) ?_ ?_
 ·
  rintro ⟨v24_0, a24_0_1, a24_0_2, a24_0_3, a24_0_4⟩ w24 ⟨Y24, B24, j24, hfv24_0_0, hfv24_0_1, hp⟩
  have hp := (hJ24 _).symm.trans hp
  have hob := ltd1 hp
  obtain ⟨J25, hJ25, hp⟩ := hob
  refine zjoin (fun ((v25_0, a25_0_1, a25_0_2, a25_0_3, a25_0_4) : Raw × (Option Addr) × Nat × (Option Addr) × Nat) => [(1, .int .i64 p1), (2, .int .i64 p2), (3, .pointer (some ⟨b3, 0, none⟩)), (6, .pointer (some ⟨b5, 0, none⟩)), (9, .pointer (some ⟨b14, 0, none⟩)), (10, .func (.func 58) #[] #[.pointer (some ⟨b14, 0, none⟩)]), (13, .bool ((x16.sense) == x18.sense))]) (fun ((v25_0, a25_0_1, a25_0_2, a25_0_3, a25_0_4) : Raw × (Option Addr) × Nat × (Option Addr) × Nat) w1 => ∃ Y1 : Hid, St E0 w X w1 Y1 [((e20 10), .cells #[.int .u8 x16.sense, .int .i64 x16.lo, .int .i64 x16.hi] 60 (0, 0)), ((e20 11), .cells #[.int .u8 x18.sense, .int .i64 x18.lo, .int .i64 x18.hi] 60 (0, 0)), (b14, .cells #[.bool v25_0.neg, .slice a25_0_1 v25_0.ln.length a25_0_2, .slice a25_0_3 v25_0.ld.length a25_0_4] 28 (0, 0)), (b7, .cells #[.int .i64 p1, .int .i64 p2] 3 (0, 0)), (b5, .cells #[.bool false, .slice none 0 0, .slice none 0 0] 28 (0, 0)), (b3, .cells #[.slice p0a1 p0.height.length p0a2, .slice p0a3 p0.own.length p0a4, .slice p0a5 p0.other.length p0a6, .slice (some ⟨be17, oe17, none⟩) p0.advisories.length p0a8, .int .i64 p0.pull, .int .i64 p0.near, .int .i64 p0.steps, .slice p0a9 p0.ownNoise.length p0a10, .slice p0a11 p0.otherNoise.length p0a12, .bool p0.alert.neg, .slice p0a13 p0.alert.ln.length p0a14, .slice p0a15 p0.alert.ld.length p0a16, .bool p0.strengthen.neg, .slice p0a17 p0.strengthen.ln.length p0a18, .slice p0a19 p0.strengthen.ld.length p0a20, .bool p0.reversal.neg, .slice p0a21 p0.reversal.ln.length p0a22, .slice p0a23 p0.reversal.ld.length p0a24] 30 (0, 0))] ∧ Le (rd w24 Y24) (rd w1 Y1) ∧ Limbs (rd w1 (orN Y1 w.heap.size)) a25_0_1 v25_0.ln.length a25_0_2 v25_0.ln ∧ Limbs (rd w1 (orN Y1 w.heap.size)) a25_0_3 v25_0.ld.length a25_0_4 v25_0.ld ∧ J25 v25_0 = some y) ?_ ?_
  ·
   rintro ⟨v25_0, a25_0_1, a25_0_2, a25_0_3, a25_0_4⟩ w25 ⟨Y25, B25, j25, hfv25_0_0, hfv25_0_1, hp⟩
   have hp := (hJ25 _).symm.trans hp
   refine zz 6 ?_
   refine zb 81 (b := ((p1) != 0)) (fun hc26 => ?_) (fun hc26 => ?_)
   ·
    have hp := ipb hc26 hp
    refine zz 4 ?_
    refine zb 85 (b := ((p2) != 0)) (fun hc27 => ?_) (fun hc27 => ?_)
    ·
     have hp := ipb hc27 hp
     refine zz 4 ?_
     refine zo 5 B25 ?_
     refine zci (vs := #[.bool (!((x16.sense) == x18.sense)), .agg #[.bool p0.reversal.neg, .slice p0a21 p0.reversal.ln.length p0a22, .slice p0a23 p0.reversal.ld.length p0a24], .pointer (some ⟨b14, 0, none⟩)]) Tryz.func58 (fun R28 hR28 => ?_)
     refine zz 2 ?_
     refine zn pn (.cells #[.bool p0.reversal.neg, .slice p0a21 p0.reversal.ln.length p0a22, .slice p0a23 p0.reversal.ld.length p0a24] 28 (0, 0)) B25 ?_
     intro b30 w30 Y30 B30 j30 hu30
     refine zz 7 ?_
     refine zb 5 (b := !((x16.sense) == x18.sense)) (fun hc31 => ?_) (fun hc31 => ?_)
     ·
      have hp := ipb hc31 hp
      refine zz 2 ?_
      refine zo 3 B30 ?_
      refine zo 0 B30 ?_
      have hc3_ := (Le11 j3 j5 j7 j10 j14 j15 j21 j22 j23 j24 j25).trans j30
      refine bndk hp fun y33 hy33 hp => ?_
      refine zc B30 (rat_Add_c _ X0 (X0_lt _) v25_0 _ ⟨_, _, _, _, _, _, rfl, (((hfv25_0_0.mono Le.orl).mono j30).mono Le.x0), (((hfv25_0_1.mono Le.orl).mono j30).mono Le.x0)⟩ p0.reversal _ ⟨_, _, _, _, _, _, rfl, ((p0a_h10.mono hc3_).mono Le.x0), ((p0a_h11.mono hc3_).mono Le.x0)⟩ y33 hy33) ?_
      rintro v34 w34 B34 j34 hu34 ⟨uu34_0, rfl, ⟨u34_0_1, u34_0_2, u34_0_3, u34_0_4, u34_0_5, u34_0_6, rfl, u34_0__h0, u34_0__h1⟩⟩
      have hob := u34_0__h0.hlen
      subst hob
      have hob := u34_0__h1.hlen
      subst hob
      refine zz 3 ?_
      refine zx 3 #[.bool y33.1.neg, .slice u34_0_1 y33.1.ln.length u34_0_3, .slice u34_0_4 y33.1.ld.length u34_0_6] B34 ?_
      intro w35 B35 j35
      refine zz 1 ?_
      refine zr' (v := .tuple #[]) ?_
      refine hR28 _ _ ?_
      refine zz 4 ?_
      refine zo 3 B35 ?_
      refine zx 5 #[.bool y33.1.neg, .slice u34_0_1 y33.1.ln.length u34_0_3, .slice u34_0_4 y33.1.ld.length u34_0_6] B35 ?_
      intro w36 B36 j36
      refine zz 4 ?_
      refine zrS [.cell 6 28, .tmp 7] (v := .tuple #[.agg #[.bool y33.1.neg, .slice u34_0_1 y33.1.ln.length u34_0_3, .slice u34_0_4 y33.1.ld.length u34_0_6], .int .i64 0]) (Res.cM B36 5 (Res.tZ Res.nil)) ?_
      have hob := Option.some.inj hp
      subst hob
      exact ⟨B36.upd, _, rfl, ⟨_, rfl, ⟨_, _, _, _, _, _, rfl, ((u34_0__h0.mono (Le.own B30.lt B30.upd.size (Le2 j35 j36)))).mono Le.orr, ((u34_0__h1.mono (Le.own B30.lt B30.upd.size (Le2 j35 j36)))).mono Le.orr⟩⟩⟩
     have hp := iqb hc31 hp
     refine zz 2 ?_
     refine zr' (v := .tuple #[]) ?_
     refine hR28 _ _ ?_
     refine zz 4 ?_
     refine zo 3 B30 ?_
     refine zx 5 #[.bool v25_0.neg, .slice a25_0_1 v25_0.ln.length a25_0_2, .slice a25_0_3 v25_0.ld.length a25_0_4] B30 ?_
     intro w37 B37 j37
     refine zz 4 ?_
     refine zrS [.cell 6 28, .tmp 7] (v := .tuple #[.agg #[.bool v25_0.neg, .slice a25_0_1 v25_0.ln.length a25_0_2, .slice a25_0_3 v25_0.ld.length a25_0_4], .int .i64 0]) (Res.cM B37 5 (Res.tZ Res.nil)) ?_
     have hob := Option.some.inj hp
     subst hob
     exact ⟨B37.upd, _, rfl, ⟨_, rfl, ⟨_, _, _, _, _, _, rfl, ((hfv25_0_0.mono (Le.or (Le2 j30 j37) _))).mono Le.orr, ((hfv25_0_1.mono (Le.or (Le2 j30 j37) _))).mono Le.orr⟩⟩⟩
    have hp := iqb hc27 hp
    refine zz 4 ?_
    refine zo 5 B25 ?_
    refine zci (vs := #[.bool false, .agg #[.bool p0.reversal.neg, .slice p0a21 p0.reversal.ln.length p0a22, .slice p0a23 p0.reversal.ld.length p0a24], .pointer (some ⟨b14, 0, none⟩)]) Tryz.func58 (fun R38 hR38 => ?_)
    refine zz 2 ?_
    refine zn pn (.cells #[.bool p0.reversal.neg, .slice p0a21 p0.reversal.ln.length p0a22, .slice p0a23 p0.reversal.ld.length p0a24] 28 (0, 0)) B25 ?_
    intro b40 w40 Y40 B40 j40 hu40
    refine zz 9 ?_
    refine zr' (v := .tuple #[]) ?_
    refine hR38 _ _ ?_
    refine zz 4 ?_
    refine zo 3 B40 ?_
    refine zx 5 #[.bool v25_0.neg, .slice a25_0_1 v25_0.ln.length a25_0_2, .slice a25_0_3 v25_0.ld.length a25_0_4] B40 ?_
    intro w41 B41 j41
    refine zz 4 ?_
    refine zrS [.cell 6 28, .tmp 7] (v := .tuple #[.agg #[.bool v25_0.neg, .slice a25_0_1 v25_0.ln.length a25_0_2, .slice a25_0_3 v25_0.ld.length a25_0_4], .int .i64 0]) (Res.cM B41 5 (Res.tZ Res.nil)) ?_
    have hob := Option.some.inj hp
    subst hob
    exact ⟨B41.upd, _, rfl, ⟨_, rfl, ⟨_, _, _, _, _, _, rfl, ((hfv25_0_0.mono (Le.or (Le2 j40 j41) _))).mono Le.orr, ((hfv25_0_1.mono (Le.or (Le2 j40 j41) _))).mono Le.orr⟩⟩⟩
   have hp := iqb hc26 hp
   refine zz 8 ?_
   refine zo 5 B25 ?_
   refine zci (vs := #[.bool false, .agg #[.bool p0.reversal.neg, .slice p0a21 p0.reversal.ln.length p0a22, .slice p0a23 p0.reversal.ld.length p0a24], .pointer (some ⟨b14, 0, none⟩)]) Tryz.func58 (fun R42 hR42 => ?_)
   refine zz 2 ?_
   refine zn pn (.cells #[.bool p0.reversal.neg, .slice p0a21 p0.reversal.ln.length p0a22, .slice p0a23 p0.reversal.ld.length p0a24] 28 (0, 0)) B25 ?_
   intro b44 w44 Y44 B44 j44 hu44
   refine zz 9 ?_
   refine zr' (v := .tuple #[]) ?_
   refine hR42 _ _ ?_
   refine zz 4 ?_
   refine zo 3 B44 ?_
   refine zx 5 #[.bool v25_0.neg, .slice a25_0_1 v25_0.ln.length a25_0_2, .slice a25_0_3 v25_0.ld.length a25_0_4] B44 ?_
   intro w45 B45 j45
   refine zz 4 ?_
   refine zrS [.cell 6 28, .tmp 7] (v := .tuple #[.agg #[.bool v25_0.neg, .slice a25_0_1 v25_0.ln.length a25_0_2, .slice a25_0_3 v25_0.ld.length a25_0_4], .int .i64 0]) (Res.cM B45 5 (Res.tZ Res.nil)) ?_
   have hob := Option.some.inj hp
   subst hob
   exact ⟨B45.upd, _, rfl, ⟨_, rfl, ⟨_, _, _, _, _, _, rfl, ((hfv25_0_0.mono (Le.or (Le2 j44 j45) _))).mono Le.orr, ((hfv25_0_1.mono (Le.or (Le2 j44 j45) _))).mono Le.orr⟩⟩⟩
  intro K46 G46
  refine zdraw [0, 1, 3, 4, 5] B24 ?_
  refine gz [0, 1, 2, 3] ?_
  refine gb 49 (b := ((p1) != 0)) (fun hc47 => ?_) (fun hc47 => ?_)
  ·
   have hp := ipb hc47 hp
   refine gz [4, 5, 6, 7] ?_
   refine gb 53 (b := ((p2) != 0)) (fun hc48 => ?_) (fun hc48 => ?_)
   ·
    have hp := ipb hc48 hp
    refine gz [8, 9, 10] ?_
    refine gb 56 (b := ((x16.sense) == x18.sense)) (fun hc49 => ?_) (fun hc49 => ?_)
    ·
     have hp := ipb hc49 hp
     refine gz [11] ?_
     refine gw 12 1 ?_
     refine gz [13] ?_
     refine gw 14 0 ?_
     refine gz [15, 16, 17] ?_
     refine gt 63 (p := (x18.lo) ≥ x16.lo) (fun ht50 => ?_) (fun ht50 => ?_)
     ·
      have hp := ip ht50 hp
      refine gz [18] ?_
      refine gw 19 1 ?_
      refine gz [20] ?_
      refine gw 21 0 ?_
      refine gz [22, 23, 24] ?_
      refine gt 70 (p := (x18.hi) ≤ x16.hi) (fun ht51 => ?_) (fun ht51 => ?_)
      ·
       have hp := ip ht51 hp
       refine gw 25 0 ?_
       refine gw 26 1 ?_
       refine gH (v := .bool (!((x16.sense == x18.sense) && ((x16.lo == x18.lo) && (x16.hi == x18.hi))))) 27 (fun w => run_neq3Z (k1 := .u8) (k2 := .i64) (k3 := .i64) (a1 := x16.sense) (a2 := x16.lo) (a3 := x16.hi) (b1 := x18.sense) (b2 := x18.lo) (b3 := x18.hi) 60 60) ?_
       refine gz [28, 29] ?_
       refine gw 30 4 ?_
       refine gci 31 (vs := #[.bool (!((x16.sense == x18.sense) && ((x16.lo == x18.lo) && (x16.hi == x18.hi)))), .agg #[.bool p0.strengthen.neg, .slice p0a17 p0.strengthen.ln.length p0a18, .slice p0a19 p0.strengthen.ld.length p0a20], .pointer (some ⟨b14, 0, none⟩)]) Tryz.func58 (fun w52 Y52 B52 j52 R53 hR53 => ?_)
       refine zz 2 ?_
       refine zn pn (.cells #[.bool p0.strengthen.neg, .slice p0a17 p0.strengthen.ln.length p0a18, .slice p0a19 p0.strengthen.ld.length p0a20] 28 (0, 0)) B52 ?_
       intro b55 w55 Y55 B55 j55 hu55
       refine zz 7 ?_
       refine zb 5 (b := !((x16.sense == x18.sense) && ((x16.lo == x18.lo) && (x16.hi == x18.hi)))) (fun hc56 => ?_) (fun hc56 => ?_)
       ·
        have hp := ipb hc56 hp
        refine zz 2 ?_
        refine zo 3 B55 ?_
        refine zo 0 B55 ?_
        have hc4_ := (Le11 j3 j5 j7 j10 j14 j15 j21 j22 j23 j24 j52).trans j55
        refine bndk hp fun y58 hy58 hp => ?_
        refine zc B55 (rat_Add_c _ X0 (X0_lt _) v24_0 _ ⟨_, _, _, _, _, _, rfl, (((hfv24_0_0.mono Le.orl).mono (Le2 j52 j55)).mono Le.x0), (((hfv24_0_1.mono Le.orl).mono (Le2 j52 j55)).mono Le.x0)⟩ p0.strengthen _ ⟨_, _, _, _, _, _, rfl, ((p0a_h8.mono hc4_).mono Le.x0), ((p0a_h9.mono hc4_).mono Le.x0)⟩ y58 hy58) ?_
        rintro v59 w59 B59 j59 hu59 ⟨uu59_0, rfl, ⟨u59_0_1, u59_0_2, u59_0_3, u59_0_4, u59_0_5, u59_0_6, rfl, u59_0__h0, u59_0__h1⟩⟩
        have hob := u59_0__h0.hlen
        subst hob
        have hob := u59_0__h1.hlen
        subst hob
        refine zz 3 ?_
        refine zx 3 #[.bool y58.1.neg, .slice u59_0_1 y58.1.ln.length u59_0_3, .slice u59_0_4 y58.1.ld.length u59_0_6] B59 ?_
        intro w60 B60 j60
        refine zz 1 ?_
        refine zr' (v := .tuple #[]) ?_
        have hc5_ := (Le3 j52 j55 j59).trans j60
        refine hR53 _ _ _ _ B60 hc5_ (.inr fun _ => selm [1, 2, 4, 5, 6]) ?_
        refine gend (fun w61 Y61 B61 j61 => ?_)
        have hc6_ := hc5_.trans j61
        exact znext (fun a h => G46 (y58.1, u59_0_1, u59_0_3, u59_0_4, u59_0_6) _ a h ⟨_, B61.tail, hc6_, (u59_0__h0.mono (Le.own B55.lt B55.upd.size (Le2 j60 j61))), (u59_0__h1.mono (Le.own B55.lt B55.upd.size (Le2 j60 j61))), hp⟩)
       have hp := iqb hc56 hp
       refine zz 2 ?_
       refine zr' (v := .tuple #[]) ?_
       refine hR53 _ _ _ _ B55 (Le2 j52 j55) (.inr fun _ => selm [1, 2, 4, 5, 6]) ?_
       refine gend (fun w62 Y62 B62 j62 => ?_)
       exact znext (fun a h => G46 (v24_0, a24_0_1, a24_0_2, a24_0_3, a24_0_4) _ a h ⟨_, B62.tail, (Le3 j52 j55 j62), (hfv24_0_0.mono (Le.or (Le3 j52 j55 j62) _)), (hfv24_0_1.mono (Le.or (Le3 j52 j55 j62) _)), hp⟩)
      have hp := iq ht51 hp
      refine gz [25, 26, 27, 28, 29] ?_
      refine gw 30 4 ?_
      refine gci 31 (vs := #[.bool false, .agg #[.bool p0.strengthen.neg, .slice p0a17 p0.strengthen.ln.length p0a18, .slice p0a19 p0.strengthen.ld.length p0a20], .pointer (some ⟨b14, 0, none⟩)]) Tryz.func58 (fun w63 Y63 B63 j63 R64 hR64 => ?_)
      refine zz 2 ?_
      refine zn pn (.cells #[.bool p0.strengthen.neg, .slice p0a17 p0.strengthen.ln.length p0a18, .slice p0a19 p0.strengthen.ld.length p0a20] 28 (0, 0)) B63 ?_
      intro b66 w66 Y66 B66 j66 hu66
      refine zz 9 ?_
      refine zr' (v := .tuple #[]) ?_
      refine hR64 _ _ _ _ B66 (Le2 j63 j66) (.inr fun _ => selm [1, 2, 4, 5, 6]) ?_
      refine gend (fun w67 Y67 B67 j67 => ?_)
      exact znext (fun a h => G46 (v24_0, a24_0_1, a24_0_2, a24_0_3, a24_0_4) _ a h ⟨_, B67.tail, (Le3 j63 j66 j67), (hfv24_0_0.mono (Le.or (Le3 j63 j66 j67) _)), (hfv24_0_1.mono (Le.or (Le3 j63 j66 j67) _)), hp⟩)
     have hp := iq ht50 hp
     refine gz [18, 19, 20, 21, 22, 23, 24, 25, 26, 27, 28, 29] ?_
     refine gw 30 4 ?_
     refine gci 31 (vs := #[.bool false, .agg #[.bool p0.strengthen.neg, .slice p0a17 p0.strengthen.ln.length p0a18, .slice p0a19 p0.strengthen.ld.length p0a20], .pointer (some ⟨b14, 0, none⟩)]) Tryz.func58 (fun w68 Y68 B68 j68 R69 hR69 => ?_)
     refine zz 2 ?_
     refine zn pn (.cells #[.bool p0.strengthen.neg, .slice p0a17 p0.strengthen.ln.length p0a18, .slice p0a19 p0.strengthen.ld.length p0a20] 28 (0, 0)) B68 ?_
     intro b71 w71 Y71 B71 j71 hu71
     refine zz 9 ?_
     refine zr' (v := .tuple #[]) ?_
     refine hR69 _ _ _ _ B71 (Le2 j68 j71) (.inr fun _ => selm [1, 2, 4, 5, 6]) ?_
     refine gend (fun w72 Y72 B72 j72 => ?_)
     exact znext (fun a h => G46 (v24_0, a24_0_1, a24_0_2, a24_0_3, a24_0_4) _ a h ⟨_, B72.tail, (Le3 j68 j71 j72), (hfv24_0_0.mono (Le.or (Le3 j68 j71 j72) _)), (hfv24_0_1.mono (Le.or (Le3 j68 j71 j72) _)), hp⟩)
    have hp := iqb hc49 hp
    refine gz [11, 12, 13, 14, 15, 16, 17, 18, 19, 20, 21, 22, 23, 24, 25, 26, 27, 28, 29] ?_
    refine gw 30 4 ?_
    refine gci 31 (vs := #[.bool false, .agg #[.bool p0.strengthen.neg, .slice p0a17 p0.strengthen.ln.length p0a18, .slice p0a19 p0.strengthen.ld.length p0a20], .pointer (some ⟨b14, 0, none⟩)]) Tryz.func58 (fun w73 Y73 B73 j73 R74 hR74 => ?_)
    refine zz 2 ?_
    refine zn pn (.cells #[.bool p0.strengthen.neg, .slice p0a17 p0.strengthen.ln.length p0a18, .slice p0a19 p0.strengthen.ld.length p0a20] 28 (0, 0)) B73 ?_
    intro b76 w76 Y76 B76 j76 hu76
    refine zz 9 ?_
    refine zr' (v := .tuple #[]) ?_
    refine hR74 _ _ _ _ B76 (Le2 j73 j76) (.inr fun _ => selm [1, 2, 4, 5, 6]) ?_
    refine gend (fun w77 Y77 B77 j77 => ?_)
    exact znext (fun a h => G46 (v24_0, a24_0_1, a24_0_2, a24_0_3, a24_0_4) _ a h ⟨_, B77.tail, (Le3 j73 j76 j77), (hfv24_0_0.mono (Le.or (Le3 j73 j76 j77) _)), (hfv24_0_1.mono (Le.or (Le3 j73 j76 j77) _)), hp⟩)
   have hp := iqb hc48 hp
   refine gz [8, 9, 10, 11, 12, 13, 14, 15, 16, 17, 18, 19, 20, 21, 22, 23, 24, 25, 26, 27, 28, 29] ?_
   refine gw 30 4 ?_
   refine gci 31 (vs := #[.bool false, .agg #[.bool p0.strengthen.neg, .slice p0a17 p0.strengthen.ln.length p0a18, .slice p0a19 p0.strengthen.ld.length p0a20], .pointer (some ⟨b14, 0, none⟩)]) Tryz.func58 (fun w78 Y78 B78 j78 R79 hR79 => ?_)
   refine zz 2 ?_
   refine zn pn (.cells #[.bool p0.strengthen.neg, .slice p0a17 p0.strengthen.ln.length p0a18, .slice p0a19 p0.strengthen.ld.length p0a20] 28 (0, 0)) B78 ?_
   intro b81 w81 Y81 B81 j81 hu81
   refine zz 9 ?_
   refine zr' (v := .tuple #[]) ?_
   refine hR79 _ _ _ _ B81 (Le2 j78 j81) (.inr fun _ => selm [1, 2, 4, 5, 6]) ?_
   refine gend (fun w82 Y82 B82 j82 => ?_)
   exact znext (fun a h => G46 (v24_0, a24_0_1, a24_0_2, a24_0_3, a24_0_4) _ a h ⟨_, B82.tail, (Le3 j78 j81 j82), (hfv24_0_0.mono (Le.or (Le3 j78 j81 j82) _)), (hfv24_0_1.mono (Le.or (Le3 j78 j81 j82) _)), hp⟩)
  have hp := iqb hc47 hp
  refine gz [4, 5, 6, 7, 8, 9, 10, 11, 12, 13, 14, 15, 16, 17, 18, 19, 20, 21, 22, 23, 24, 25, 26, 27, 28, 29] ?_
  refine gw 30 4 ?_
  refine gci 31 (vs := #[.bool false, .agg #[.bool p0.strengthen.neg, .slice p0a17 p0.strengthen.ln.length p0a18, .slice p0a19 p0.strengthen.ld.length p0a20], .pointer (some ⟨b14, 0, none⟩)]) Tryz.func58 (fun w83 Y83 B83 j83 R84 hR84 => ?_)
  refine zz 2 ?_
  refine zn pn (.cells #[.bool p0.strengthen.neg, .slice p0a17 p0.strengthen.ln.length p0a18, .slice p0a19 p0.strengthen.ld.length p0a20] 28 (0, 0)) B83 ?_
  intro b86 w86 Y86 B86 j86 hu86
  refine zz 9 ?_
  refine zr' (v := .tuple #[]) ?_
  refine hR84 _ _ _ _ B86 (Le2 j83 j86) (.inr fun _ => selm [1, 2, 4, 5, 6]) ?_
  refine gend (fun w87 Y87 B87 j87 => ?_)
  exact znext (fun a h => G46 (v24_0, a24_0_1, a24_0_2, a24_0_3, a24_0_4) _ a h ⟨_, B87.tail, (Le3 j83 j86 j87), (hfv24_0_0.mono (Le.or (Le3 j83 j86 j87) _)), (hfv24_0_1.mono (Le.or (Le3 j83 j86 j87) _)), hp⟩)
 intro K88 G88
 refine zz 5 ?_
 refine zo 5 B23 ?_
 refine zci (vs := #[.bool ((p2) != 0), .agg #[.bool p0.alert.neg, .slice p0a13 p0.alert.ln.length p0a14, .slice p0a15 p0.alert.ld.length p0a16], .pointer (some ⟨b14, 0, none⟩)]) Tryz.func58 (fun R89 hR89 => ?_)
 refine zz 2 ?_
 refine zn pn (.cells #[.bool p0.alert.neg, .slice p0a13 p0.alert.ln.length p0a14, .slice p0a15 p0.alert.ld.length p0a16] 28 (0, 0)) B23 ?_
 intro b91 w91 Y91 B91 j91 hu91
 refine zz 7 ?_
 refine zb 5 (b := ((p2) != 0)) (fun hc92 => ?_) (fun hc92 => ?_)
 ·
  have hp := ipb hc92 hp
  refine zz 2 ?_
  refine zo 3 B91 ?_
  refine zo 0 B91 ?_
  have hc7_ := (Le9 j3 j5 j7 j10 j14 j15 j21 j22 j23).trans j91
  refine bndk hp fun y94 hy94 hp => ?_
  refine zc B91 (rat_Add_c _ X0 (X0_lt _) Raw.zero _ ⟨_, _, _, _, _, _, rfl, Limbs.nil0, Limbs.nil0⟩ p0.alert _ ⟨_, _, _, _, _, _, rfl, ((p0a_h6.mono hc7_).mono Le.x0), ((p0a_h7.mono hc7_).mono Le.x0)⟩ y94 hy94) ?_ (vs := #[.agg #[.bool false, .slice none 0 0, .slice none 0 0], .agg #[.bool p0.alert.neg, .slice p0a13 p0.alert.ln.length p0a14, .slice p0a15 p0.alert.ld.length p0a16]])
  rintro v95 w95 B95 j95 hu95 ⟨uu95_0, rfl, ⟨u95_0_1, u95_0_2, u95_0_3, u95_0_4, u95_0_5, u95_0_6, rfl, u95_0__h0, u95_0__h1⟩⟩
  have hob := u95_0__h0.hlen
  subst hob
  have hob := u95_0__h1.hlen
  subst hob
  refine zz 3 ?_
  refine zx 3 #[.bool y94.1.neg, .slice u95_0_1 y94.1.ln.length u95_0_3, .slice u95_0_4 y94.1.ld.length u95_0_6] B95 ?_
  intro w96 B96 j96
  refine zz 1 ?_
  refine zr' (v := .tuple #[]) ?_
  refine hR89 _ _ ?_
  refine zz 1 ?_
  exact znext (fun a h => G88 (y94.1, u95_0_1, u95_0_3, u95_0_4, u95_0_6) _ a h ⟨_, B96.tail, (Le3 j91 j95 j96), (u95_0__h0.mono (Le.own B91.lt B91.upd.size j96)), (u95_0__h1.mono (Le.own B91.lt B91.upd.size j96)), hp⟩)
 have hp := iqb hc92 hp
 refine zz 2 ?_
 refine zr' (v := .tuple #[]) ?_
 refine hR89 _ _ ?_
 refine zz 1 ?_
 exact znext (fun a h => G88 (Raw.zero, none, 0, none, 0) _ a h ⟨_, B91.tail, j91, Limbs.nil0, Limbs.nil0, hp⟩)
end Go.Proofs.YtppalofalmieaaaGreat
/- slices.Sorted(maps.Keys(m)) at a map from ints that a call owns, by the library's contracts. By an AI agent. -/
namespace Go.Proofs.YtppalofalmieaaaGreat
open Go Go.Gv Go.RowKit Go.Sort Go.Maps Go.Shelf
set_option maxRecDepth 100000
set_option maxHeartbeats 1000000
def keysARen : Go.Shelf.Ren := ⟨fun | 7 => 100 | 10 => 133 | n => n, fun | 23 => 124 | 26 => 3 | 3 => 28 | 28 => 136 | 0 => 0 | 27 => 135 | 33 => 144 | 4 => 4 | n => n, fun n => n⟩
theorem keysALays : Go.Proofs.SlLaysZI.n7 Tryz.prog keysARen := { mixed := by kernel_rfl, f7 := ⟨"maps.Keys[map[int]clearway/api.Rat,int,clearway/api.Rat]", by decide, Tryz.func100.trans (congrArg some (by kernel_rfl))⟩, f10 := ⟨"maps.Keys[map[int]clearway/api.Rat,int,clearway/api.Rat]$1", by decide, Tryz.func133.trans (congrArg some (by kernel_rfl))⟩, t0 := Tryz.underlying0, a0 := Tryz.isAgg0, z0 := Tryz.sizeOf0, v0 := Tryz.zeroValue0, t4 := Tryz.underlying4, a4 := Tryz.isAgg4, z4 := Tryz.sizeOf4, v4 := Tryz.zeroValue4, t23 := Tryz.underlying124, a23 := Tryz.isAgg124, z23 := Tryz.sizeOf124, v23 := Tryz.zeroValue124, t26 := Tryz.underlying3, a26 := Tryz.isAgg3, z26 := Tryz.sizeOf3, v26 := Tryz.zeroValue3, t27 := Tryz.underlying135, a27 := Tryz.isAgg135, z27 := Tryz.sizeOf135, v27 := Tryz.zeroValue135, t28 := Tryz.underlying136, a28 := Tryz.isAgg136, z28 := Tryz.sizeOf136, v28 := Tryz.zeroValue136, t33 := Tryz.underlying144, a33 := Tryz.isAgg144, z33 := Tryz.sizeOf144, v33 := Tryz.zeroValue144 }
def sortedARen : Go.Shelf.Ren := ⟨fun | 6 => 99 | 8 => 131 | 9 => 132 | 11 => 161 | 13 => 163 | 12 => 162 | 23 => 183 | 24 => 184 | 14 => 174 | 15 => 175 | 16 => 176 | 17 => 177 | 18 => 178 | 19 => 179 | 20 => 180 | 21 => 181 | 22 => 182 | 25 => 192 | 26 => 193 | 27 => 194 | 28 => 195 | 29 => 196 | 30 => 197 | 31 => 202 | n => n, fun | 26 => 3 | 28 => 136 | 24 => 22 | 0 => 0 | 3 => 3 | 37 => 184 | 48 => 56 | 50 => 152 | 4 => 4 | 40 => 207 | 39 => 206 | 45 => 210 | 5 => 5 | 9 => 9 | 51 => 222 | 55 => 226 | 57 => 231 | 58 => 232 | 33 => 144 | n => n, fun n => n⟩
theorem sortedALays : Go.Proofs.SlLaysZI.n6 Tryz.prog sortedARen := { mixed := by kernel_rfl, f6 := ⟨"slices.Sorted[int]", by decide, Tryz.func99.trans (congrArg some (by kernel_rfl))⟩, f8 := ⟨"slices.Collect[int]", by decide, Tryz.func131.trans (congrArg some (by kernel_rfl))⟩, f11 := ⟨"slices.AppendSeq[[]int,int]", by decide, Tryz.func161.trans (congrArg some (by kernel_rfl))⟩, t0 := Tryz.underlying0, a0 := Tryz.isAgg0, z0 := Tryz.sizeOf0, v0 := Tryz.zeroValue0, t24 := Tryz.underlying22, a24 := Tryz.isAgg22, z24 := Tryz.sizeOf22, v24 := Tryz.zeroValue22, t26 := Tryz.underlying3, a26 := Tryz.isAgg3, z26 := Tryz.sizeOf3, v26 := Tryz.zeroValue3, t28 := Tryz.underlying136, a28 := Tryz.isAgg136, z28 := Tryz.sizeOf136, v28 := Tryz.zeroValue136, i26 := by kernel_rfl }
def sortARen : Go.Shelf.Ren := ⟨fun | 5 => 132 | 8 => 163 | 7 => 162 | 19 => 183 | 20 => 184 | 10 => 174 | 11 => 175 | 12 => 176 | 13 => 177 | 14 => 178 | 15 => 179 | 16 => 180 | 17 => 181 | 18 => 182 | 30 => 192 | 31 => 193 | 32 => 194 | 33 => 195 | 34 => 196 | 35 => 197 | 40 => 202 | n => n, fun | 23 => 22 | 25 => 3 | 3 => 3 | 32 => 184 | 22 => 22 | 0 => 0 | 44 => 56 | 46 => 152 | 4 => 4 | 36 => 207 | 35 => 206 | 41 => 210 | 5 => 5 | 9 => 9 | 53 => 222 | 57 => 226 | 63 => 231 | 64 => 232 | n => n, fun n => n⟩
theorem sortALays : Go.Proofs.SlLaysM.n5 Tryz.prog sortARen := { mixed := by kernel_rfl, f5 := ⟨"slices.Sort[[]int,int]", by decide, Tryz.func132.trans (congrArg some (by kernel_rfl))⟩, f7 := ⟨"slices.pdqsortOrdered[int]", by decide, Tryz.func162.trans (congrArg some (by kernel_rfl))⟩, f8 := Tryz.func163.trans (congrArg some (by kernel_rfl)), f10 := ⟨"slices.insertionSortOrdered[int]", by decide, Tryz.func174.trans (congrArg some (by kernel_rfl))⟩, f11 := ⟨"slices.heapSortOrdered[int]", by decide, Tryz.func175.trans (congrArg some (by kernel_rfl))⟩, f12 := ⟨"slices.breakPatternsOrdered[int]", by decide, Tryz.func176.trans (congrArg some (by kernel_rfl))⟩, f13 := ⟨"slices.choosePivotOrdered[int]", by decide, Tryz.func177.trans (congrArg some (by kernel_rfl))⟩, f14 := ⟨"slices.reverseRangeOrdered[int]", by decide, Tryz.func178.trans (congrArg some (by kernel_rfl))⟩, f15 := ⟨"slices.partialInsertionSortOrdered[int]", by decide, Tryz.func179.trans (congrArg some (by kernel_rfl))⟩, f16 := ⟨"cmp.Less[int]", by decide, Tryz.func180.trans (congrArg some (by kernel_rfl))⟩, f17 := ⟨"slices.partitionEqualOrdered[int]", by decide, Tryz.func181.trans (congrArg some (by kernel_rfl))⟩, f18 := ⟨"slices.partitionOrdered[int]", by decide, Tryz.func182.trans (congrArg some (by kernel_rfl))⟩, f19 := Tryz.func183.trans (congrArg some (by kernel_rfl)), f20 := Tryz.func184.trans (congrArg some (by kernel_rfl)), f30 := ⟨"slices.siftDownOrdered[int]", by decide, Tryz.func192.trans (congrArg some (by kernel_rfl))⟩, f31 := Tryz.func193.trans (congrArg some (by kernel_rfl)), f32 := Tryz.func194.trans (congrArg some (by kernel_rfl)), f33 := ⟨"slices.medianAdjacentOrdered[int]", by decide, Tryz.func195.trans (congrArg some (by kernel_rfl))⟩, f34 := ⟨"slices.medianOrdered[int]", by decide, Tryz.func196.trans (congrArg some (by kernel_rfl))⟩, f35 := ⟨"cmp.isNaN[int]", by decide, Tryz.func197.trans (congrArg some (by kernel_rfl))⟩, f40 := ⟨"slices.order2Ordered[int]", by decide, Tryz.func202.trans (congrArg some (by kernel_rfl))⟩, t0 := Tryz.underlying0, a0 := Tryz.isAgg0, z0 := Tryz.sizeOf0, v0 := Tryz.zeroValue0, t3 := Tryz.underlying3, a3 := Tryz.isAgg3, z3 := Tryz.sizeOf3, v3 := Tryz.zeroValue3, t4 := Tryz.underlying4, a4 := Tryz.isAgg4, z4 := Tryz.sizeOf4, v4 := Tryz.zeroValue4, t5 := Tryz.underlying5, a5 := Tryz.isAgg5, z5 := Tryz.sizeOf5, v5 := Tryz.zeroValue5, t9 := Tryz.underlying9, a9 := Tryz.isAgg9, z9 := Tryz.sizeOf9, v9 := Tryz.zeroValue9, t22 := Tryz.underlying22, a22 := Tryz.isAgg22, z22 := Tryz.sizeOf22, v22 := Tryz.zeroValue22, t23 := Tryz.underlying22, a23 := Tryz.isAgg22, z23 := Tryz.sizeOf22, v23 := Tryz.zeroValue22, t25 := Tryz.underlying3, a25 := Tryz.isAgg3, z25 := Tryz.sizeOf3, v25 := Tryz.zeroValue3, t32 := Tryz.underlying184, a32 := Tryz.isAgg184, z32 := Tryz.sizeOf184, v32 := Tryz.zeroValue184, t35 := Tryz.underlying206, a35 := Tryz.isAgg206, z35 := Tryz.sizeOf206, v35 := Tryz.zeroValue206, t36 := Tryz.underlying207, a36 := Tryz.isAgg207, z36 := Tryz.sizeOf207, v36 := Tryz.zeroValue207, t41 := Tryz.underlying210, a41 := Tryz.isAgg210, z41 := Tryz.sizeOf210, v41 := Tryz.zeroValue210, t44 := Tryz.underlying56, a44 := Tryz.isAgg56, z44 := Tryz.sizeOf56, v44 := Tryz.zeroValue56, t46 := Tryz.underlying152, a46 := Tryz.isAgg152, z46 := Tryz.sizeOf152, v46 := Tryz.zeroValue152, t53 := Tryz.underlying222, a53 := Tryz.isAgg222, z53 := Tryz.sizeOf222, v53 := Tryz.zeroValue222, t57 := Tryz.underlying226, a57 := Tryz.isAgg226, z57 := Tryz.sizeOf226, v57 := Tryz.zeroValue226, t63 := Tryz.underlying231, a63 := Tryz.isAgg231, z63 := Tryz.sizeOf231, v63 := Tryz.zeroValue231, t64 := Tryz.underlying232, a64 := Tryz.isAgg232, z64 := Tryz.sizeOf232, v64 := Tryz.zeroValue232 }

theorem sortsIn (m : Nat) : AnyZI.SortsIn Tryz.prog sortedARen Fence.wide m :=
  ⟨fun blk off cap ss W hH hblk hsz => callsIn_wide.2 (AnyM.slices_Sort_int sortALays blk off cap ss W hH hblk hsz), fun p cap W => callsIn_wide.2 (AnyM.slices_Sort_int_none sortALays p cap W)⟩
abbrev R0 : Value → Option (DataW Unit × List MemPlace) := fun _ => some (.lit (.bool true), [])
theorem ents_key : ∀ (l : List (Int × Value)) (b : Nat), (ents l b).map (·.key) = l.map fun p => Value.int .i64 p.1
  | [], _ => rfl
  | _ :: l, b => by simp [ents, ents_key l]
theorem ents_born : ∀ (l : List (Int × Value)) (b : Nat), (ents l b).map (·.born) = List.range' b l.length
  | [], _ => rfl
  | _ :: l, b => by simp [ents, ents_born l, List.range'_succ]
theorem rd_ent {P : Program} {k : TypeId} (hk : P.underlying k = some (.int .i64)) {z : Int} {v : Value} {b : Nat} (hz : -9223372036854775808 ≤ z ∧ z ≤ 9223372036854775807) : Go.WideElems.rd P k R0 ⟨.int .i64 z, v, b⟩ = some (.int .i64 z, .lit (.bool true)) :=
  Go.WideElems.rd_mk (R := R0) (val := v) (born := b) (yv := (.lit (.bool true), [])) (keyOf_int_mk (a := z) hk (by simp [Lit.wf, IntKind.min, IntKind.max, hz, IntKind.bits, IntKind.signed])) rfl
theorem ents_reads {P : Program} {k : TypeId} (hk : P.underlying k = some (.int .i64)) : ∀ (l : List (Int × Value)) (b : Nat), (∀ x ∈ l, -9223372036854775808 ≤ x.1 ∧ x.1 ≤ 9223372036854775807) → ∀ x ∈ ents l b, ∃ z, Go.WideElems.rd P k R0 x = some (.int .i64 z, .lit (.bool true))
  | [], _, _, x, hx => by cases hx
  | p :: l, b, h, x, hx => by
    rcases List.mem_cons.1 hx with rfl | hx
    · exact ⟨p.1, rd_ent hk (h p List.mem_cons_self)⟩
    · exact ents_reads hk l (b + 1) (fun x hx => h x (List.mem_cons_of_mem _ hx)) x hx
theorem ents_rg {P : Program} {k : TypeId} (hk : P.underlying k = some (.int .i64)) : ∀ (l : List (Int × Value)) (b : Nat), (∀ x ∈ l, -9223372036854775808 ≤ x.1 ∧ x.1 ≤ 9223372036854775807) → ((ents l b).map (Go.WideElems.rg P k R0)).map (fun p => Go.intOf p.1) = l.map Prod.fst
  | [], _, _ => rfl
  | p :: l, b, h => by
    rw [ents, List.map_cons, List.map_cons, List.map_cons, ents_rg hk l (b + 1) (fun x hx => h x (List.mem_cons_of_mem _ hx)), Go.WideElems.rg_of (rd_ent hk (h p List.mem_cons_self))]
    rfl
theorem owns_mapO {P : Program} {k : TypeId} {w : World} {b : Nat} {es : List (Int × Value)} (hk : P.underlying k = some (.int .i64)) (hb : w.heap[b]? = some (mapO es)) (hnd : (es.map Prod.fst).Nodup)
    (hr : ∀ x ∈ es, -9223372036854775808 ≤ x.1 ∧ x.1 ≤ 9223372036854775807) (hl : es.length ≤ maxLen) : w.ownsMap P k R0 b es.length (.map (((ents es 0).map (Go.WideElems.rg P k R0)).foldr DataW.insert [])) := by
  refine ⟨(ents es 0).toArray, es.length, hb, ⟨by simpa [ents_length] using hl, ⟨fun x hx => ?_, ?_, ?_⟩, fun x hx => ?_⟩, by simp [ents_length], rfl⟩
  · have h1 : x.born ∈ (ents es 0).map (·.born) := List.mem_map_of_mem (by simpa using hx)
    rw [ents_born] at h1
    have := List.mem_range'.1 h1
    omega
  · show ((ents es 0).map (·.born)).Nodup
    rw [ents_born]
    exact List.nodup_range'
  · show ((ents es 0).map (·.key)).Nodup
    rw [ents_key]
    have h2 : es.map (fun p => Value.int .i64 p.1) = (es.map Prod.fst).map (Value.int .i64) := by simp
    rw [h2]
    exact List.Pairwise.map _ (fun a b h e => h (by simpa using e)) hnd
  · obtain ⟨z, hz⟩ := ents_reads hk es 0 hr x (by simpa using hx)
    exact ⟨_, hz⟩
theorem keys_perm {P : Program} {k : TypeId} {es : List (Int × Value)} (hk : P.underlying k = some (.int .i64)) (hr : ∀ x ∈ es, -9223372036854775808 ≤ x.1 ∧ x.1 ≤ 9223372036854775807) :
    (intKeys (DataW.map (((ents es 0).map (Go.WideElems.rg P k R0)).foldr DataW.insert []))).Perm (es.map Prod.fst) := by
  show ((((ents es 0).map (Go.WideElems.rg P k R0)).foldr DataW.insert []).map fun p => Go.intOf p.1).Perm _
  rw [← ents_rg hk es 0 hr]
  exact (Go.WideShapes.sorted_perm _).map _
theorem size_mapO {P : Program} {k : TypeId} (es : List (Int × Value)) : Maps.size (DataW.map (((ents es 0).map (Go.WideElems.rg P k R0)).foldr DataW.insert [])) = es.length := by
  show (((ents es 0).map (Go.WideElems.rg P k R0)).foldr DataW.insert []).length = es.length
  rw [length_sorted]
  simp [ents_length]
/-- slices.Sorted(maps.Keys(m)): the keys, ascending. -/
theorem sortedKeys_c {α : Type} {V : Rd → Value → α → Prop} {r : Rd} {l : List (Int × α)} (w : World) {b b2 : Nat} {es : List (Int × Value)} (hb : w.heap[b]? = some (mapO es)) (hb2 : w.heap[b2]? = some (.cells #[.map (some b)] 124 (0, 0))) (hR : MapR V r es l)
    (hl : l.length * 8 ≤ 140737488355328) (y : List Int) (hp : some (sortZ (l.map Prod.fst)) = some y) :
    Calls Tryz.prog 99 #[.func (.func 133) #[] #[.pointer (some ⟨b2, 0, none⟩)]] w (Ret E0 w fun w' v => SV Ints (rd w' (old w)) v y) := by
  obtain rfl := Option.some.inj hp
  have hlen := hR.len
  have hk : Tryz.prog.underlying 3 = some (.int .i64) := by kernel_rfl
  have hown := owns_mapO hk hb hR.nd hR.rng (by simp only [maxLen]; omega)
  have hlt2 : b2 < w.heap.size := by
    rcases Nat.lt_or_ge b2 w.heap.size with h | h
    · exact h
    · rw [Array.getElem?_eq_none h] at hb2; cases hb2
  have hseq : SeqGives Fence.wide 2 Tryz.prog 133 #[.pointer (some ⟨b2, 0, none⟩)] encZ (fun ss => ss.Perm (intKeys _)) (Maps.size _) w :=
    AnyZI.keys_gives (ρ := keysARen) { keysALays with } Fence.wide _ trivial rfl (by omega) b2 b es.length _ _ hlt2 (by simp [World.cell?, hb2]) hown
  have cS := AnyZI.sorted_in sortedALays Fence.wide 5 trivial trivial trivial trivial rfl (by omega) (sortsIn _) (enters_of Tryz.func132 (by kernel_rfl) rfl) 133 #[.pointer (some ⟨b2, 0, none⟩)] trivial (enters_of Tryz.func133 (by kernel_rfl) rfl) _ _ (by rw [size_mapO]; simp only [maxLen]; omega) (by rw [size_mapO]; omega) _ hseq
  refine ((callsIn_wide (n := 5)).1 cS).mono ?_
  rintro e w' ⟨v, ss, rfl, hperm, hrow, hnil, hbel⟩
  refine ⟨Upd.of_below hbel, v, rfl, ?_⟩
  have hs : ss.mergeSort (fun x y => decide (x ≤ y)) = sortZ (l.map Prod.fst) := by
    refine sorted_unique (((List.mergeSort_perm _ _).trans hperm).trans ((keys_perm hk hR.rng).trans (hR.keys ▸ (sortZ_perm _).symm))) ?_ (sortZ_sorted _)
    have h1 := List.pairwise_mergeSort (le := fun x y : Int => decide (x ≤ y)) (fun a b c h1 h2 => by simp only [decide_eq_true_eq] at *; omega) (fun a b => by simp only [Bool.or_eq_true, decide_eq_true_eq]; omega) ss
    exact h1.imp fun h => by simpa using h
  rw [hs] at hrow
  obtain ⟨hxl, hrow⟩ := hrow
  rcases hrow with ⟨rfl, h0⟩ | ⟨g, cap, cur, rfl, hbase, hg, hn, hcap, hsz, hxs⟩
  · have h1 : (sortZ (l.map Prod.fst)) = [] := List.eq_nil_of_length_eq_zero (by simpa [h0] using hxl)
    rw [h1]
    exact ⟨none, 0, rfl, SlR.nil none (by decide)⟩
  · have hle : ss.length = (sortZ (l.map Prod.fst)).length := by simpa using hxl.symm
    rw [hle]
    refine ⟨_, cap, rfl, ⟨rfl, by omega, by simp only [maxLen] at hcap; omega, .inr ⟨g, 0, rfl, fun i x hi => ?_⟩⟩⟩
    intro j v hv
    have hil := (List.getElem?_eq_some_iff.1 hi).1
    cases j with
    | succ j => simp at hv
    | zero =>
      obtain rfl : Value.int .i64 x = v := by simpa using hv
      have hc : cur[i]? = some (.int .i64 x) := by
        have h3 : (cur.toList.take (ss.length * 1))[i]? = some (.int .i64 x) := by
          rw [hxs]
          simp [hi]
        rw [List.getElem?_take] at h3
        split at h3
        · simpa using h3
        · cases h3
      rw [add_mk]
      refine rd_of ((cell_of_row w' g _ cur _ _ hg).trans (by simpa using hc)) (Nat.not_lt.2 hbase) (frozen_of_row w' g _ cur _ hg)
end Go.Proofs.YtppalofalmieaaaGreat
namespace Go.Proofs.YtppalofalmieaaaGreat
open Go Go.Gv Go.RowKit
set_option maxRecDepth 100000
set_option maxHeartbeats 1000000
noncomputable def dynamics_spread_l72 (p0 : ModelD) (p4 : Int) (y42 : Raw × Int) (Jx72 : (List (Int × Raw)) → Option ((List Out) × Int)) : List WeightD → (List (Int × Raw)) → Option ((List Out) × Int)
  | [], v72_1 => Jx72 v72_1
  | x72 :: r72, v72_1 => (rat_Mul_p y42.1 x72.w).bind fun y79 => (some (getP (IntKind.i64.wrap ((IntKind.i64.wrap ((x72.vertex) * (p0.advisories.length : Int))) + p4)) Raw.zero v72_1)).bind fun x87 => (rat_Add_p x87 y79.1).bind fun y89 => grd (-9223372036854775808 ≤ (IntKind.i64.wrap ((IntKind.i64.wrap ((x72.vertex) * (p0.advisories.length : Int))) + p4)) ∧ (IntKind.i64.wrap ((IntKind.i64.wrap ((x72.vertex) * (p0.advisories.length : Int))) + p4)) ≤ 9223372036854775807) <| dynamics_spread_l72 p0 p4 y42 Jx72 r72 (putP (IntKind.i64.wrap ((IntKind.i64.wrap ((x72.vertex) * (p0.advisories.length : Int))) + p4)) y89.1 v72_1)
noncomputable def dynamics_spread_l35 (p0 : ModelD) (p1 : Int) (p2 : Int) (p3 : Int) (p4 : Int) (x27 : NoiseD) (J29 : (List (Int × Raw)) → Option ((List Out) × Int)) : List NoiseD → (List (Int × Raw)) → Option ((List Out) × Int)
  | [], v35_1 => J29 v35_1
  | x35 :: r35, v35_1 => (rat_Mul_p x27.p x35.p).bind fun y42 => (dynamics_grid_p p0).bind fun y56 => (dynamics_respond_p p0 (p2) (p4)).bind fun y59 => (interp_Weights_p y56 ([IntKind.i64.wrap ((IntKind.i64.wrap ((p1) + p3)) - p2), IntKind.i64.wrap ((y59) + x27.delta), IntKind.i64.wrap ((p3) + x35.delta)])).bind fun y63 => if ((y63.2) != 0) = true then (some (([] : List Out), y63.2)) else (lt (fun (v72_1 : List (Int × Raw)) => dynamics_spread_l35 p0 p1 p2 p3 p4 x27 J29 r35 v72_1) fun Jx72 => dynamics_spread_l72 p0 p4 y42 Jx72 (y63.1.drop 0) v35_1)
noncomputable def dynamics_spread_l117 (v27_1 : List (Int × Raw)) (J104 : (List Out) → Option ((List Out) × Int)) : List Int → (List Out) → Option ((List Out) × Int)
  | [], v117_0 => J104 v117_0
  | x117 :: r117, v117_0 => (some (getP (x117) Raw.zero v27_1)).bind fun x123 => grd ((v117_0.length + 1) * 64 ≤ 140737488355328) <| dynamics_spread_l117 v27_1 J104 r117 (v117_0 ++ [(Out.mk x117 x123)])
noncomputable def dynamics_spread_l27 (p0 : ModelD) (p1 : Int) (p2 : Int) (p3 : Int) (p4 : Int) : List NoiseD → (List (Int × Raw)) → Option ((List Out) × Int)
  | [], v27_1 => if (v27_1.length : Int) > 64 then (some (([] : List Out), 10)) else (lt (fun (v104_0 : List Out) => some (v104_0, 0)) fun J104 => grd (v27_1.length * 8 ≤ 140737488355328) <| (some (sortZ (v27_1.map Prod.fst))).bind fun y115 => dynamics_spread_l117 v27_1 J104 (y115.drop 0) ([] : List Out))
  | x27 :: r27, v27_1 => lt (fun (v29_0 : List (Int × Raw)) => dynamics_spread_l27 p0 p1 p2 p3 p4 r27 v29_0) fun J29 => dynamics_spread_l35 p0 p1 p2 p3 p4 x27 J29 (p0.otherNoise.drop 0) v27_1
noncomputable def dynamics_spread_p (p0 : ModelD) (p1 : Int) (p2 : Int) (p3 : Int) (p4 : Int) : Option ((List Out) × Int) :=
  dynamics_spread_l27 p0 p1 p2 p3 p4 (p0.ownNoise.drop 0)  ([] : List (Int × Raw))
theorem dynamics_spread_c (w : World) (X : Hid) (hX : ∀ k o, X k o → k < w.heap.size) (p0 : ModelD) (vp0 : Value) (hp0 : ModelDV (rd w X) vp0 p0) (p1 : Int) (p2 : Int) (p3 : Int) (p4 : Int) (y : (List Out) × Int) (hp : dynamics_spread_p p0 p1 p2 p3 p4 = some y) : Calls Tryz.prog 54 #[vp0, .int .i64 p1, .int .i64 p2, .int .i64 p3, .int .i64 p4] w (Ret E0 w fun w' v => ∃ uu0, v = .tuple #[uu0, .int .i64 y.2] ∧ SV OutsR (rd w' (old w)) uu0 y.1) := by
 have hVp0 := hp0
 refine ModelDV.op hp0 fun p0a1 p0a2 p0a3 p0a4 p0a5 p0a6 p0a7 p0a8 p0a9 p0a10 p0a11 p0a12 p0a13 p0a14 p0a15 p0a16 p0a17 p0a18 p0a19 p0a20 p0a21 p0a22 p0a23 p0a24 hv9 p0a_h0 p0a_h1 p0a_h2 p0a_h3 p0a_h4 p0a_h5 p0a_h6 p0a_h7 p0a_h8 p0a_h9 p0a_h10 p0a_h11 => ?_
 subst hv9
 unfold dynamics_spread_p at hp
 refine zenM Tryz.func54 ?_
 have B0 : St E0 w X w X [] := St.start hX
 refine zz 2 ?_
 refine zn pn (.cells #[.slice p0a1 p0.height.length p0a2, .slice p0a3 p0.own.length p0a4, .slice p0a5 p0.other.length p0a6, .slice p0a7 p0.advisories.length p0a8, .int .i64 p0.pull, .int .i64 p0.near, .int .i64 p0.steps, .slice p0a9 p0.ownNoise.length p0a10, .slice p0a11 p0.otherNoise.length p0a12, .bool p0.alert.neg, .slice p0a13 p0.alert.ln.length p0a14, .slice p0a15 p0.alert.ld.length p0a16, .bool p0.strengthen.neg, .slice p0a17 p0.strengthen.ln.length p0a18, .slice p0a19 p0.strengthen.ld.length p0a20, .bool p0.reversal.neg, .slice p0a21 p0.reversal.ln.length p0a22, .slice p0a23 p0.reversal.ld.length p0a24] 30 (0, 0)) B0 ?_
 intro b3 w3 Y3 B3 j3 hu3
 refine zn pn (.cells #[.int .i64 p1] 3 (0, 0)) B3 ?_
 intro b5 w5 Y5 B5 j5 hu5
 refine zn pn (.cells #[.int .i64 p2] 3 (0, 0)) B5 ?_
 intro b7 w7 Y7 B7 j7 hu7
 refine zn pn (.cells #[.int .i64 p3] 3 (0, 0)) B7 ?_
 intro b9 w9 Y9 B9 j9 hu9
 refine zn pn (.cells #[.int .i64 p4] 3 (0, 0)) B9 ?_
 intro b11 w11 Y11 B11 j11 hu11
 refine zn pn (.cells #[.slice none 0 0] 33 (0, 0)) B11 ?_
 intro b13 w13 Y13 B13 j13 hu13
 refine zn pn (.cells #[.int .i64 0] 34 (0, 0)) B13 ?_
 intro b15 w15 Y15 B15 j15 hu15
 refine zz 4 ?_
 refine zop (at1 [] Tryz.f54 [1, 0]) 0 (fun a16 _ C16 hz16 => op_new (d := 25) (fun b => .map (some b)) (mapO []) C16 kr B15 kw ?_)
 intro b17 w17 Y17 B17 j17 hu17 a18 C18
 refine hz16 C18 ?_
 refine zn pn (.cells #[.map none] 124 (0, 0)) B17 ?_
 intro b20 w20 Y20 B20 j20 hu20
 refine zx 0 #[.map (some b17)] B20 ?_
 intro w21 B21 j21
 refine zz 5 ?_
 refine zo 8 B21 ?_
 refine zci (vs := #[.agg #[.slice p0a1 p0.height.length p0a2, .slice p0a3 p0.own.length p0a4, .slice p0a5 p0.other.length p0a6, .slice p0a7 p0.advisories.length p0a8, .int .i64 p0.pull, .int .i64 p0.near, .int .i64 p0.steps, .slice p0a9 p0.ownNoise.length p0a10, .slice p0a11 p0.otherNoise.length p0a12, .bool p0.alert.neg, .slice p0a13 p0.alert.ln.length p0a14, .slice p0a15 p0.alert.ld.length p0a16, .bool p0.strengthen.neg, .slice p0a17 p0.strengthen.ln.length p0a18, .slice p0a19 p0.strengthen.ld.length p0a20, .bool p0.reversal.neg, .slice p0a21 p0.reversal.ln.length p0a22, .slice p0a23 p0.reversal.ld.length p0a24]]) Tryz.func97 (fun R22 hR22 => ?_)
 refine zz 2 ?_
 refine zn pn (.cells #[.slice p0a1 p0.height.length p0a2, .slice p0a3 p0.own.length p0a4, .slice p0a5 p0.other.length p0a6, .slice p0a7 p0.advisories.length p0a8, .int .i64 p0.pull, .int .i64 p0.near, .int .i64 p0.steps, .slice p0a9 p0.ownNoise.length p0a10, .slice p0a11 p0.otherNoise.length p0a12, .bool p0.alert.neg, .slice p0a13 p0.alert.ln.length p0a14, .slice p0a15 p0.alert.ld.length p0a16, .bool p0.strengthen.neg, .slice p0a17 p0.strengthen.ln.length p0a18, .slice p0a19 p0.strengthen.ld.length p0a20, .bool p0.reversal.neg, .slice p0a21 p0.reversal.ln.length p0a22, .slice p0a23 p0.reversal.ld.length p0a24] 30 (0, 0)) B21 ?_
 intro b24 w24 Y24 B24 j24 hu24
 refine zz 10 ?_
 refine zr' (v := .func (.func 129) #[] #[.pointer (some ⟨b24, 0, none⟩)]) ?_
 refine hR22 _ _ ?_
 refine zz 3 ?_
 refine zrng (caps := #[.pointer (some ⟨b24, 0, none⟩)]) B24 (fun a25 rec25 l25 b25 w25 Y25 hFa25 hr25 B25 j25 hu25 => ?_) (hcall := fun args w => Tryz.call129 args w)
 refine zen Tryz.func129 ?_
 refine zz 3 ?_
 refine zo 2 B25 ?_
 refine zz 5 ?_
 have hc1_ := (Le3 j20 j21 j24).trans j25
 have hb27 : (p0.ownNoise.length : Int) ≤ 9223372036854775807 := lenb (p0a_h4).hcap (p0a_h4).hbig
 refine zlp Tryz.f129 [] [1, 0] (fun ((k27, v27_1, es27_1) : Nat × (List (Int × Raw)) × (List (Int × Value))) => [(0, .func (.yield l25) #[] #[]), (1, .pointer (some ⟨b24, 0, none⟩)), (10, .slice p0a9 p0.ownNoise.length p0a10), (11, .int .i64 (p0.ownNoise.length : Int)), (12, .int .i64 (k27 : Int))]) (fun ((k27, v27_1, es27_1) : Nat × (List (Int × Raw)) × (List (Int × Value))) w1 => ∃ Y1 : Hid, St E0 w X w1 Y1 [(l25, .loop rec25), (b25, .deferred (some [])), (b24, .cells #[.slice p0a1 p0.height.length p0a2, .slice p0a3 p0.own.length p0a4, .slice p0a5 p0.other.length p0a6, .slice p0a7 p0.advisories.length p0a8, .int .i64 p0.pull, .int .i64 p0.near, .int .i64 p0.steps, .slice p0a9 p0.ownNoise.length p0a10, .slice p0a11 p0.otherNoise.length p0a12, .bool p0.alert.neg, .slice p0a13 p0.alert.ln.length p0a14, .slice p0a15 p0.alert.ld.length p0a16, .bool p0.strengthen.neg, .slice p0a17 p0.strengthen.ln.length p0a18, .slice p0a19 p0.strengthen.ld.length p0a20, .bool p0.reversal.neg, .slice p0a21 p0.reversal.ln.length p0a22, .slice p0a23 p0.reversal.ld.length p0a24] 30 (0, 0)), (b20, .cells #[.map (some b17)] 124 (0, 0)), (b17, mapO es27_1), (b15, .cells #[.int .i64 0] 34 (0, 0)), (b13, .cells #[.slice none 0 0] 33 (0, 0)), (b11, .cells #[.int .i64 p4] 3 (0, 0)), (b9, .cells #[.int .i64 p3] 3 (0, 0)), (b7, .cells #[.int .i64 p2] 3 (0, 0)), (b5, .cells #[.int .i64 p1] 3 (0, 0)), (b3, .cells #[.slice p0a1 p0.height.length p0a2, .slice p0a3 p0.own.length p0a4, .slice p0a5 p0.other.length p0a6, .slice p0a7 p0.advisories.length p0a8, .int .i64 p0.pull, .int .i64 p0.near, .int .i64 p0.steps, .slice p0a9 p0.ownNoise.length p0a10, .slice p0a11 p0.otherNoise.length p0a12, .bool p0.alert.neg, .slice p0a13 p0.alert.ln.length p0a14, .slice p0a15 p0.alert.ld.length p0a16, .bool p0.strengthen.neg, .slice p0a17 p0.strengthen.ln.length p0a18, .slice p0a19 p0.strengthen.ld.length p0a20, .bool p0.reversal.neg, .slice p0a21 p0.reversal.ln.length p0a22, .slice p0a23 p0.reversal.ld.length p0a24] 30 (0, 0))] ∧ Le (rd w25 Y25) (rd w1 Y1) ∧ MapR RawV (rd w1 (orN Y1 w.heap.size)) es27_1 v27_1 ∧ dynamics_spread_l27 p0 p1 p2 p3 p4 (p0.ownNoise.drop k27)  v27_1 = some y) (fun ((k27, v27_1, es27_1) : Nat × (List (Int × Raw)) × (List (Int × Value))) => p0.ownNoise.length - k27) (0, ([] : List (Int × Raw)), []) ?_ ?_
 ·
  exact ⟨_, B25, Le.refl _, (MapR.mono (V := RawV) (fun h k => RawV.mono h k) MapR.nil (Le.or hc1_ _)), hp⟩
 rintro ⟨k27, v27_1, es27_1⟩ w27 K27 G27 ⟨Y27, B27, j27, hfv27_1_0, hp⟩
 refine zz 6 ?_
 refine zt 13 (p := (k27 : Int) < (p0.ownNoise.length : Int)) (fun ht28 => ?_) (fun ht28 => ?_)
 ·
  have hob := get_lt (l := p0.ownNoise) (k := k27) (lt_of_int ht28)
  obtain ⟨x27, hqx27⟩ := hob
  rw [dropC hqx27, dynamics_spread_l27] at hp
  have hzx27 : (0 : Int) ≤ (k27 : Int) := Int.natCast_nonneg _
  refine zz 3 ?_
  have hob := ltd1 hp
  obtain ⟨J29, hJ29, hp⟩ := hob
  refine zjoin (fun ((v29_0, es29_0) : (List (Int × Raw)) × (List (Int × Value))) => [(0, .func (.yield l25) #[] #[]), (1, .pointer (some ⟨b24, 0, none⟩)), (10, .slice p0a9 p0.ownNoise.length p0a10), (11, .int .i64 (p0.ownNoise.length : Int)), (12, .int .i64 (k27 : Int))]) (fun ((v29_0, es29_0) : (List (Int × Raw)) × (List (Int × Value))) w1 => ∃ Y1 : Hid, St E0 w X w1 Y1 [(l25, .loop rec25), (b25, .deferred (some [])), (b24, .cells #[.slice p0a1 p0.height.length p0a2, .slice p0a3 p0.own.length p0a4, .slice p0a5 p0.other.length p0a6, .slice p0a7 p0.advisories.length p0a8, .int .i64 p0.pull, .int .i64 p0.near, .int .i64 p0.steps, .slice p0a9 p0.ownNoise.length p0a10, .slice p0a11 p0.otherNoise.length p0a12, .bool p0.alert.neg, .slice p0a13 p0.alert.ln.length p0a14, .slice p0a15 p0.alert.ld.length p0a16, .bool p0.strengthen.neg, .slice p0a17 p0.strengthen.ln.length p0a18, .slice p0a19 p0.strengthen.ld.length p0a20, .bool p0.reversal.neg, .slice p0a21 p0.reversal.ln.length p0a22, .slice p0a23 p0.reversal.ld.length p0a24] 30 (0, 0)), (b20, .cells #[.map (some b17)] 124 (0, 0)), (b17, mapO es29_0), (b15, .cells #[.int .i64 0] 34 (0, 0)), (b13, .cells #[.slice none 0 0] 33 (0, 0)), (b11, .cells #[.int .i64 p4] 3 (0, 0)), (b9, .cells #[.int .i64 p3] 3 (0, 0)), (b7, .cells #[.int .i64 p2] 3 (0, 0)), (b5, .cells #[.int .i64 p1] 3 (0, 0)), (b3, .cells #[.slice p0a1 p0.height.length p0a2, .slice p0a3 p0.own.length p0a4, .slice p0a5 p0.other.length p0a6, .slice p0a7 p0.advisories.length p0a8, .int .i64 p0.pull, .int .i64 p0.near, .int .i64 p0.steps, .slice p0a9 p0.ownNoise.length p0a10, .slice p0a11 p0.otherNoise.length p0a12, .bool p0.alert.neg, .slice p0a13 p0.alert.ln.length p0a14, .slice p0a15 p0.alert.ld.length p0a16, .bool p0.strengthen.neg, .slice p0a17 p0.strengthen.ln.length p0a18, .slice p0a19 p0.strengthen.ld.length p0a20, .bool p0.reversal.neg, .slice p0a21 p0.reversal.ln.length p0a22, .slice p0a23 p0.reversal.ld.length p0a24] 30 (0, 0))] ∧ Le (rd w27 Y27) (rd w1 Y1) ∧ MapR RawV (rd w1 (orN Y1 w.heap.size)) es29_0 v29_0 ∧ J29 v29_0 = some y) ?_ ?_
  ·
   rintro ⟨v29_0, es29_0⟩ w29 ⟨Y29, B29, j29, hfv29_0_0, hp⟩
   have hp := (hJ29 _).symm.trans hp
   refine zz 2 ?_
   refine zs 41 (v := .int .i64 (IntKind.i64.wrap ((k27 : Int) + 1))) (v' := .int .i64 ((k27 : Int) + 1)) (vint (wi64 (wk0 k27) (wk1 ht28 hb27))) ?_
   refine zz 2 ?_
   refine znext (fun a h => G27 (k27 + 1, v29_0, es29_0) _ a h ⟨_, B29, (Le2 j27 j29), hfv29_0_0, hp⟩ ?_)
   exact mu_lt ht28
  intro K30 G30
  refine zz 3 ?_
  have hob := p0a_h4.opn hqx27
  obtain ⟨be31, oe31, rfl, j31, hEe31⟩ := hob
  obtain ⟨e311, e312, e313, e314, e31_at, e31_h0, e31_h1⟩ := hEe31
  refine zi (b := be31) (off := oe31) (len := p0.ownNoise.length) (cap := p0a10) (kd := .i64) (i := (k27 : Int)) 4 (oe31 + k27 * 4) ?_ (h0 := hzx27) (h1 := (ix_b hzx27 j31))
  have hc2_ := (Le12 j3 j5 j7 j9 j11 j13 j15 j17 j20 j21 j24 j25).trans j27
  refine zl ((e31_at.mono hc2_)).cells ?_
  refine zn pn (.cells #[.int .i64 0, .bool false, .slice none 0 0, .slice none 0 0] 58 (0, 0)) B27 ?_
  intro b33 w33 Y33 B33 j33 hu33
  refine zx 0 #[.int .i64 x27.delta, .bool x27.p.neg, .slice e311 x27.p.ln.length e312, .slice e313 x27.p.ld.length e314] B33 ?_
  intro w34 B34 j34
  refine zz 5 ?_
  refine zo 3 B34 ?_
  refine zz 5 ?_
  have hb35 : (p0.otherNoise.length : Int) ≤ 9223372036854775807 := lenb (p0a_h5).hcap (p0a_h5).hbig
  refine zlp Tryz.f129 [K27, K30] [1, 0, 0, 1, 1, 9, 0, 1, 1, 0] (fun ((k35, v35_1, es35_1) : Nat × (List (Int × Raw)) × (List (Int × Value))) => [(0, .func (.yield l25) #[] #[]), (1, .pointer (some ⟨b24, 0, none⟩)), (4, .pointer (some ⟨b33, 0, none⟩)), (10, .slice (some ⟨be31, oe31, none⟩) p0.ownNoise.length p0a10), (11, .int .i64 (p0.ownNoise.length : Int)), (12, .int .i64 (k27 : Int)), (17, .slice p0a11 p0.otherNoise.length p0a12), (18, .int .i64 (p0.otherNoise.length : Int)), (19, .int .i64 (k35 : Int))]) (fun ((k35, v35_1, es35_1) : Nat × (List (Int × Raw)) × (List (Int × Value))) w1 => ∃ Y1 : Hid, St E0 w X w1 Y1 [(b33, .cells #[.int .i64 x27.delta, .bool x27.p.neg, .slice e311 x27.p.ln.length e312, .slice e313 x27.p.ld.length e314] 58 (0, 0)), (l25, .loop rec25), (b25, .deferred (some [])), (b24, .cells #[.slice p0a1 p0.height.length p0a2, .slice p0a3 p0.own.length p0a4, .slice p0a5 p0.other.length p0a6, .slice p0a7 p0.advisories.length p0a8, .int .i64 p0.pull, .int .i64 p0.near, .int .i64 p0.steps, .slice (some ⟨be31, oe31, none⟩) p0.ownNoise.length p0a10, .slice p0a11 p0.otherNoise.length p0a12, .bool p0.alert.neg, .slice p0a13 p0.alert.ln.length p0a14, .slice p0a15 p0.alert.ld.length p0a16, .bool p0.strengthen.neg, .slice p0a17 p0.strengthen.ln.length p0a18, .slice p0a19 p0.strengthen.ld.length p0a20, .bool p0.reversal.neg, .slice p0a21 p0.reversal.ln.length p0a22, .slice p0a23 p0.reversal.ld.length p0a24] 30 (0, 0)), (b20, .cells #[.map (some b17)] 124 (0, 0)), (b17, mapO es35_1), (b15, .cells #[.int .i64 0] 34 (0, 0)), (b13, .cells #[.slice none 0 0] 33 (0, 0)), (b11, .cells #[.int .i64 p4] 3 (0, 0)), (b9, .cells #[.int .i64 p3] 3 (0, 0)), (b7, .cells #[.int .i64 p2] 3 (0, 0)), (b5, .cells #[.int .i64 p1] 3 (0, 0)), (b3, .cells #[.slice p0a1 p0.height.length p0a2, .slice p0a3 p0.own.length p0a4, .slice p0a5 p0.other.length p0a6, .slice p0a7 p0.advisories.length p0a8, .int .i64 p0.pull, .int .i64 p0.near, .int .i64 p0.steps, .slice (some ⟨be31, oe31, none⟩) p0.ownNoise.length p0a10, .slice p0a11 p0.otherNoise.length p0a12, .bool p0.alert.neg, .slice p0a13 p0.alert.ln.length p0a14, .slice p0a15 p0.alert.ld.length p0a16, .bool p0.strengthen.neg, .slice p0a17 p0.strengthen.ln.length p0a18, .slice p0a19 p0.strengthen.ld.length p0a20, .bool p0.reversal.neg, .slice p0a21 p0.reversal.ln.length p0a22, .slice p0a23 p0.reversal.ld.length p0a24] 30 (0, 0))] ∧ Le (rd w34 Y33) (rd w1 Y1) ∧ MapR RawV (rd w1 (orN Y1 w.heap.size)) es35_1 v35_1 ∧ dynamics_spread_l35 p0 p1 p2 p3 p4 x27 J29 (p0.otherNoise.drop k35)  v35_1 = some y) (fun ((k35, v35_1, es35_1) : Nat × (List (Int × Raw)) × (List (Int × Value))) => p0.otherNoise.length - k35) (0, v27_1, es27_1) ?_ ?_
  ·
   exact ⟨_, B34, Le.refl _, (MapR.mono (V := RawV) (fun h k => RawV.mono h k) hfv27_1_0 (Le.or (Le2 j33 j34) _)), hp⟩
  rintro ⟨k35, v35_1, es35_1⟩ w35 K35 G35 ⟨Y35, B35, j35, hfv35_1_0, hp⟩
  refine zz 6 ?_
  refine zt 20 (p := (k35 : Int) < (p0.otherNoise.length : Int)) (fun ht36 => ?_) (fun ht36 => ?_)
  ·
   have hob := get_lt (l := p0.otherNoise) (k := k35) (lt_of_int ht36)
   obtain ⟨x35, hqx35⟩ := hob
   rw [dropC hqx35, dynamics_spread_l35] at hp
   have hzx35 : (0 : Int) ≤ (k35 : Int) := Int.natCast_nonneg _
   refine zz 7 ?_
   have hob := p0a_h5.opn hqx35
   obtain ⟨be37, oe37, rfl, j37, hEe37⟩ := hob
   obtain ⟨e371, e372, e373, e374, e37_at, e37_h0, e37_h1⟩ := hEe37
   refine zi (b := be37) (off := oe37) (len := p0.otherNoise.length) (cap := p0a12) (kd := .i64) (i := (k35 : Int)) 4 (oe37 + k35 * 4) ?_ (h0 := hzx35) (h1 := (ix_b hzx35 j37))
   have hc3_ := ((hc2_.trans j33).trans j34).trans j35
   refine zl ((e37_at.mono hc3_)).cells ?_
   refine zn pn (.cells #[.int .i64 0, .bool false, .slice none 0 0, .slice none 0 0] 58 (0, 0)) B35 ?_
   intro b39 w39 Y39 B39 j39 hu39
   refine zx 0 #[.int .i64 x35.delta, .bool x35.p.neg, .slice e371 x35.p.ln.length e372, .slice e373 x35.p.ld.length e374] B39 ?_
   intro w40 B40 j40
   refine zz 5 ?_
   refine zo 1 B40 ?_
   refine zz 1 ?_
   refine zo 0 B40 ?_
   have hc4_ := (hc3_.trans j39).trans j40
   refine bndk hp fun y42 hy42 hp => ?_
   refine zc B40 (rat_Mul_c _ X0 (X0_lt _) x27.p _ ⟨_, _, _, _, _, _, rfl, ((e31_h0.mono hc4_).mono Le.x0), ((e31_h1.mono hc4_).mono Le.x0)⟩ x35.p _ ⟨_, _, _, _, _, _, rfl, ((e37_h0.mono hc4_).mono Le.x0), ((e37_h1.mono hc4_).mono Le.x0)⟩ y42 hy42) ?_
   rintro v43 w43 B43 j43 hu43 ⟨uu43_0, rfl, ⟨u43_0_1, u43_0_2, u43_0_3, u43_0_4, u43_0_5, u43_0_6, rfl, u43_0__h0, u43_0__h1⟩⟩
   have hob := u43_0__h0.hlen
   subst hob
   have hob := u43_0__h1.hlen
   subst hob
   refine zz 3 ?_
   refine zn pn (.cells #[.bool false, .slice none 0 0, .slice none 0 0] 28 (0, 0)) B43 ?_
   intro b45 w45 Y45 B45 j45 hu45
   refine zx 0 #[.bool y42.1.neg, .slice u43_0_1 y42.1.ln.length u43_0_3, .slice u43_0_4 y42.1.ld.length u43_0_6] B45 ?_
   intro w46 B46 j46
   refine zz 7 ?_
   refine zo 2 B46 ?_
   refine zz 1 ?_
   refine zo 1 B46 ?_
   refine zz 1 ?_
   refine zo 0 B46 ?_
   refine zyld (l := l25) (vs := #[.agg #[.int .i64 x27.delta, .int .i64 x35.delta], .agg #[.bool y42.1.neg, .slice u43_0_1 y42.1.ln.length u43_0_3, .slice u43_0_4 y42.1.ld.length u43_0_6]]) (fun R47 hR47 => ?_)
   refine zround2 3 hr25 hFa25 B46 ?_
   refine zz 2 ?_
   refine zn pn (.cells #[.int .i64 0, .int .i64 0] 128 (0, 0)) B46 ?_
   intro b49 w49 Y49 B49 j49 hu49
   refine zx 0 #[.int .i64 x27.delta, .int .i64 x35.delta] B49 ?_
   intro w50 B50 j50
   refine zz 3 ?_
   refine zn pn (.cells #[.bool false, .slice none 0 0, .slice none 0 0] 28 (0, 0)) B50 ?_
   intro b52 w52 Y52 B52 j52 hu52
   refine zx 0 #[.bool y42.1.neg, .slice u43_0_1 y42.1.ln.length u43_0_3, .slice u43_0_4 y42.1.ld.length u43_0_6] B52 ?_
   intro w53 B53 j53
   refine zz 1 ?_
   refine zbody 5 hr25 B53 (fun w54 B54 j54 => ?_)
   refine zz 2 ?_
   refine zdraw [0, 1, 2, 3, 4, 7, 8, 10, 11, 12, 13, 14, 15, 16] B54 ?_
   refine gw 0 13 ?_
   refine gw 2 12 ?_
   refine gw 3 10 ?_
   refine gz [4] ?_
   refine gw 5 11 ?_
   refine gz [6] ?_
   refine gw 7 13 ?_
   refine gw 8 11 ?_
   refine gw 9 9 ?_
   refine gH (v := .pointer (some ⟨b49, 0, none⟩)) 11 (fun w => run_indexArr (e := 3) (nn := 2) (b := b49) (off := 0) (kd := .i64) (i := 0) (g := false) (m := 1) (off' := 0) rfl kr kr kr kr (by decide) (by decide) (by decide)) ?_
   refine gw 12 1 ?_
   refine gw 14 10 ?_
   refine gH (v := .pointer (some ⟨b49, 1, none⟩)) 15 (fun w => run_indexArr (e := 3) (nn := 2) (b := b49) (off := 0) (kd := .i64) (i := 1) (g := false) (m := 1) (off' := 1) rfl kr kr kr kr (by decide) (by decide) (by decide)) ?_
   refine gw 16 1 ?_
   refine gz [17] ?_
   have hc5_ := (((((((hc4_.trans j43).trans j45).trans j46).trans j49).trans j50).trans j52).trans j53).trans j54
   refine bndk hp fun y56 hy56 hp => ?_
   refine gC 1 (fun w55 Y55 _ B55 j55 => (dynamics_grid_c _ _ B55.lt p0 _ (hVp0.mono (hc5_.trans j55)) y56 hy56)) ?_
   rintro v57 w55 Y57 w57 B55 j57 ⟨u57_0_1, u57_0_2, rfl, u57_0__h0⟩
   have hc6_ := hc5_.trans j57
   refine bndk hp fun y59 hy59 hp => ?_
   refine gC 10 (fun w58 Y58 _ B58 j58 => (dynamics_respond_c _ X0 (X0_lt _) p0 _ ((hVp0.mono (hc6_.trans j58)).mono Le.x0) (p2) (p4) y59 hy59)) ?_
   rintro v60 w58 Y60 w60 B58 j60 rfl
   refine gz [13] ?_
   refine gp1 (al 18 49 (fun b => .slice (some ⟨b, 0, none⟩) 3 3) (.cells #[.int .i64 (IntKind.i64.wrap ((IntKind.i64.wrap ((p1) + p3)) - p2)), .int .i64 (IntKind.i64.wrap ((y59) + x27.delta)), .int .i64 (IntKind.i64.wrap ((p3) + x35.delta))] 3 (0, 0))) (fun b61 => ?_)
   refine bndk hp fun y63 hy63 hp => ?_
   refine gC 19 (vs := #[.slice u57_0_1 y56.length u57_0_2, .slice (some ⟨b61, 0, none⟩) 3 3]) (fun w62 Y62 _ B62 j62 => (interp_Weights_c _ X0 (X0_lt _) y56 _ ⟨_, _, rfl, ((u57_0__h0.mono (Le2 j60 j62)).mono Le.x0)⟩ ([IntKind.i64.wrap ((IntKind.i64.wrap ((p1) + p3)) - p2), IntKind.i64.wrap ((y59) + x27.delta), IntKind.i64.wrap ((p3) + x35.delta)]) _ ⟨_, _, rfl, (SlR.lit (El := IntAt) (size := 1) (n := 3) [⟨(IntKind.i64.wrap ((IntKind.i64.wrap ((p1) + p3)) - p2) : Int), [.int .i64 (IntKind.i64.wrap ((IntKind.i64.wrap ((p1) + p3)) - p2))]⟩, ⟨(IntKind.i64.wrap ((y59) + x27.delta) : Int), [.int .i64 (IntKind.i64.wrap ((y59) + x27.delta))]⟩, ⟨(IntKind.i64.wrap ((p3) + x35.delta) : Int), [.int .i64 (IntKind.i64.wrap ((p3) + x35.delta))]⟩] (B62.at0 0 rfl rfl) (List.forall_mem_cons.2 ⟨⟨rfl, fun r2 h2 b o h9 => h9⟩, (List.forall_mem_cons.2 ⟨⟨rfl, fun r2 h2 b o h9 => h9⟩, (List.forall_mem_cons.2 ⟨⟨rfl, fun r2 h2 b o h9 => h9⟩, (List.forall_mem_nil _)⟩)⟩)⟩) rfl (by decide))⟩ y63 hy63)) ?_
   rintro v64 w62 Y64 w64 B62 j64 ⟨uu64_0, rfl, ⟨u64_0_1, u64_0_2, rfl, u64_0__h0⟩⟩
   refine gz [20, 21, 22, 23, 24] ?_
   refine gend (fun w65 Y65 B65 j65 => ?_)
   refine zz 8 ?_
   refine zb 54 (b := ((y63.2) != 0)) (fun hc66 => ?_) (fun hc66 => ?_)
   ·
    have hp := ipb hc66 hp
    refine zz 4 ?_
    refine zx 12 #[.slice none 0 0] B65 ?_
    intro w67 B67 j67
    refine zx 11 #[.int .i64 y63.2] B67 ?_
    intro w68 B68 j68
    refine zz 5 ?_
    refine zrret 6 B68 (fun w69 B69 j69 => ?_)
    refine hR47 _ _ ?_
    refine zz 13 ?_
    refine zr' (v := .tuple #[]) ?_
    refine ⟨⟨_, rfl⟩, ?_⟩
    refine zrendR 6 b25 hFa25 B69 (fun w70 B70 j70 => ?_)
    refine zz 2 ?_
    refine zrM1 7 [.cell 10 33, .cell 11 34] (v := .tuple #[.slice none 0 0, .int .i64 y63.2]) B70 (fun w71 B71 j71 => ⟨(Res.cM B71 12 (Res.cM B71 11 Res.nil)), ?_⟩)
    have hob := Option.some.inj hp
    subst hob
    exact ⟨B71.upd, _, rfl, ⟨_, rfl, ⟨_, _, rfl, (show OutsR _ none 0 0 [] from SlR.nil none (by decide))⟩⟩⟩
   have hp := iqb hc66 hp
   refine zz 11 ?_
   have hc7_ := (Le13 j39 j40 j43 j45 j46 j49 j50 j52 j53 j54 j57 j60 j64).trans j65
   have hob := ltd1 hp
   obtain ⟨Jx72, hJx72, hp⟩ := hob
   have hb72 : (y63.1.length : Int) ≤ 9223372036854775807 := lenb ((u64_0__h0.mono (Le.new B62.lt))).hcap ((u64_0__h0.mono (Le.new B62.lt))).hbig
   refine zlp Tryz.f54 [] [1, 1, 0, 1, 0, 1, 0, 1, 1, 1, 0] (fun ((k72, v72_1, es72_1) : Nat × (List (Int × Raw)) × (List (Int × Value))) => [(5, .pointer (some ⟨b3, 0, none⟩)), (9, .pointer (some ⟨b11, 0, none⟩)), (10, .pointer (some ⟨b13, 0, none⟩)), (11, .pointer (some ⟨b15, 0, none⟩)), (12, .pointer (some ⟨b20, 0, none⟩)), (14, .pointer (some ⟨b52, 0, none⟩)), (56, .slice u64_0_1 y63.1.length u64_0_2), (57, .int .i64 (y63.1.length : Int)), (58, .int .i64 (k72 : Int))]) (fun ((k72, v72_1, es72_1) : Nat × (List (Int × Raw)) × (List (Int × Value))) w1 => ∃ Y1 : Hid, St E0 w X w1 Y1 [(b61, .cells #[.int .i64 (IntKind.i64.wrap ((IntKind.i64.wrap ((p1) + p3)) - p2)), .int .i64 (IntKind.i64.wrap ((y59) + x27.delta)), .int .i64 (IntKind.i64.wrap ((p3) + x35.delta))] 3 (0, 0)), (b52, .cells #[.bool y42.1.neg, .slice u43_0_1 y42.1.ln.length u43_0_3, .slice u43_0_4 y42.1.ld.length u43_0_6] 28 (0, 0)), (b49, .cells #[.int .i64 x27.delta, .int .i64 x35.delta] 128 (0, 0)), (b45, .cells #[.bool y42.1.neg, .slice u43_0_1 y42.1.ln.length u43_0_3, .slice u43_0_4 y42.1.ld.length u43_0_6] 28 (0, 0)), (b39, .cells #[.int .i64 x35.delta, .bool x35.p.neg, .slice e371 x35.p.ln.length e372, .slice e373 x35.p.ld.length e374] 58 (0, 0)), (b33, .cells #[.int .i64 x27.delta, .bool x27.p.neg, .slice e311 x27.p.ln.length e312, .slice e313 x27.p.ld.length e314] 58 (0, 0)), (l25, .loop (busyL rec25)), (b25, .deferred (some [])), (b24, .cells #[.slice p0a1 p0.height.length p0a2, .slice p0a3 p0.own.length p0a4, .slice p0a5 p0.other.length p0a6, .slice p0a7 p0.advisories.length p0a8, .int .i64 p0.pull, .int .i64 p0.near, .int .i64 p0.steps, .slice (some ⟨be31, oe31, none⟩) p0.ownNoise.length p0a10, .slice (some ⟨be37, oe37, none⟩) p0.otherNoise.length p0a12, .bool p0.alert.neg, .slice p0a13 p0.alert.ln.length p0a14, .slice p0a15 p0.alert.ld.length p0a16, .bool p0.strengthen.neg, .slice p0a17 p0.strengthen.ln.length p0a18, .slice p0a19 p0.strengthen.ld.length p0a20, .bool p0.reversal.neg, .slice p0a21 p0.reversal.ln.length p0a22, .slice p0a23 p0.reversal.ld.length p0a24] 30 (0, 0)), (b20, .cells #[.map (some b17)] 124 (0, 0)), (b17, mapO es72_1), (b15, .cells #[.int .i64 0] 34 (0, 0)), (b13, .cells #[.slice none 0 0] 33 (0, 0)), (b11, .cells #[.int .i64 p4] 3 (0, 0)), (b9, .cells #[.int .i64 p3] 3 (0, 0)), (b7, .cells #[.int .i64 p2] 3 (0, 0)), (b5, .cells #[.int .i64 p1] 3 (0, 0)), (b3, .cells #[.slice p0a1 p0.height.length p0a2, .slice p0a3 p0.own.length p0a4, .slice p0a5 p0.other.length p0a6, .slice p0a7 p0.advisories.length p0a8, .int .i64 p0.pull, .int .i64 p0.near, .int .i64 p0.steps, .slice (some ⟨be31, oe31, none⟩) p0.ownNoise.length p0a10, .slice (some ⟨be37, oe37, none⟩) p0.otherNoise.length p0a12, .bool p0.alert.neg, .slice p0a13 p0.alert.ln.length p0a14, .slice p0a15 p0.alert.ld.length p0a16, .bool p0.strengthen.neg, .slice p0a17 p0.strengthen.ln.length p0a18, .slice p0a19 p0.strengthen.ld.length p0a20, .bool p0.reversal.neg, .slice p0a21 p0.reversal.ln.length p0a22, .slice p0a23 p0.reversal.ld.length p0a24] 30 (0, 0))] ∧ Le (rd w65 Y65) (rd w1 Y1) ∧ MapR RawV (rd w1 (orN Y1 w.heap.size)) es72_1 v72_1 ∧ dynamics_spread_l72 p0 p4 y42 Jx72 (y63.1.drop k72)  v72_1 = some y) (fun ((k72, v72_1, es72_1) : Nat × (List (Int × Raw)) × (List (Int × Value))) => y63.1.length - k72) (0, v35_1, es35_1) ?_ ?_
   ·
    exact ⟨_, B65, Le.refl _, (MapR.mono (V := RawV) (fun h k => RawV.mono h k) hfv35_1_0 (Le.or hc7_ _)), hp⟩
   rintro ⟨k72, v72_1, es72_1⟩ w72 K72 G72 ⟨Y72, B72, j72, hfv72_1_0, hp⟩
   refine zz 6 ?_
   refine zt 59 (p := (k72 : Int) < (y63.1.length : Int)) (fun ht73 => ?_) (fun ht73 => ?_)
   ·
    have hob := get_lt (l := y63.1) (k := k72) (lt_of_int ht73)
    obtain ⟨x72, hqx72⟩ := hob
    rw [dropC hqx72, dynamics_spread_l72] at hp
    have hzx72 : (0 : Int) ≤ (k72 : Int) := Int.natCast_nonneg _
    refine zz 7 ?_
    have hob := (u64_0__h0.mono (Le.new B62.lt)).opn hqx72
    obtain ⟨be74, oe74, rfl, j74, hEe74⟩ := hob
    obtain ⟨e741, e742, e743, e744, e74_at, e74_h0, e74_h1⟩ := hEe74
    refine zi (b := be74) (off := oe74) (len := y63.1.length) (cap := u64_0_2) (kd := .i64) (i := (k72 : Int)) 4 (oe74 + k72 * 4) ?_ (h0 := hzx72) (h1 := (ix_b hzx72 j74))
    refine zl ((e74_at.mono (Le2 j65 j72))).cells ?_
    refine zn pn (.cells #[.int .i64 0, .bool false, .slice none 0 0, .slice none 0 0] 133 (0, 0)) B72 ?_
    intro b76 w76 Y76 B76 j76 hu76
    refine zx 0 #[.int .i64 x72.vertex, .bool x72.w.neg, .slice e741 x72.w.ln.length e742, .slice e743 x72.w.ld.length e744] B76 ?_
    intro w77 B77 j77
    refine zz 4 ?_
    refine zo 2 B77 ?_
    refine zz 1 ?_
    refine zo 0 B77 ?_
    have hc8_ := (Le13 j45 j46 j49 j50 j52 j53 j54 j57 j60 j64 j65 j72 j76).trans j77
    have hc9_ := (Le3 j65 j72 j76).trans j77
    refine bndk hp fun y79 hy79 hp => ?_
    refine zc B77 (rat_Mul_c _ X0 (X0_lt _) y42.1 _ ⟨_, _, _, _, _, _, rfl, (((u43_0__h0.mono (Le.new B40.lt)).mono hc8_).mono Le.x0), (((u43_0__h1.mono (Le.new B40.lt)).mono hc8_).mono Le.x0)⟩ x72.w _ ⟨_, _, _, _, _, _, rfl, ((e74_h0.mono hc9_).mono Le.x0), ((e74_h1.mono hc9_).mono Le.x0)⟩ y79 hy79) ?_
    rintro v80 w80 B80 j80 hu80 ⟨uu80_0, rfl, ⟨u80_0_1, u80_0_2, u80_0_3, u80_0_4, u80_0_5, u80_0_6, rfl, u80_0__h0, u80_0__h1⟩⟩
    have hob := u80_0__h0.hlen
    subst hob
    have hob := u80_0__h1.hlen
    subst hob
    refine zz 3 ?_
    refine zn pn (.cells #[.bool false, .slice none 0 0, .slice none 0 0] 28 (0, 0)) B80 ?_
    intro b82 w82 Y82 B82 j82 hu82
    refine zx 0 #[.bool y79.1.neg, .slice u80_0_1 y79.1.ln.length u80_0_3, .slice u80_0_4 y79.1.ld.length u80_0_6] B82 ?_
    intro w83 B83 j83
    refine zz 6 ?_
    refine zo 1 B83 ?_
    refine zz 1 ?_
    refine zo 19 B83 ?_
    refine zz 2 ?_
    refine zo 15 B83 ?_
    refine zz 4 ?_
    refine zN ⟨.code (at1 [K72] Tryz.f54 [1, 1, 0, 1, 0, 1, 0, 1, 1, 1, 0, 0, 1, 1, 0, 0, 1, 1, 1]), at2 [K72] Tryz.f54 [1, 1, 0, 1, 0, 1, 0, 1, 1, 1, 0, 0, 1, 1, 0, 0, 1, 1, 1], [(5, .pointer (some ⟨b3, 0, none⟩)), (9, .pointer (some ⟨b11, 0, none⟩)), (10, .pointer (some ⟨b13, 0, none⟩)), (11, .pointer (some ⟨b15, 0, none⟩)), (12, .pointer (some ⟨b20, 0, none⟩)), (14, .pointer (some ⟨b52, 0, none⟩)), (19, .pointer (some ⟨b82, 0, none⟩)), (21, .int .i64 (IntKind.i64.wrap ((IntKind.i64.wrap ((x72.vertex) * (p0.advisories.length : Int))) + p4))), (56, .slice (some ⟨be74, oe74, none⟩) y63.1.length u64_0_2), (57, .int .i64 (y63.1.length : Int)), (58, .int .i64 (k72 : Int))]⟩ ?_
    refine zdraw [0, 1, 2, 3, 4, 5, 6, 7, 10, 11, 13, 14, 15, 16, 17, 18, 19] B83 ?_
    refine gw 0 9 ?_
    refine gz [1] ?_
    refine gw 2 9 ?_
    refine gz [3] ?_
    refine gw 5 0 ?_
    refine gO 4 (fun a84 w84 Y84 C84 B84 j84 => ?_)
    have hc10_ := (Le5 j76 j77 j80 j82 j83).trans j84
    refine op_lookRZ (b := b17) (es := es72_1) (d := 82) 124 3 28 (IntKind.i64.wrap ((IntKind.i64.wrap ((x72.vertex) * (p0.advisories.length : Int))) + p4)) (.agg #[.bool false, .slice none 0 0, .slice none 0 0]) Raw.zero 12 C84 kr B84 kr kr kr kr kr kw (fun _ _ => by kernel_rfl) kr (MapR.mono (V := RawV) (fun h k => RawV.mono h k) hfv72_1_0 (Le.or hc10_ _)) ⟨none, 0, 0, none, 0, 0, rfl, Limbs.nil0, Limbs.nil0⟩ ?_
    refine bndk hp fun x87 hx87 hp => ?_
    intro v85 hv85
    rw [Option.some.inj hx87] at hv85
    obtain ⟨u85_1, u85_2, u85_3, u85_4, u85_5, u85_6, rfl, u85__h0, u85__h1⟩ := hv85
    have hob := u85__h0.hlen
    subst hob
    have hob := u85__h1.hlen
    subst hob
    intro a86 C86
    refine ⟨_, _, _, _, C86, B84, Le.refl _, .inr ⟨fun h => h, j84⟩, ?_⟩
    have hc11_ := (Le2 j82 j83).trans j84
    refine bndk hp fun y89 hy89 hp => ?_
    refine gC 6 (fun w88 Y88 _ B88 j88 => (rat_Add_c _ X0 (X0_lt _) x87 _ ⟨_, _, _, _, _, _, rfl, (((u85__h0.mono Le.orl).mono j88).mono Le.x0), (((u85__h1.mono Le.orl).mono j88).mono Le.x0)⟩ y79.1 _ ⟨_, _, _, _, _, _, rfl, (((u80_0__h0.mono (Le.new B77.lt)).mono (hc11_.trans j88)).mono Le.x0), (((u80_0__h1.mono (Le.new B77.lt)).mono (hc11_.trans j88)).mono Le.x0)⟩ y89 hy89)) ?_
    rintro v90 w88 Y90 w90 B88 j90 ⟨uu90_0, rfl, ⟨u90_0_1, u90_0_2, u90_0_3, u90_0_4, u90_0_5, u90_0_6, rfl, u90_0__h0, u90_0__h1⟩⟩
    have hob := u90_0__h0.hlen
    subst hob
    have hob := u90_0__h1.hlen
    subst hob
    refine gz [7, 8, 9] ?_
    refine gO 10 (fun a91 w91 Y91 C91 B91 j91 => ?_)
    have hob := grdp hp
    obtain ⟨hg93, hp⟩ := hob
    have hc12_ := (hc10_.trans j90).trans j91
    have hmp92 := MapR.put (V := RawV) (z := (IntKind.i64.wrap ((IntKind.i64.wrap ((x72.vertex) * (p0.advisories.length : Int))) + p4))) (v := .agg #[.bool y89.1.neg, .slice u90_0_1 y89.1.ln.length u90_0_3, .slice u90_0_4 y89.1.ld.length u90_0_6]) (x := y89.1) (MapR.mono (V := RawV) (fun h k => RawV.mono h k) hfv72_1_0 (Le.or hc12_ _)) hg93 ⟨_, _, _, _, _, _, rfl, (u90_0__h0.mono (Le.own B88.lt B88.upd.size j91)), (u90_0__h1.mono (Le.own B88.lt B88.upd.size j91))⟩
    refine op_mapUpdRZ (b := b17) 124 3 28 es72_1 (IntKind.i64.wrap ((IntKind.i64.wrap ((x72.vertex) * (p0.advisories.length : Int))) + p4)) (.agg #[.bool y89.1.neg, .slice u90_0_1 y89.1.ln.length u90_0_3, .slice u90_0_4 y89.1.ld.length u90_0_6]) 12 C91 kr B91 kr kr kr kr kr kr (fun _ _ => by kernel_rfl) kr ?_
    intro es94 hes94 w94 hSx94 j94
    have B94 : St E0 w X w94 Y91 [(b82, .cells #[.bool y79.1.neg, .slice u80_0_1 y79.1.ln.length u80_0_3, .slice u80_0_4 y79.1.ld.length u80_0_6] 28 (0, 0)), (b76, .cells #[.int .i64 x72.vertex, .bool x72.w.neg, .slice e741 x72.w.ln.length e742, .slice e743 x72.w.ld.length e744] 133 (0, 0)), (b61, .cells #[.int .i64 (IntKind.i64.wrap ((IntKind.i64.wrap ((p1) + p3)) - p2)), .int .i64 (IntKind.i64.wrap ((y59) + x27.delta)), .int .i64 (IntKind.i64.wrap ((p3) + x35.delta))] 3 (0, 0)), (b52, .cells #[.bool y42.1.neg, .slice u43_0_1 y42.1.ln.length u43_0_3, .slice u43_0_4 y42.1.ld.length u43_0_6] 28 (0, 0)), (b49, .cells #[.int .i64 x27.delta, .int .i64 x35.delta] 128 (0, 0)), (b45, .cells #[.bool y42.1.neg, .slice u43_0_1 y42.1.ln.length u43_0_3, .slice u43_0_4 y42.1.ld.length u43_0_6] 28 (0, 0)), (b39, .cells #[.int .i64 x35.delta, .bool x35.p.neg, .slice e371 x35.p.ln.length e372, .slice e373 x35.p.ld.length e374] 58 (0, 0)), (b33, .cells #[.int .i64 x27.delta, .bool x27.p.neg, .slice e311 x27.p.ln.length e312, .slice e313 x27.p.ld.length e314] 58 (0, 0)), (l25, .loop (busyL rec25)), (b25, .deferred (some [])), (b24, .cells #[.slice p0a1 p0.height.length p0a2, .slice p0a3 p0.own.length p0a4, .slice p0a5 p0.other.length p0a6, .slice p0a7 p0.advisories.length p0a8, .int .i64 p0.pull, .int .i64 p0.near, .int .i64 p0.steps, .slice (some ⟨be31, oe31, none⟩) p0.ownNoise.length p0a10, .slice (some ⟨be37, oe37, none⟩) p0.otherNoise.length p0a12, .bool p0.alert.neg, .slice p0a13 p0.alert.ln.length p0a14, .slice p0a15 p0.alert.ld.length p0a16, .bool p0.strengthen.neg, .slice p0a17 p0.strengthen.ln.length p0a18, .slice p0a19 p0.strengthen.ld.length p0a20, .bool p0.reversal.neg, .slice p0a21 p0.reversal.ln.length p0a22, .slice p0a23 p0.reversal.ld.length p0a24] 30 (0, 0)), (b20, .cells #[.map (some b17)] 124 (0, 0)), (b17, mapO es94), (b15, .cells #[.int .i64 0] 34 (0, 0)), (b13, .cells #[.slice none 0 0] 33 (0, 0)), (b11, .cells #[.int .i64 p4] 3 (0, 0)), (b9, .cells #[.int .i64 p3] 3 (0, 0)), (b7, .cells #[.int .i64 p2] 3 (0, 0)), (b5, .cells #[.int .i64 p1] 3 (0, 0)), (b3, .cells #[.slice p0a1 p0.height.length p0a2, .slice p0a3 p0.own.length p0a4, .slice p0a5 p0.other.length p0a6, .slice p0a7 p0.advisories.length p0a8, .int .i64 p0.pull, .int .i64 p0.near, .int .i64 p0.steps, .slice (some ⟨be31, oe31, none⟩) p0.ownNoise.length p0a10, .slice (some ⟨be37, oe37, none⟩) p0.otherNoise.length p0a12, .bool p0.alert.neg, .slice p0a13 p0.alert.ln.length p0a14, .slice p0a15 p0.alert.ld.length p0a16, .bool p0.strengthen.neg, .slice p0a17 p0.strengthen.ln.length p0a18, .slice p0a19 p0.strengthen.ld.length p0a20, .bool p0.reversal.neg, .slice p0a21 p0.reversal.ln.length p0a22, .slice p0a23 p0.reversal.ld.length p0a24] 30 (0, 0))] := hSx94
    rw [← hes94] at hmp92
    have hmr94 := MapR.mono (V := RawV) (fun h k => RawV.mono h k) hmp92 (Le.or j94 _)
    refine ⟨_, _, _, _, C91, B94, Le.refl _, .inr ⟨fun _ => selm [0, 1, 2, 3, 4, 5, 6, 7, 10, 11, 13, 14, 15, 16, 17, 18, 19], (Le2 j91 j94)⟩, ?_⟩
    refine gend (fun w95 Y95 B95 j95 => ?_)
    refine zz 4 ?_
    refine zs 87 (v := .int .i64 (IntKind.i64.wrap ((k72 : Int) + 1))) (v' := .int .i64 ((k72 : Int) + 1)) (vint (wi64 (wk0 k72) (wk1 ht73 hb72))) ?_
    refine zz 2 ?_
    have hc13_ := (Le10 j72 j76 j77 j80 j82 j83 j84 j90 j91 j94).trans j95
    refine znext (fun a h => G72 (k72 + 1, (putP (IntKind.i64.wrap ((IntKind.i64.wrap ((x72.vertex) * (p0.advisories.length : Int))) + p4)) y89.1 v72_1), es94) _ a h ⟨_, B95.tail.tail, hc13_, (MapR.mono (V := RawV) (fun h k => RawV.mono h k) hmr94 (Le.or j95 _)), hp⟩ ?_)
    exact mu_lt ht73
   rw [List.drop_eq_nil_of_le (nlt_of_int ht73), dynamics_spread_l72] at hp
   have hp := (hJx72 _).symm.trans hp
   refine zz 6 ?_
   refine zrnext 6 hr25 B72 (fun w96 B96 j96 => ?_)
   refine hR47 _ _ ?_
   refine zz 9 ?_
   refine zs 40 (v := .int .i64 (IntKind.i64.wrap ((k35 : Int) + 1))) (v' := .int .i64 ((k35 : Int) + 1)) (vint (wi64 (wk0 k35) (wk1 ht36 hb35))) ?_
   refine zz 2 ?_
   have hc14_ := (Le16 j35 j39 j40 j43 j45 j46 j49 j50 j52 j53 j54 j57 j60 j64 j65 j72).trans j96
   refine znext (fun a h => G35 (k35 + 1, v72_1, es72_1) _ a h ⟨_, B96.tail.tail.tail.tail.tail, hc14_, (MapR.mono (V := RawV) (fun h k => RawV.mono h k) hfv72_1_0 (Le.or j96 _)), hp⟩ ?_)
   exact mu_lt ht36
  rw [List.drop_eq_nil_of_le (nlt_of_int ht36), dynamics_spread_l35] at hp
  refine zz 6 ?_
  exact znext (fun a h => G30 (v35_1, es35_1) _ a h ⟨_, B35.tail, (Le3 j33 j34 j35), hfv35_1_0, hp⟩)
 rw [List.drop_eq_nil_of_le (nlt_of_int ht28), dynamics_spread_l27] at hp
 refine zz 5 ?_
 refine zr' (v := .tuple #[]) ?_
 refine ⟨⟨_, rfl⟩, ?_⟩
 refine zrend 0 b25 hr25 hFa25 B27 (fun w97 B97 j97 => ?_)
 refine zz 5 ?_
 refine zo 3 B97 ?_
 refine zop (at1 [] Tryz.f54 [1, 1, 1, 0, 0]) 1 (fun a98 _ C98 hz98 => op_lenMZ (b := b17) (d := 89) 124 3 28 es27_1 4 C98 kr B97 kr kr kr kr ?_)
 rw [MapR.len hfv27_1_0]
 intro a99 C99
 refine hz98 C99 ?_
 refine zz 3 ?_
 refine zt 90 (p := (v27_1.length : Int) > 64) (fun ht100 => ?_) (fun ht100 => ?_)
 ·
  have hp := ip ht100 hp
  refine zz 3 ?_
  refine zx 6 #[.slice none 0 0] B97 ?_
  intro w101 B101 j101
  refine zx 5 #[.int .i64 10] B101 ?_
  intro w102 B102 j102
  refine zz 4 ?_
  refine zrM1 1 [.cell 10 33, .cell 11 34] (v := .tuple #[.slice none 0 0, .int .i64 10]) B102 (fun w103 B103 j103 => ⟨(Res.cM B103 6 (Res.cM B103 5 Res.nil)), ?_⟩)
  have hob := Option.some.inj hp
  subst hob
  exact ⟨B103.upd, _, rfl, ⟨_, rfl, ⟨_, _, rfl, (show OutsR _ none 0 0 [] from SlR.nil none (by decide))⟩⟩⟩
 have hp := iq ht100 hp
 refine zz 8 ?_
 have hob := ltd1 hp
 obtain ⟨J104, hJ104, hp⟩ := hob
 refine zjoin (fun ((v104_0, rb104_0, ad104_0, m104_0, cap104_0) : (List Out) × (List (Nat × Obj)) × (Option Addr) × Nat × Nat) => [(22, .slice ad104_0 m104_0 cap104_0), (10, .pointer (some ⟨b13, 0, none⟩)), (11, .pointer (some ⟨b15, 0, none⟩))]) (fun ((v104_0, rb104_0, ad104_0, m104_0, cap104_0) : (List Out) × (List (Nat × Obj)) × (Option Addr) × Nat × Nat) w1 => ∃ Y1 : Hid, St E0 w X w1 Y1 ((l25, .loop (exhL rec25)) :: (b25, .deferred (some [])) :: (b24, .cells #[.slice p0a1 p0.height.length p0a2, .slice p0a3 p0.own.length p0a4, .slice p0a5 p0.other.length p0a6, .slice p0a7 p0.advisories.length p0a8, .int .i64 p0.pull, .int .i64 p0.near, .int .i64 p0.steps, .slice p0a9 p0.ownNoise.length p0a10, .slice p0a11 p0.otherNoise.length p0a12, .bool p0.alert.neg, .slice p0a13 p0.alert.ln.length p0a14, .slice p0a15 p0.alert.ld.length p0a16, .bool p0.strengthen.neg, .slice p0a17 p0.strengthen.ln.length p0a18, .slice p0a19 p0.strengthen.ld.length p0a20, .bool p0.reversal.neg, .slice p0a21 p0.reversal.ln.length p0a22, .slice p0a23 p0.reversal.ld.length p0a24] 30 (0, 0)) :: (b20, .cells #[.map (some b17)] 124 (0, 0)) :: (b17, mapO es27_1) :: (b15, .cells #[.int .i64 0] 34 (0, 0)) :: (b13, .cells #[.slice none 0 0] 33 (0, 0)) :: (b11, .cells #[.int .i64 p4] 3 (0, 0)) :: (b9, .cells #[.int .i64 p3] 3 (0, 0)) :: (b7, .cells #[.int .i64 p2] 3 (0, 0)) :: (b5, .cells #[.int .i64 p1] 3 (0, 0)) :: (b3, .cells #[.slice p0a1 p0.height.length p0a2, .slice p0a3 p0.own.length p0a4, .slice p0a5 p0.other.length p0a6, .slice p0a7 p0.advisories.length p0a8, .int .i64 p0.pull, .int .i64 p0.near, .int .i64 p0.steps, .slice p0a9 p0.ownNoise.length p0a10, .slice p0a11 p0.otherNoise.length p0a12, .bool p0.alert.neg, .slice p0a13 p0.alert.ln.length p0a14, .slice p0a15 p0.alert.ld.length p0a16, .bool p0.strengthen.neg, .slice p0a17 p0.strengthen.ln.length p0a18, .slice p0a19 p0.strengthen.ld.length p0a20, .bool p0.reversal.neg, .slice p0a21 p0.reversal.ln.length p0a22, .slice p0a23 p0.reversal.ld.length p0a24] 30 (0, 0)) :: rb104_0) ∧ Le (rd w97 Y27) (rd w1 Y1) ∧ GRow OutCs 41 4 (rd w1 (orN Y1 w.heap.size)) rb104_0 ad104_0 m104_0 cap104_0 v104_0 ∧ J104 v104_0 = some y) ?_ ?_
 ·
  rintro ⟨v104_0, rb104_0, ad104_0, m104_0, cap104_0⟩ w104 ⟨Y104, B104, j104, hfv104_0_0, hp⟩
  have hp := (hJ104 _).symm.trans hp
  refine zz 3 ?_
  refine zx 6 #[.slice ad104_0 m104_0 cap104_0] B104 ?_
  intro w105 B105 j105
  refine zx 5 #[.int .i64 0] B105 ?_
  intro w106 B106 j106
  refine zz 3 ?_
  refine zrM1 1 [.cell 10 33, .cell 11 34] (v := .tuple #[.slice ad104_0 m104_0 cap104_0, .int .i64 0]) B106 (fun w107 B107 j107 => ⟨(Res.cM B107 6 (Res.cM B107 5 Res.nil)), ?_⟩)
  have hob := St.pubGRN (A := [(l25, .loop (exhL rec25)), (b25, .deferred none), (b24, .cells #[.slice p0a1 p0.height.length p0a2, .slice p0a3 p0.own.length p0a4, .slice p0a5 p0.other.length p0a6, .slice p0a7 p0.advisories.length p0a8, .int .i64 p0.pull, .int .i64 p0.near, .int .i64 p0.steps, .slice p0a9 p0.ownNoise.length p0a10, .slice p0a11 p0.otherNoise.length p0a12, .bool p0.alert.neg, .slice p0a13 p0.alert.ln.length p0a14, .slice p0a15 p0.alert.ld.length p0a16, .bool p0.strengthen.neg, .slice p0a17 p0.strengthen.ln.length p0a18, .slice p0a19 p0.strengthen.ld.length p0a20, .bool p0.reversal.neg, .slice p0a21 p0.reversal.ln.length p0a22, .slice p0a23 p0.reversal.ld.length p0a24] 30 (0, 0)), (b20, .cells #[.map (some b17)] 124 (0, 0)), (b17, mapO es27_1), (b15, .cells #[.int .i64 0] 34 (0, 0)), (b13, .cells #[.slice ad104_0 m104_0 cap104_0] 33 (0, 0)), (b11, .cells #[.int .i64 p4] 3 (0, 0)), (b9, .cells #[.int .i64 p3] 3 (0, 0)), (b7, .cells #[.int .i64 p2] 3 (0, 0)), (b5, .cells #[.int .i64 p1] 3 (0, 0)), (b3, .cells #[.slice p0a1 p0.height.length p0a2, .slice p0a3 p0.own.length p0a4, .slice p0a5 p0.other.length p0a6, .slice p0a7 p0.advisories.length p0a8, .int .i64 p0.pull, .int .i64 p0.near, .int .i64 p0.steps, .slice p0a9 p0.ownNoise.length p0a10, .slice p0a11 p0.otherNoise.length p0a12, .bool p0.alert.neg, .slice p0a13 p0.alert.ln.length p0a14, .slice p0a15 p0.alert.ld.length p0a16, .bool p0.strengthen.neg, .slice p0a17 p0.strengthen.ln.length p0a18, .slice p0a19 p0.strengthen.ld.length p0a20, .bool p0.reversal.neg, .slice p0a21 p0.reversal.ln.length p0a22, .slice p0a23 p0.reversal.ld.length p0a24] 30 (0, 0))]) (B := []) (fun rb => ((l25, .loop (exhL rec25)) :: (b25, .deferred none) :: (b24, .cells #[.slice p0a1 p0.height.length p0a2, .slice p0a3 p0.own.length p0a4, .slice p0a5 p0.other.length p0a6, .slice p0a7 p0.advisories.length p0a8, .int .i64 p0.pull, .int .i64 p0.near, .int .i64 p0.steps, .slice p0a9 p0.ownNoise.length p0a10, .slice p0a11 p0.otherNoise.length p0a12, .bool p0.alert.neg, .slice p0a13 p0.alert.ln.length p0a14, .slice p0a15 p0.alert.ld.length p0a16, .bool p0.strengthen.neg, .slice p0a17 p0.strengthen.ln.length p0a18, .slice p0a19 p0.strengthen.ld.length p0a20, .bool p0.reversal.neg, .slice p0a21 p0.reversal.ln.length p0a22, .slice p0a23 p0.reversal.ld.length p0a24] 30 (0, 0)) :: (b20, .cells #[.map (some b17)] 124 (0, 0)) :: (b17, mapO es27_1) :: (b15, .cells #[.int .i64 0] 34 (0, 0)) :: (b13, .cells #[.slice ad104_0 m104_0 cap104_0] 33 (0, 0)) :: (b11, .cells #[.int .i64 p4] 3 (0, 0)) :: (b9, .cells #[.int .i64 p3] 3 (0, 0)) :: (b7, .cells #[.int .i64 p2] 3 (0, 0)) :: (b5, .cells #[.int .i64 p1] 3 (0, 0)) :: (b3, .cells #[.slice p0a1 p0.height.length p0a2, .slice p0a3 p0.own.length p0a4, .slice p0a5 p0.other.length p0a6, .slice p0a7 p0.advisories.length p0a8, .int .i64 p0.pull, .int .i64 p0.near, .int .i64 p0.steps, .slice p0a9 p0.ownNoise.length p0a10, .slice p0a11 p0.otherNoise.length p0a12, .bool p0.alert.neg, .slice p0a13 p0.alert.ln.length p0a14, .slice p0a15 p0.alert.ld.length p0a16, .bool p0.strengthen.neg, .slice p0a17 p0.strengthen.ln.length p0a18, .slice p0a19 p0.strengthen.ld.length p0a20, .bool p0.reversal.neg, .slice p0a21 p0.reversal.ln.length p0a22, .slice p0a23 p0.reversal.ld.length p0a24] 30 (0, 0)) :: rb)) B107 (fun _ => by simp only [List.append_assoc, List.cons_append, List.nil_append, List.append_nil]) (hfv104_0_0.mono (Le.or (Le3 j105 j106 j107) _)) (Nat.le_refl _) OutCs.at
  obtain ⟨Y108, hSx108, j108, hRx108⟩ := hob
  have B108 : St E0 w X w107 Y108 [(l25, .loop (exhL rec25)), (b25, .deferred none), (b24, .cells #[.slice p0a1 p0.height.length p0a2, .slice p0a3 p0.own.length p0a4, .slice p0a5 p0.other.length p0a6, .slice p0a7 p0.advisories.length p0a8, .int .i64 p0.pull, .int .i64 p0.near, .int .i64 p0.steps, .slice p0a9 p0.ownNoise.length p0a10, .slice p0a11 p0.otherNoise.length p0a12, .bool p0.alert.neg, .slice p0a13 p0.alert.ln.length p0a14, .slice p0a15 p0.alert.ld.length p0a16, .bool p0.strengthen.neg, .slice p0a17 p0.strengthen.ln.length p0a18, .slice p0a19 p0.strengthen.ld.length p0a20, .bool p0.reversal.neg, .slice p0a21 p0.reversal.ln.length p0a22, .slice p0a23 p0.reversal.ld.length p0a24] 30 (0, 0)), (b20, .cells #[.map (some b17)] 124 (0, 0)), (b17, mapO es27_1), (b15, .cells #[.int .i64 0] 34 (0, 0)), (b13, .cells #[.slice ad104_0 m104_0 cap104_0] 33 (0, 0)), (b11, .cells #[.int .i64 p4] 3 (0, 0)), (b9, .cells #[.int .i64 p3] 3 (0, 0)), (b7, .cells #[.int .i64 p2] 3 (0, 0)), (b5, .cells #[.int .i64 p1] 3 (0, 0)), (b3, .cells #[.slice p0a1 p0.height.length p0a2, .slice p0a3 p0.own.length p0a4, .slice p0a5 p0.other.length p0a6, .slice p0a7 p0.advisories.length p0a8, .int .i64 p0.pull, .int .i64 p0.near, .int .i64 p0.steps, .slice p0a9 p0.ownNoise.length p0a10, .slice p0a11 p0.otherNoise.length p0a12, .bool p0.alert.neg, .slice p0a13 p0.alert.ln.length p0a14, .slice p0a15 p0.alert.ld.length p0a16, .bool p0.strengthen.neg, .slice p0a17 p0.strengthen.ln.length p0a18, .slice p0a19 p0.strengthen.ld.length p0a20, .bool p0.reversal.neg, .slice p0a21 p0.reversal.ln.length p0a22, .slice p0a23 p0.reversal.ld.length p0a24] 30 (0, 0))] := hSx108
  have hob := hRx108.hlen
  subst hob
  have hR108 : OutsR (rd w107 (orN Y108 w.heap.size)) ad104_0 v104_0.length cap104_0 v104_0 := hRx108
  have hob := Option.some.inj hp
  subst hob
  exact ⟨B108.upd, _, rfl, ⟨_, rfl, ⟨_, _, rfl, ((hR108.mono (Le.or (Le.refl _) _))).mono Le.orr⟩⟩⟩
 intro K109 G109
 refine zz 2 ?_
 refine zo 3 B97 ?_
 refine zci (vs := #[.map (some b17)]) Tryz.func100 (fun R110 hR110 => ?_)
 refine zz 2 ?_
 refine zn pn (.cells #[.map (some b17)] 124 (0, 0)) B97 ?_
 intro b112 w112 Y112 B112 j112 hu112
 refine zz 10 ?_
 refine zr' (v := .func (.func 133) #[] #[.pointer (some ⟨b112, 0, none⟩)]) ?_
 refine hR110 _ _ ?_
 have hob := grdp hp
 obtain ⟨hg114, hp⟩ := hob
 refine bndk hp fun y115 hy115 hp => ?_
 refine zc B112 (sortedKeys_c _ (B112.get 5 rfl) (B112.get 0 rfl) (MapR.mono (V := RawV) (fun h k => RawV.mono h k) hfv27_1_0 (Le.or (Le2 j97 j112) _)) hg114 y115 hy115) ?_
 rintro v116 w116 B116 j116 hu116 ⟨u116_0_1, u116_0_2, rfl, u116_0__h0⟩
 refine zz 5 ?_
 have hb117 : (y115.length : Int) ≤ 9223372036854775807 := lenb ((u116_0__h0.mono (Le.new B112.lt))).hcap ((u116_0__h0.mono (Le.new B112.lt))).hbig
 refine zlp Tryz.f54 [K109] [1, 1, 1, 1, 1, 9, 1, 0] (fun ((v117_0, k117, rb117_0, ad117_0, m117_0, cap117_0) : (List Out) × Nat × (List (Nat × Obj)) × (Option Addr) × Nat × Nat) => [(10, .pointer (some ⟨b13, 0, none⟩)), (11, .pointer (some ⟨b15, 0, none⟩)), (12, .pointer (some ⟨b20, 0, none⟩)), (22, .slice ad117_0 m117_0 cap117_0), (93, .slice u116_0_1 y115.length u116_0_2), (94, .int .i64 (y115.length : Int)), (95, .int .i64 (k117 : Int))]) (fun ((v117_0, k117, rb117_0, ad117_0, m117_0, cap117_0) : (List Out) × Nat × (List (Nat × Obj)) × (Option Addr) × Nat × Nat) w1 => ∃ Y1 : Hid, St E0 w X w1 Y1 ((b112, .cells #[.map (some b17)] 124 (0, 0)) :: (l25, .loop (exhL rec25)) :: (b25, .deferred (some [])) :: (b24, .cells #[.slice p0a1 p0.height.length p0a2, .slice p0a3 p0.own.length p0a4, .slice p0a5 p0.other.length p0a6, .slice p0a7 p0.advisories.length p0a8, .int .i64 p0.pull, .int .i64 p0.near, .int .i64 p0.steps, .slice p0a9 p0.ownNoise.length p0a10, .slice p0a11 p0.otherNoise.length p0a12, .bool p0.alert.neg, .slice p0a13 p0.alert.ln.length p0a14, .slice p0a15 p0.alert.ld.length p0a16, .bool p0.strengthen.neg, .slice p0a17 p0.strengthen.ln.length p0a18, .slice p0a19 p0.strengthen.ld.length p0a20, .bool p0.reversal.neg, .slice p0a21 p0.reversal.ln.length p0a22, .slice p0a23 p0.reversal.ld.length p0a24] 30 (0, 0)) :: (b20, .cells #[.map (some b17)] 124 (0, 0)) :: (b17, mapO es27_1) :: (b15, .cells #[.int .i64 0] 34 (0, 0)) :: (b13, .cells #[.slice none 0 0] 33 (0, 0)) :: (b11, .cells #[.int .i64 p4] 3 (0, 0)) :: (b9, .cells #[.int .i64 p3] 3 (0, 0)) :: (b7, .cells #[.int .i64 p2] 3 (0, 0)) :: (b5, .cells #[.int .i64 p1] 3 (0, 0)) :: (b3, .cells #[.slice p0a1 p0.height.length p0a2, .slice p0a3 p0.own.length p0a4, .slice p0a5 p0.other.length p0a6, .slice p0a7 p0.advisories.length p0a8, .int .i64 p0.pull, .int .i64 p0.near, .int .i64 p0.steps, .slice p0a9 p0.ownNoise.length p0a10, .slice p0a11 p0.otherNoise.length p0a12, .bool p0.alert.neg, .slice p0a13 p0.alert.ln.length p0a14, .slice p0a15 p0.alert.ld.length p0a16, .bool p0.strengthen.neg, .slice p0a17 p0.strengthen.ln.length p0a18, .slice p0a19 p0.strengthen.ld.length p0a20, .bool p0.reversal.neg, .slice p0a21 p0.reversal.ln.length p0a22, .slice p0a23 p0.reversal.ld.length p0a24] 30 (0, 0)) :: rb117_0) ∧ Le (rd w116 Y112) (rd w1 Y1) ∧ GRow OutCs 41 4 (rd w1 (orN Y1 w.heap.size)) rb117_0 ad117_0 m117_0 cap117_0 v117_0 ∧ dynamics_spread_l117 v27_1 J104 (y115.drop k117)  v117_0 = some y) (fun ((v117_0, k117, rb117_0, ad117_0, m117_0, cap117_0) : (List Out) × Nat × (List (Nat × Obj)) × (Option Addr) × Nat × Nat) => y115.length - k117) (([] : List Out), 0, [], none, 0, 0) ?_ ?_
 ·
  exact ⟨_, B116, Le.refl _, GRow.nil, hp⟩
 rintro ⟨v117_0, k117, rb117_0, ad117_0, m117_0, cap117_0⟩ w117 K117 G117 ⟨Y117, B117, j117, hfv117_0_0, hp⟩
 refine zz 6 ?_
 refine zt 96 (p := (k117 : Int) < (y115.length : Int)) (fun ht118 => ?_) (fun ht118 => ?_)
 ·
  have hob := get_lt (l := y115) (k := k117) (lt_of_int ht118)
  obtain ⟨x117, hqx117⟩ := hob
  rw [dropC hqx117, dynamics_spread_l117] at hp
  have hzx117 : (0 : Int) ≤ (k117 : Int) := Int.natCast_nonneg _
  refine zz 7 ?_
  have hob := (u116_0__h0.mono (Le.new B112.lt)).opn hqx117
  obtain ⟨be119, oe119, rfl, j119, hEe119⟩ := hob
  have hAe119 : At (rd w116 Y112) ⟨be119, oe119 + k117 * 1, none⟩ [.int .i64 x117] := hEe119
  refine zi (b := be119) (off := oe119) (len := y115.length) (cap := u116_0_2) (kd := .i64) (i := (k117 : Int)) 1 (oe119 + k117 * 1) ?_ (h0 := hzx117) (h1 := (ix_b hzx117 j119))
  refine zl ((hAe119.mono j117)).cells ?_
  refine zz 6 ?_
  refine zo 4 B117 ?_
  refine zz 1 ?_
  have hc15_ := (Le3 j97 j112 j116).trans j117
  refine zop (at1 [K109, K117] Tryz.f54 [1, 1, 1, 1, 1, 9, 1, 0, 0, 1, 1, 0, 0, 1]) 4 (fun a120 _ C120 hz120 => op_lookRZ (b := b17) (es := es27_1) (d := 103) 124 3 28 (x117) (.agg #[.bool false, .slice none 0 0, .slice none 0 0]) Raw.zero 5 C120 kr B117 kr kr kr kr kr kw (fun _ _ => by kernel_rfl) kr (MapR.mono (V := RawV) (fun h k => RawV.mono h k) hfv27_1_0 (Le.or hc15_ _)) ⟨none, 0, 0, none, 0, 0, rfl, Limbs.nil0, Limbs.nil0⟩ ?_)
  refine bndk hp fun x123 hx123 hp => ?_
  intro v121 hv121
  rw [Option.some.inj hx123] at hv121
  obtain ⟨u121_1, u121_2, u121_3, u121_4, u121_5, u121_6, rfl, u121__h0, u121__h1⟩ := hv121
  have hob := u121__h0.hlen
  subst hob
  have hob := u121__h1.hlen
  subst hob
  intro a122 C122
  refine hz120 C122 ?_
  refine zz 1 ?_
  refine zn (fun b => .slice (some ⟨b, 0, none⟩) 1 1) (.cells #[.int .i64 x117, .bool x123.neg, .slice u121_1 x123.ln.length u121_3, .slice u121_4 x123.ld.length u121_6] 41 (0, 0)) B117 ?_
  intro b125 w125 Y125 B125 j125 hu125
  have hob := grdp hp
  obtain ⟨hg127, hp⟩ := hob
  have hln128 : m117_0 = v117_0.length := GRow.len hfv117_0_0
  have hob := (hfv117_0_0.mono (Le.or j125 _))
  obtain ⟨es128, hr128, hq128, hk128, hm128⟩ := hob
  refine zop (at1 [K109, K117] Tryz.f54 [1, 1, 1, 1, 1, 9, 1, 0, 0, 1, 1, 0, 0, 1]) 7 (fun a126 _ C126 hz126 => op_appEZ (b := 64) (m := 1) (c := 1) (ad := ⟨b125, 0, none⟩) (news := [.int .i64 x117, .bool x123.neg, .slice u121_1 x123.ln.length u121_3, .slice u121_4 x123.ld.length u121_6]) (i0 := Tryz.t41) (rb := rb117_0) (R1 := []) 14 C126 B125 rfl hr128 (B125.cells 0 rfl rfl) (app_b1 hg127 hln128 rfl) (app_b2 hg127 hln128) ?_)
  intro rb129 ad129 cap129 w129 Y129 hrow129 B129 j129 a130 C130
  have hg129 : GRow OutCs 41 4 (rd w129 (orN Y129 w.heap.size)) rb129 ad129 (m117_0 + 1) cap129 (v117_0 ++ [(Out.mk x117 x123)]) := GRow.snoc hrow129 hq128 hk128 hm128 (Le.or j129 _) ⟨rfl, fun r2 h2 => ⟨_, _, _, _, _, _, rfl, ((u121__h0.mono (Le.or (Le2 j125 j129) _)).mono h2), ((u121__h1.mono (Le.or (Le2 j125 j129) _)).mono h2)⟩⟩
  refine hz126 C130 ?_
  refine zz 6 ?_
  refine zs 107 (v := .int .i64 (IntKind.i64.wrap ((k117 : Int) + 1))) (v' := .int .i64 ((k117 : Int) + 1)) (vint (wi64 (wk0 k117) (wk1 ht118 hb117))) ?_
  refine zz 2 ?_
  refine znext (fun a h => G117 ((v117_0 ++ [(Out.mk x117 x123)]), k117 + 1, rb129, ad129, (m117_0 + 1), cap129) _ a h ⟨_, B129.tail, (Le3 j117 j125 j129), hg129, hp⟩ ?_)
  exact mu_lt ht118
 rw [List.drop_eq_nil_of_le (nlt_of_int ht118), dynamics_spread_l117] at hp
 refine zz 5 ?_
 exact znext (fun a h => G109 (v117_0, rb117_0, ad117_0, m117_0, cap117_0) _ a h ⟨_, B117.tail, (Le3 j112 j116 j117), hfv117_0_0, hp⟩)
noncomputable def dynamics_Spread_p (p0 : ModelD) (p1 : Int) (p2 : Int) (p3 : Int) (p4 : Int) : Option ((List Out) × Int) :=
  (dynamics_Check_p p0).bind fun y5 => if ((y5) != 0) = true then (some (([] : List Out), y5)) else ((dynamics_within_p (100000 : Int)).bind fun y9 => (dynamics_within_1_p ([p1]) y9).bind fun y14 => if (!y14) = true then (some (([] : List Out), 1)) else ((dynamics_within_p (100 : Int)).bind fun y18 => (dynamics_within_1_p ([p2, p3]) y18).bind fun y23 => if (!y23) = true then (some (([] : List Out), 1)) else ((dynamics_known_p p0 ([p4])).bind fun y29 => if ((y29) != 0) = true then (some (([] : List Out), y29)) else ((dynamics_spread_p p0 (p1) (p2) (p3) (p4)).bind fun y33 => some (y33.1, y33.2)))))
theorem dynamics_Spread_c (w : World) (X : Hid) (hX : ∀ k o, X k o → k < w.heap.size) (p0 : ModelD) (vp0 : Value) (hp0 : ModelDV (rd w X) vp0 p0) (p1 : Int) (p2 : Int) (p3 : Int) (p4 : Int) (y : (List Out) × Int) (hp : dynamics_Spread_p p0 p1 p2 p3 p4 = some y) : Calls Tryz.prog 11 #[vp0, .int .i64 p1, .int .i64 p2, .int .i64 p3, .int .i64 p4] w (Ret E0 w fun w' v => ∃ uu0, v = .tuple #[uu0, .int .i64 y.2] ∧ SV OutsR (rd w' (old w)) uu0 y.1) := by
 have hVp0 := hp0
 refine ModelDV.op hp0 fun p0a1 p0a2 p0a3 p0a4 p0a5 p0a6 p0a7 p0a8 p0a9 p0a10 p0a11 p0a12 p0a13 p0a14 p0a15 p0a16 p0a17 p0a18 p0a19 p0a20 p0a21 p0a22 p0a23 p0a24 hv9 p0a_h0 p0a_h1 p0a_h2 p0a_h3 p0a_h4 p0a_h5 p0a_h6 p0a_h7 p0a_h8 p0a_h9 p0a_h10 p0a_h11 => ?_
 subst hv9
 unfold dynamics_Spread_p at hp
 refine zen Tryz.func11 ?_
 have B0 : St E0 w X w X [] := St.start hX
 refine zz 2 ?_
 refine zn pn (.cells #[.slice p0a1 p0.height.length p0a2, .slice p0a3 p0.own.length p0a4, .slice p0a5 p0.other.length p0a6, .slice p0a7 p0.advisories.length p0a8, .int .i64 p0.pull, .int .i64 p0.near, .int .i64 p0.steps, .slice p0a9 p0.ownNoise.length p0a10, .slice p0a11 p0.otherNoise.length p0a12, .bool p0.alert.neg, .slice p0a13 p0.alert.ln.length p0a14, .slice p0a15 p0.alert.ld.length p0a16, .bool p0.strengthen.neg, .slice p0a17 p0.strengthen.ln.length p0a18, .slice p0a19 p0.strengthen.ld.length p0a20, .bool p0.reversal.neg, .slice p0a21 p0.reversal.ln.length p0a22, .slice p0a23 p0.reversal.ld.length p0a24] 30 (0, 0)) B0 ?_
 intro b3 w3 Y3 B3 j3 hu3
 refine zz 7 ?_
 refine zo 0 B3 ?_
 refine bndk hp fun y5 hy5 hp => ?_
 refine zc B3 (dynamics_Check_c _ X0 (X0_lt _) p0 _ ((hVp0.mono j3).mono Le.x0) y5 hy5) ?_
 rintro v6 w6 B6 j6 hu6 rfl
 refine zz 11 ?_
 refine zb 16 (b := ((y5) != 0)) (fun hc7 => ?_) (fun hc7 => ?_)
 ·
  have hp := ipb hc7 hp
  refine zz 11 ?_
  refine zr' (v := .tuple #[.slice none 0 0, .int .i64 y5]) ?_
  have hob := Option.some.inj hp
  subst hob
  exact ⟨B6.upd, _, rfl, ⟨_, rfl, ⟨_, _, rfl, (show OutsR _ none 0 0 [] from SlR.nil none (by decide))⟩⟩⟩
 have hp := iqb hc7 hp
 refine zz 3 ?_
 refine bndk hp fun y9 hy9 hp => ?_
 refine zc B6 (dynamics_within_c _ X0 (X0_lt _) (100000 : Int) y9 hy9) ?_
 rintro v10 w10 B10 j10 hu10 ⟨u10_0_b0, u10_0_b1, rfl, u10_0_h0, u10_0_h1⟩
 have hAu10_0_b0 : At (rd w10 Y3) ⟨u10_0_b0, 0, none⟩ [.func (.func 71) #[] #[]] := (At.mono (Le.new B6.lt) u10_0_h0)
 have hAu10_0_b1 : At (rd w10 Y3) ⟨u10_0_b1, 0, none⟩ [.int .i64 y9] := (At.mono (Le.new B6.lt) u10_0_h1)
 refine zz 1 ?_
 refine zn (fun b => .slice (some ⟨b, 0, none⟩) 1 1) (.cells #[.int .i64 p1] 3 (0, 0)) B10 ?_
 intro b12 w12 Y12 B12 j12 hu12
 refine bndk hp fun y14 hy14 hp => ?_
 refine zc B12 (dynamics_within_1_c _ X0 (X0_lt _) ([p1]) _ ⟨_, _, rfl, (SlR.lit (El := IntAt) (size := 1) (n := 1) [⟨(p1 : Int), [.int .i64 p1]⟩] (B12.at0 0 rfl rfl) (List.forall_mem_cons.2 ⟨⟨rfl, fun r2 h2 b o h9 => h9⟩, (List.forall_mem_nil _)⟩) rfl (by decide))⟩ _ ((hAu10_0_b0.mono j12).mono Le.x0) y9 _ ((hAu10_0_b1.mono j12).mono Le.x0) y14 hy14) ?_ (vs := #[.slice (some ⟨b12, 0, none⟩) 1 1, .pointer (some ⟨u10_0_b0, 0, none⟩), .pointer (some ⟨u10_0_b1, 0, none⟩)])
 rintro v15 w15 B15 j15 hu15 rfl
 refine zz 2 ?_
 refine zb 26 (b := !y14) (fun hc16 => ?_) (fun hc16 => ?_)
 ·
  have hp := ipb hc16 hp
  refine zz 20 ?_
  refine zr' (v := .tuple #[.slice none 0 0, .int .i64 1]) ?_
  have hob := Option.some.inj hp
  subst hob
  exact ⟨B15.upd, _, rfl, ⟨_, rfl, ⟨_, _, rfl, (show OutsR _ none 0 0 [] from SlR.nil none (by decide))⟩⟩⟩
 have hp := iqb hc16 hp
 refine bndk hp fun y18 hy18 hp => ?_
 refine zc B15 (dynamics_within_c _ X0 (X0_lt _) (100 : Int) y18 hy18) ?_
 rintro v19 w19 B19 j19 hu19 ⟨u19_0_b0, u19_0_b1, rfl, u19_0_h0, u19_0_h1⟩
 have hAu19_0_b0 : At (rd w19 Y12) ⟨u19_0_b0, 0, none⟩ [.func (.func 71) #[] #[]] := (At.mono (Le.new B15.lt) u19_0_h0)
 have hAu19_0_b1 : At (rd w19 Y12) ⟨u19_0_b1, 0, none⟩ [.int .i64 y18] := (At.mono (Le.new B15.lt) u19_0_h1)
 refine zz 2 ?_
 refine zn (fun b => .slice (some ⟨b, 0, none⟩) 2 2) (.cells #[.int .i64 p2, .int .i64 p3] 3 (0, 0)) B19 ?_
 intro b21 w21 Y21 B21 j21 hu21
 refine bndk hp fun y23 hy23 hp => ?_
 refine zc B21 (dynamics_within_1_c _ X0 (X0_lt _) ([p2, p3]) _ ⟨_, _, rfl, (SlR.lit (El := IntAt) (size := 1) (n := 2) [⟨(p2 : Int), [.int .i64 p2]⟩, ⟨(p3 : Int), [.int .i64 p3]⟩] (B21.at0 0 rfl rfl) (List.forall_mem_cons.2 ⟨⟨rfl, fun r2 h2 b o h9 => h9⟩, (List.forall_mem_cons.2 ⟨⟨rfl, fun r2 h2 b o h9 => h9⟩, (List.forall_mem_nil _)⟩)⟩) rfl (by decide))⟩ _ ((hAu19_0_b0.mono j21).mono Le.x0) y18 _ ((hAu19_0_b1.mono j21).mono Le.x0) y23 hy23) ?_ (vs := #[.slice (some ⟨b21, 0, none⟩) 2 2, .pointer (some ⟨u19_0_b0, 0, none⟩), .pointer (some ⟨u19_0_b1, 0, none⟩)])
 rintro v24 w24 B24 j24 hu24 rfl
 refine zz 5 ?_
 refine zb 20 (b := !y23) (fun hc25 => ?_) (fun hc25 => ?_)
 ·
  have hp := ipb hc25 hp
  refine zz 10 ?_
  refine zr' (v := .tuple #[.slice none 0 0, .int .i64 1]) ?_
  have hob := Option.some.inj hp
  subst hob
  exact ⟨B24.upd, _, rfl, ⟨_, rfl, ⟨_, _, rfl, (show OutsR _ none 0 0 [] from SlR.nil none (by decide))⟩⟩⟩
 have hp := iqb hc25 hp
 refine zz 7 ?_
 refine zo 2 B24 ?_
 refine zz 1 ?_
 refine zn (fun b => .slice (some ⟨b, 0, none⟩) 1 1) (.cells #[.int .i64 p4] 3 (0, 0)) B24 ?_
 intro b27 w27 Y27 B27 j27 hu27
 have hc1_ := (Le8 j3 j6 j10 j12 j15 j19 j21 j24).trans j27
 refine bndk hp fun y29 hy29 hp => ?_
 refine zc B27 (dynamics_known_c _ X0 (X0_lt _) p0 _ ((hVp0.mono hc1_).mono Le.x0) ([p4]) _ ⟨_, _, rfl, (SlR.lit (El := IntAt) (size := 1) (n := 1) [⟨(p4 : Int), [.int .i64 p4]⟩] (B27.at0 0 rfl rfl) (List.forall_mem_cons.2 ⟨⟨rfl, fun r2 h2 b o h9 => h9⟩, (List.forall_mem_nil _)⟩) rfl (by decide))⟩ y29 hy29) ?_ (vs := #[.agg #[.slice p0a1 p0.height.length p0a2, .slice p0a3 p0.own.length p0a4, .slice p0a5 p0.other.length p0a6, .slice p0a7 p0.advisories.length p0a8, .int .i64 p0.pull, .int .i64 p0.near, .int .i64 p0.steps, .slice p0a9 p0.ownNoise.length p0a10, .slice p0a11 p0.otherNoise.length p0a12, .bool p0.alert.neg, .slice p0a13 p0.alert.ln.length p0a14, .slice p0a15 p0.alert.ld.length p0a16, .bool p0.strengthen.neg, .slice p0a17 p0.strengthen.ln.length p0a18, .slice p0a19 p0.strengthen.ld.length p0a20, .bool p0.reversal.neg, .slice p0a21 p0.reversal.ln.length p0a22, .slice p0a23 p0.reversal.ld.length p0a24], .slice (some ⟨b27, 0, none⟩) 1 1])
 rintro v30 w30 B30 j30 hu30 rfl
 refine zz 9 ?_
 refine zb 39 (b := ((y29) != 0)) (fun hc31 => ?_) (fun hc31 => ?_)
 ·
  have hp := ipb hc31 hp
  refine zz 10 ?_
  refine zr' (v := .tuple #[.slice none 0 0, .int .i64 y29]) ?_
  have hob := Option.some.inj hp
  subst hob
  exact ⟨B30.upd, _, rfl, ⟨_, rfl, ⟨_, _, rfl, (show OutsR _ none 0 0 [] from SlR.nil none (by decide))⟩⟩⟩
 have hp := iqb hc31 hp
 refine zz 5 ?_
 refine zo 3 B30 ?_
 refine zz 4 ?_
 have hc2_ := hc1_.trans j30
 refine bndk hp fun y33 hy33 hp => ?_
 refine zc B30 (dynamics_spread_c _ X0 (X0_lt _) p0 _ ((hVp0.mono hc2_).mono Le.x0) (p1) (p2) (p3) (p4) y33 hy33) ?_
 rintro v34 w34 B34 j34 hu34 ⟨uu34_0, rfl, ⟨u34_0_1, u34_0_2, rfl, u34_0__h0⟩⟩
 refine zz 7 ?_
 refine zr' (v := .tuple #[.slice u34_0_1 y33.1.length u34_0_2, .int .i64 y33.2]) ?_
 have hob := Option.some.inj hp
 subst hob
 exact ⟨B34.upd, _, rfl, ⟨_, rfl, ⟨_, _, rfl, ((u34_0__h0.mono (Le.own B30.lt B30.upd.size (Le.refl _)))).mono Le.orr⟩⟩⟩
noncomputable def dynamics_Terminal_l21 (p0 : ModelD) (x11 : Int) (J13 : (List Raw) → Option ((List Raw) × Int)) : Nat → (List Raw) → Option ((List Raw) × Int)
  | 0, v21_0 => J13 v21_0
  | r21 + 1, v21_0 => (some (if (IntKind.i64.wrap ((0 : Int) - x11)) > x11 then IntKind.i64.wrap ((0 : Int) - x11) else x11)).bind fun z26 => if (z26) < p0.near then ((rat_From_p (1 : Int)).bind fun y29 => grd ((v21_0.length + 1) * 56 ≤ 140737488355328) <| dynamics_Terminal_l21 p0 x11 J13 r21 (v21_0 ++ [y29])) else (grd ((v21_0.length + 1) * 56 ≤ 140737488355328) <| dynamics_Terminal_l21 p0 x11 J13 r21 (v21_0 ++ [Raw.zero]))
noncomputable def dynamics_Terminal_l11 (p0 : ModelD) (J8 : (List Raw) → Option ((List Raw) × Int)) : List Int → (List Raw) → Option ((List Raw) × Int)
  | [], v11_0 => J8 v11_0
  | x11 :: r11, v11_0 => lt (fun (v13_0 : List Raw) => dynamics_Terminal_l11 p0 J8 r11 v13_0) fun J13 => (dynamics_size_p p0).bind fun y17 => grd ((p0.height.length : Int) ≠ 0) <| dynamics_Terminal_l21 p0 x11 J13 ((IntKind.i64.wrap (Int.tdiv y17 (p0.height.length : Int))).toNat - 0) v11_0
noncomputable def dynamics_Terminal_p (p0 : ModelD) : Option ((List Raw) × Int) :=
  (dynamics_Check_p p0).bind fun y5 => if ((y5) != 0) = true then (some (([] : List Raw), y5)) else (lt (fun (v8_0 : List Raw) => some (v8_0, 0)) fun J8 => dynamics_Terminal_l11 p0 J8 (p0.height.drop 0)  ([] : List Raw))
theorem dynamics_Terminal_c (w : World) (X : Hid) (hX : ∀ k o, X k o → k < w.heap.size) (p0 : ModelD) (vp0 : Value) (hp0 : ModelDV (rd w X) vp0 p0) (y : (List Raw) × Int) (hp : dynamics_Terminal_p p0 = some y) : Calls Tryz.prog 43 #[vp0] w (Ret E0 w fun w' v => ∃ uu0, v = .tuple #[uu0, .int .i64 y.2] ∧ SV Rats (rd w' (old w)) uu0 y.1) := by
 have hVp0 := hp0
 refine ModelDV.op hp0 fun p0a1 p0a2 p0a3 p0a4 p0a5 p0a6 p0a7 p0a8 p0a9 p0a10 p0a11 p0a12 p0a13 p0a14 p0a15 p0a16 p0a17 p0a18 p0a19 p0a20 p0a21 p0a22 p0a23 p0a24 hv9 p0a_h0 p0a_h1 p0a_h2 p0a_h3 p0a_h4 p0a_h5 p0a_h6 p0a_h7 p0a_h8 p0a_h9 p0a_h10 p0a_h11 => ?_
 subst hv9
 unfold dynamics_Terminal_p at hp
 refine zen Tryz.func43 ?_
 have B0 : St E0 w X w X [] := St.start hX
 refine zz 2 ?_
 refine zn pn (.cells #[.slice p0a1 p0.height.length p0a2, .slice p0a3 p0.own.length p0a4, .slice p0a5 p0.other.length p0a6, .slice p0a7 p0.advisories.length p0a8, .int .i64 p0.pull, .int .i64 p0.near, .int .i64 p0.steps, .slice p0a9 p0.ownNoise.length p0a10, .slice p0a11 p0.otherNoise.length p0a12, .bool p0.alert.neg, .slice p0a13 p0.alert.ln.length p0a14, .slice p0a15 p0.alert.ld.length p0a16, .bool p0.strengthen.neg, .slice p0a17 p0.strengthen.ln.length p0a18, .slice p0a19 p0.strengthen.ld.length p0a20, .bool p0.reversal.neg, .slice p0a21 p0.reversal.ln.length p0a22, .slice p0a23 p0.reversal.ld.length p0a24] 30 (0, 0)) B0 ?_
 intro b3 w3 Y3 B3 j3 hu3
 refine zz 7 ?_
 refine zo 0 B3 ?_
 refine bndk hp fun y5 hy5 hp => ?_
 refine zc B3 (dynamics_Check_c _ X0 (X0_lt _) p0 _ ((hVp0.mono j3).mono Le.x0) y5 hy5) ?_
 rintro v6 w6 B6 j6 hu6 rfl
 refine zz 9 ?_
 refine zb 11 (b := ((y5) != 0)) (fun hc7 => ?_) (fun hc7 => ?_)
 ·
  have hp := ipb hc7 hp
  refine zz 10 ?_
  refine zr' (v := .tuple #[.slice none 0 0, .int .i64 y5]) ?_
  have hob := Option.some.inj hp
  subst hob
  exact ⟨B6.upd, _, rfl, ⟨_, rfl, ⟨_, _, rfl, Rats.nil0⟩⟩⟩
 have hp := iqb hc7 hp
 refine zz 3 ?_
 have hob := ltd1 hp
 obtain ⟨J8, hJ8, hp⟩ := hob
 refine zjoin (fun ((v8_0, rb8_0, ad8_0, m8_0, cap8_0) : (List Raw) × (List (Nat × Obj)) × (Option Addr) × Nat × Nat) => [(2, .slice ad8_0 m8_0 cap8_0)]) (fun ((v8_0, rb8_0, ad8_0, m8_0, cap8_0) : (List Raw) × (List (Nat × Obj)) × (Option Addr) × Nat × Nat) w1 => ∃ Y1 : Hid, St E0 w X w1 Y1 ((b3, .cells #[.slice p0a1 p0.height.length p0a2, .slice p0a3 p0.own.length p0a4, .slice p0a5 p0.other.length p0a6, .slice p0a7 p0.advisories.length p0a8, .int .i64 p0.pull, .int .i64 p0.near, .int .i64 p0.steps, .slice p0a9 p0.ownNoise.length p0a10, .slice p0a11 p0.otherNoise.length p0a12, .bool p0.alert.neg, .slice p0a13 p0.alert.ln.length p0a14, .slice p0a15 p0.alert.ld.length p0a16, .bool p0.strengthen.neg, .slice p0a17 p0.strengthen.ln.length p0a18, .slice p0a19 p0.strengthen.ld.length p0a20, .bool p0.reversal.neg, .slice p0a21 p0.reversal.ln.length p0a22, .slice p0a23 p0.reversal.ld.length p0a24] 30 (0, 0)) :: rb8_0) ∧ Le (rd w6 Y3) (rd w1 Y1) ∧ GRow RatCs 28 3 (rd w1 (orN Y1 w.heap.size)) rb8_0 ad8_0 m8_0 cap8_0 v8_0 ∧ J8 v8_0 = some y) ?_ ?_
 ·
  rintro ⟨v8_0, rb8_0, ad8_0, m8_0, cap8_0⟩ w8 ⟨Y8, B8, j8, hfv8_0_0, hp⟩
  have hp := (hJ8 _).symm.trans hp
  refine zz 8 ?_
  refine zr' (v := .tuple #[.slice ad8_0 m8_0 cap8_0, .int .i64 0]) ?_
  have hob := St.pubGRN (A := [(b3, .cells #[.slice p0a1 p0.height.length p0a2, .slice p0a3 p0.own.length p0a4, .slice p0a5 p0.other.length p0a6, .slice p0a7 p0.advisories.length p0a8, .int .i64 p0.pull, .int .i64 p0.near, .int .i64 p0.steps, .slice p0a9 p0.ownNoise.length p0a10, .slice p0a11 p0.otherNoise.length p0a12, .bool p0.alert.neg, .slice p0a13 p0.alert.ln.length p0a14, .slice p0a15 p0.alert.ld.length p0a16, .bool p0.strengthen.neg, .slice p0a17 p0.strengthen.ln.length p0a18, .slice p0a19 p0.strengthen.ld.length p0a20, .bool p0.reversal.neg, .slice p0a21 p0.reversal.ln.length p0a22, .slice p0a23 p0.reversal.ld.length p0a24] 30 (0, 0))]) (B := []) (fun rb => ((b3, .cells #[.slice p0a1 p0.height.length p0a2, .slice p0a3 p0.own.length p0a4, .slice p0a5 p0.other.length p0a6, .slice p0a7 p0.advisories.length p0a8, .int .i64 p0.pull, .int .i64 p0.near, .int .i64 p0.steps, .slice p0a9 p0.ownNoise.length p0a10, .slice p0a11 p0.otherNoise.length p0a12, .bool p0.alert.neg, .slice p0a13 p0.alert.ln.length p0a14, .slice p0a15 p0.alert.ld.length p0a16, .bool p0.strengthen.neg, .slice p0a17 p0.strengthen.ln.length p0a18, .slice p0a19 p0.strengthen.ld.length p0a20, .bool p0.reversal.neg, .slice p0a21 p0.reversal.ln.length p0a22, .slice p0a23 p0.reversal.ld.length p0a24] 30 (0, 0)) :: rb)) B8 (fun _ => by simp only [List.append_assoc, List.cons_append, List.nil_append, List.append_nil]) hfv8_0_0 (Nat.le_refl _) RatCs.at
  obtain ⟨Y9, hSx9, j9, hRx9⟩ := hob
  have B9 : St E0 w X w8 Y9 [(b3, .cells #[.slice p0a1 p0.height.length p0a2, .slice p0a3 p0.own.length p0a4, .slice p0a5 p0.other.length p0a6, .slice p0a7 p0.advisories.length p0a8, .int .i64 p0.pull, .int .i64 p0.near, .int .i64 p0.steps, .slice p0a9 p0.ownNoise.length p0a10, .slice p0a11 p0.otherNoise.length p0a12, .bool p0.alert.neg, .slice p0a13 p0.alert.ln.length p0a14, .slice p0a15 p0.alert.ld.length p0a16, .bool p0.strengthen.neg, .slice p0a17 p0.strengthen.ln.length p0a18, .slice p0a19 p0.strengthen.ld.length p0a20, .bool p0.reversal.neg, .slice p0a21 p0.reversal.ln.length p0a22, .slice p0a23 p0.reversal.ld.length p0a24] 30 (0, 0))] := hSx9
  have hob := hRx9.hlen
  subst hob
  have hR9 : Rats (rd w8 (orN Y9 w.heap.size)) ad8_0 v8_0.length cap8_0 v8_0 := Rats.ofSl hRx9
  have hob := Option.some.inj hp
  subst hob
  exact ⟨B9.upd, _, rfl, ⟨_, rfl, ⟨_, _, rfl, ((hR9.mono (Le.or (Le.refl _) _))).mono Le.orr⟩⟩⟩
 intro K10 G10
 refine zz 3 ?_
 refine zo 0 B6 ?_
 refine zz 5 ?_
 have hb11 : (p0.height.length : Int) ≤ 9223372036854775807 := lenb (p0a_h0).hcap (p0a_h0).hbig
 refine zlp Tryz.f43 [K10] [1, 1, 9, 1, 0] (fun ((v11_0, k11, rb11_0, ad11_0, m11_0, cap11_0) : (List Raw) × Nat × (List (Nat × Obj)) × (Option Addr) × Nat × Nat) => [(1, .pointer (some ⟨b3, 0, none⟩)), (2, .slice ad11_0 m11_0 cap11_0), (14, .slice p0a1 p0.height.length p0a2), (15, .int .i64 (p0.height.length : Int)), (16, .int .i64 (k11 : Int))]) (fun ((v11_0, k11, rb11_0, ad11_0, m11_0, cap11_0) : (List Raw) × Nat × (List (Nat × Obj)) × (Option Addr) × Nat × Nat) w1 => ∃ Y1 : Hid, St E0 w X w1 Y1 ((b3, .cells #[.slice p0a1 p0.height.length p0a2, .slice p0a3 p0.own.length p0a4, .slice p0a5 p0.other.length p0a6, .slice p0a7 p0.advisories.length p0a8, .int .i64 p0.pull, .int .i64 p0.near, .int .i64 p0.steps, .slice p0a9 p0.ownNoise.length p0a10, .slice p0a11 p0.otherNoise.length p0a12, .bool p0.alert.neg, .slice p0a13 p0.alert.ln.length p0a14, .slice p0a15 p0.alert.ld.length p0a16, .bool p0.strengthen.neg, .slice p0a17 p0.strengthen.ln.length p0a18, .slice p0a19 p0.strengthen.ld.length p0a20, .bool p0.reversal.neg, .slice p0a21 p0.reversal.ln.length p0a22, .slice p0a23 p0.reversal.ld.length p0a24] 30 (0, 0)) :: rb11_0) ∧ Le (rd w6 Y3) (rd w1 Y1) ∧ GRow RatCs 28 3 (rd w1 (orN Y1 w.heap.size)) rb11_0 ad11_0 m11_0 cap11_0 v11_0 ∧ dynamics_Terminal_l11 p0 J8 (p0.height.drop k11)  v11_0 = some y) (fun ((v11_0, k11, rb11_0, ad11_0, m11_0, cap11_0) : (List Raw) × Nat × (List (Nat × Obj)) × (Option Addr) × Nat × Nat) => p0.height.length - k11) (([] : List Raw), 0, [], none, 0, 0) ?_ ?_
 ·
  exact ⟨_, B6, Le.refl _, GRow.nil, hp⟩
 rintro ⟨v11_0, k11, rb11_0, ad11_0, m11_0, cap11_0⟩ w11 K11 G11 ⟨Y11, B11, j11, hfv11_0_0, hp⟩
 refine zz 6 ?_
 refine zt 17 (p := (k11 : Int) < (p0.height.length : Int)) (fun ht12 => ?_) (fun ht12 => ?_)
 ·
  have hob := get_lt (l := p0.height) (k := k11) (lt_of_int ht12)
  obtain ⟨x11, hqx11⟩ := hob
  rw [dropC hqx11, dynamics_Terminal_l11] at hp
  have hzx11 : (0 : Int) ≤ (k11 : Int) := Int.natCast_nonneg _
  refine zz 3 ?_
  have hob := ltd1 hp
  obtain ⟨J13, hJ13, hp⟩ := hob
  refine zjoin (fun ((v13_0, rb13_0, ad13_0, m13_0, cap13_0) : (List Raw) × (List (Nat × Obj)) × (Option Addr) × Nat × Nat) => [(2, .slice ad13_0 m13_0 cap13_0), (1, .pointer (some ⟨b3, 0, none⟩)), (14, .slice p0a1 p0.height.length p0a2), (15, .int .i64 (p0.height.length : Int)), (16, .int .i64 (k11 : Int))]) (fun ((v13_0, rb13_0, ad13_0, m13_0, cap13_0) : (List Raw) × (List (Nat × Obj)) × (Option Addr) × Nat × Nat) w1 => ∃ Y1 : Hid, St E0 w X w1 Y1 ((b3, .cells #[.slice p0a1 p0.height.length p0a2, .slice p0a3 p0.own.length p0a4, .slice p0a5 p0.other.length p0a6, .slice p0a7 p0.advisories.length p0a8, .int .i64 p0.pull, .int .i64 p0.near, .int .i64 p0.steps, .slice p0a9 p0.ownNoise.length p0a10, .slice p0a11 p0.otherNoise.length p0a12, .bool p0.alert.neg, .slice p0a13 p0.alert.ln.length p0a14, .slice p0a15 p0.alert.ld.length p0a16, .bool p0.strengthen.neg, .slice p0a17 p0.strengthen.ln.length p0a18, .slice p0a19 p0.strengthen.ld.length p0a20, .bool p0.reversal.neg, .slice p0a21 p0.reversal.ln.length p0a22, .slice p0a23 p0.reversal.ld.length p0a24] 30 (0, 0)) :: rb13_0) ∧ Le (rd w11 Y11) (rd w1 Y1) ∧ GRow RatCs 28 3 (rd w1 (orN Y1 w.heap.size)) rb13_0 ad13_0 m13_0 cap13_0 v13_0 ∧ J13 v13_0 = some y) ?_ ?_
  ·
   rintro ⟨v13_0, rb13_0, ad13_0, m13_0, cap13_0⟩ w13 ⟨Y13, B13, j13, hfv13_0_0, hp⟩
   have hp := (hJ13 _).symm.trans hp
   refine zz 2 ?_
   refine zs 42 (v := .int .i64 (IntKind.i64.wrap ((k11 : Int) + 1))) (v' := .int .i64 ((k11 : Int) + 1)) (vint (wi64 (wk0 k11) (wk1 ht12 hb11))) ?_
   refine zz 2 ?_
   refine znext (fun a h => G11 (v13_0, k11 + 1, rb13_0, ad13_0, m13_0, cap13_0) _ a h ⟨_, B13, (Le2 j11 j13), hfv13_0_0, hp⟩ ?_)
   exact mu_lt ht12
  intro K14 G14
  refine zz 3 ?_
  have hob := p0a_h0.opn hqx11
  obtain ⟨be15, oe15, rfl, j15, hEe15⟩ := hob
  have hAe15 : At (rd w X) ⟨be15, oe15 + k11 * 1, none⟩ [.int .i64 x11] := hEe15
  refine zi (b := be15) (off := oe15) (len := p0.height.length) (cap := p0a2) (kd := .i64) (i := (k11 : Int)) 1 (oe15 + k11 * 1) ?_ (h0 := hzx11) (h1 := (ix_b hzx11 j15))
  refine zl ((hAe15.mono (Le3 j3 j6 j11))).cells ?_
  refine zz 4 ?_
  refine zdraw [0] B11 ?_
  refine gw 0 0 ?_
  refine gz [2] ?_
  refine gw 3 0 ?_
  refine gz [4, 6] ?_
  have hc1_ := (Le2 j3 j6).trans j11
  refine bndk hp fun y17 hy17 hp => ?_
  refine gC 1 (fun w16 Y16 _ B16 j16 => (dynamics_size_c _ X0 (X0_lt _) p0 _ ((hVp0.mono (hc1_.trans j16)).mono Le.x0) y17 hy17)) ?_
  rintro v18 w16 Y18 w18 B16 j18 rfl
  have hob := grdp hp
  obtain ⟨hg19, hp⟩ := hob
  refine gH (v := .int .i64 (IntKind.i64.wrap (Int.tdiv y17 (p0.height.length : Int)))) 5 (fun w => run_quoV (a := y17) (b := (p0.height.length : Int)) rfl kr kr hg19 _) ?_
  refine gend (fun w20 Y20 B20 j20 => ?_)
  refine zz 2 ?_
  have hb21 : (IntKind.i64.wrap (Int.tdiv y17 (p0.height.length : Int))) ≤ 9223372036854775807 := by first | exact wrap_le _ | omega
  refine zlp Tryz.f43 [K10, K11, K14] [1, 1, 9, 1, 0, 0, 1, 1, 9, 0, 1, 1, 0] (fun ((v21_0, k21, rb21_0, ad21_0, m21_0, cap21_0) : (List Raw) × Nat × (List (Nat × Obj)) × (Option Addr) × Nat × Nat) => [(1, .pointer (some ⟨b3, 0, none⟩)), (2, .slice ad21_0 m21_0 cap21_0), (6, .int .i64 x11), (14, .slice (some ⟨be15, oe15, none⟩) p0.height.length p0a2), (15, .int .i64 (p0.height.length : Int)), (16, .int .i64 (k11 : Int)), (25, .int .i64 (IntKind.i64.wrap (Int.tdiv y17 (p0.height.length : Int)))), (26, .int .i64 (k21 : Int))]) (fun ((v21_0, k21, rb21_0, ad21_0, m21_0, cap21_0) : (List Raw) × Nat × (List (Nat × Obj)) × (Option Addr) × Nat × Nat) w1 => ∃ Y1 : Hid, St E0 w X w1 Y1 ((b3, .cells #[.slice (some ⟨be15, oe15, none⟩) p0.height.length p0a2, .slice p0a3 p0.own.length p0a4, .slice p0a5 p0.other.length p0a6, .slice p0a7 p0.advisories.length p0a8, .int .i64 p0.pull, .int .i64 p0.near, .int .i64 p0.steps, .slice p0a9 p0.ownNoise.length p0a10, .slice p0a11 p0.otherNoise.length p0a12, .bool p0.alert.neg, .slice p0a13 p0.alert.ln.length p0a14, .slice p0a15 p0.alert.ld.length p0a16, .bool p0.strengthen.neg, .slice p0a17 p0.strengthen.ln.length p0a18, .slice p0a19 p0.strengthen.ld.length p0a20, .bool p0.reversal.neg, .slice p0a21 p0.reversal.ln.length p0a22, .slice p0a23 p0.reversal.ld.length p0a24] 30 (0, 0)) :: rb21_0) ∧ Le (rd w20 Y20) (rd w1 Y1) ∧ GRow RatCs 28 3 (rd w1 (orN Y1 w.heap.size)) rb21_0 ad21_0 m21_0 cap21_0 v21_0 ∧ dynamics_Terminal_l21 p0 x11 J13 ((IntKind.i64.wrap (Int.tdiv y17 (p0.height.length : Int))).toNat - k21)  v21_0 = some y) (fun ((v21_0, k21, rb21_0, ad21_0, m21_0, cap21_0) : (List Raw) × Nat × (List (Nat × Obj)) × (Option Addr) × Nat × Nat) => (IntKind.i64.wrap (Int.tdiv y17 (p0.height.length : Int))).toNat - k21) (v11_0, 0, rb11_0, ad11_0, m11_0, cap11_0) ?_ ?_
  ·
   exact ⟨_, B20, Le.refl _, (hfv11_0_0.mono (Le.or (Le2 j18 j20) _)), hp⟩
  rintro ⟨v21_0, k21, rb21_0, ad21_0, m21_0, cap21_0⟩ w21 K21 G21 ⟨Y21, B21, j21, hfv21_0_0, hp⟩
  refine zz 6 ?_
  refine zt 27 (p := (k21 : Int) < (IntKind.i64.wrap (Int.tdiv y17 (p0.height.length : Int)))) (fun ht22 => ?_) (fun ht22 => ?_)
  ·
   have hob := cnt_ltI (N := (IntKind.i64.wrap (Int.tdiv y17 (p0.height.length : Int)))) (k := k21) ht22
   obtain ⟨r21, hm21, hn21⟩ := hob
   rw [hm21, dynamics_Terminal_l21] at hp
   refine zz 8 ?_
   refine zn pn (.cells #[.bool false, .slice none 0 0, .slice none 0 0] 28 (0, 0)) B21 ?_
   intro b24 w24 Y24 B24 j24 hu24
   refine zx 0 #[.bool false, .slice none 0 0, .slice none 0 0] B24 ?_
   intro w25 B25 j25
   refine bndk hp fun z26 hz26 hp => ?_
   refine zz 9 ?_
   refine zs 32 (v := .int .i64 (if (IntKind.i64.wrap ((0 : Int) - x11)) > x11 then IntKind.i64.wrap ((0 : Int) - x11) else x11)) (v' := .int .i64 z26) (vint (Option.some.inj hz26)) ?_
   refine zz 1 ?_
   refine zo 1 B25 ?_
   refine zz 3 ?_
   refine zt 35 (p := (z26) < p0.near) (fun ht27 => ?_) (fun ht27 => ?_)
   ·
    have hp := ip ht27 hp
    refine zz 2 ?_
    refine bndk hp fun y29 hy29 hp => ?_
    refine zc B25 (rat_From_c _ X0 (X0_lt _) (1 : Int) y29 hy29) ?_
    rintro v30 w30 B30 j30 hu30 ⟨u30_0_1, u30_0_2, u30_0_3, u30_0_4, u30_0_5, u30_0_6, rfl, u30_0__h0, u30_0__h1⟩
    have hob := u30_0__h0.hlen
    subst hob
    have hob := u30_0__h1.hlen
    subst hob
    refine zx 0 #[.bool y29.neg, .slice u30_0_1 y29.ln.length u30_0_3, .slice u30_0_4 y29.ld.length u30_0_6] B30 ?_
    intro w31 B31 j31
    refine zz 4 ?_
    refine zo 0 B31 ?_
    refine zn (fun b => .slice (some ⟨b, 0, none⟩) 1 1) (.cells #[.bool y29.neg, .slice u30_0_1 y29.ln.length u30_0_3, .slice u30_0_4 y29.ld.length u30_0_6] 28 (0, 0)) B31 ?_
    intro b33 w33 Y33 B33 j33 hu33
    have hob := grdp hp
    obtain ⟨hg35, hp⟩ := hob
    have hln36 : m21_0 = v21_0.length := GRow.len hfv21_0_0
    have hc2_ := (Le4 j24 j25 j30 j31).trans j33
    have hob := (hfv21_0_0.mono (Le.or hc2_ _))
    obtain ⟨es36, hr36, hq36, hk36, hm36⟩ := hob
    refine zop (at1 [K10, K11, K14, K21] Tryz.f43 [1, 1, 9, 1, 0, 0, 1, 1, 9, 0, 1, 1, 0, 0, 1, 1, 0, 0, 1, 1]) 3 (fun a34 _ C34 hz34 => op_appEZ (b := 56) (m := 1) (c := 1) (ad := ⟨b33, 0, none⟩) (news := [.bool y29.neg, .slice u30_0_1 y29.ln.length u30_0_3, .slice u30_0_4 y29.ld.length u30_0_6]) (i0 := Tryz.t28) (rb := rb21_0) (R1 := []) 3 C34 B33 rfl hr36 (B33.cells 0 rfl rfl) (app_b1 hg35 hln36 rfl) (app_b2 hg35 hln36) ?_)
    intro rb37 ad37 cap37 w37 Y37 hrow37 B37 j37 a38 C38
    have hg37 : GRow RatCs 28 3 (rd w37 (orN Y37 w.heap.size)) rb37 ad37 (m21_0 + 1) cap37 (v21_0 ++ [y29]) := GRow.snoc hrow37 hq36 hk36 hm36 (Le.or j37 _) ⟨rfl, fun r2 h2 => ⟨_, _, _, _, _, _, rfl, ((u30_0__h0.mono (Le.own B25.lt B25.upd.size (Le3 j31 j33 j37))).mono h2), ((u30_0__h1.mono (Le.own B25.lt B25.upd.size (Le3 j31 j33 j37))).mono h2)⟩⟩
    refine hz34 C38 ?_
    refine zz 6 ?_
    refine zs 41 (v := .int .i64 (IntKind.i64.wrap ((k21 : Int) + 1))) (v' := .int .i64 ((k21 : Int) + 1)) (vint (wi64 (wk0 k21) (wk1 ht22 hb21))) ?_
    refine zz 2 ?_
    have hc3_ := (Le6 j21 j24 j25 j30 j31 j33).trans j37
    refine znext (fun a h => G21 ((v21_0 ++ [y29]), k21 + 1, rb37, ad37, (m21_0 + 1), cap37) _ a h ⟨_, B37.tail.tail, hc3_, hg37, (by rw [hn21]; exact hp)⟩ ?_)
    exact mu_ltN ht22
   have hp := iq ht27 hp
   refine zz 5 ?_
   refine zo 0 B25 ?_
   refine zn (fun b => .slice (some ⟨b, 0, none⟩) 1 1) (.cells #[.bool false, .slice none 0 0, .slice none 0 0] 28 (0, 0)) B25 ?_
   intro b40 w40 Y40 B40 j40 hu40
   have hob := grdp hp
   obtain ⟨hg42, hp⟩ := hob
   have hln43 : m21_0 = v21_0.length := GRow.len hfv21_0_0
   have hob := (hfv21_0_0.mono (Le.or (Le3 j24 j25 j40) _))
   obtain ⟨es43, hr43, hq43, hk43, hm43⟩ := hob
   refine zop (at1 [K10, K11, K14, K21] Tryz.f43 [1, 1, 9, 1, 0, 0, 1, 1, 9, 0, 1, 1, 0, 0, 1, 1, 0, 0, 1, 1]) 3 (fun a41 _ C41 hz41 => op_appEZ (b := 56) (m := 1) (c := 1) (ad := ⟨b40, 0, none⟩) (news := [.bool false, .slice none 0 0, .slice none 0 0]) (i0 := Tryz.t28) (rb := rb21_0) (R1 := []) 3 C41 B40 rfl hr43 (B40.cells 0 rfl rfl) (app_b1 hg42 hln43 rfl) (app_b2 hg42 hln43) ?_)
   intro rb44 ad44 cap44 w44 Y44 hrow44 B44 j44 a45 C45
   have hg44 : GRow RatCs 28 3 (rd w44 (orN Y44 w.heap.size)) rb44 ad44 (m21_0 + 1) cap44 (v21_0 ++ [Raw.zero]) := GRow.snoc hrow44 hq43 hk43 hm43 (Le.or j44 _) ⟨rfl, fun r2 h2 => ⟨_, _, _, _, _, _, rfl, (Limbs.nil0.mono h2), (Limbs.nil0.mono h2)⟩⟩
   refine hz41 C45 ?_
   refine zz 6 ?_
   refine zs 41 (v := .int .i64 (IntKind.i64.wrap ((k21 : Int) + 1))) (v' := .int .i64 ((k21 : Int) + 1)) (vint (wi64 (wk0 k21) (wk1 ht22 hb21))) ?_
   refine zz 2 ?_
   have hc4_ := (Le4 j21 j24 j25 j40).trans j44
   refine znext (fun a h => G21 ((v21_0 ++ [Raw.zero]), k21 + 1, rb44, ad44, (m21_0 + 1), cap44) _ a h ⟨_, B44.tail.tail, hc4_, hg44, (by rw [hn21]; exact hp)⟩ ?_)
   exact mu_ltN ht22
  rw [cnt_end (N := (IntKind.i64.wrap (Int.tdiv y17 (p0.height.length : Int)))) ht22, dynamics_Terminal_l21] at hp
  refine zz 6 ?_
  exact znext (fun a h => G14 (v21_0, rb21_0, ad21_0, m21_0, cap21_0) _ a h ⟨_, B21, (Le3 j18 j20 j21), hfv21_0_0, hp⟩)
 rw [List.drop_eq_nil_of_le (nlt_of_int ht12), dynamics_Terminal_l11] at hp
 refine zz 5 ?_
 exact znext (fun a h => G10 (v11_0, rb11_0, ad11_0, m11_0, cap11_0) _ a h ⟨_, B11, j11, hfv11_0_0, hp⟩)
end Go.Proofs.YtppalofalmieaaaGreat

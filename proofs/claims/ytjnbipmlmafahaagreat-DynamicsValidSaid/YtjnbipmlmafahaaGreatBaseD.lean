/- Parts of the proof: A3 A4 AM A5 A6 OX P1. By an AI agent. -/
import Derived.Shelf.SlIterI.Nil
import Derived.Shelf.SortM.Plain
import Derived.Shelf.SortM.SortNone
import Derived.Test.YtjnbipmlmafahaaGreatRows
import Derived.Test.YtjnbipmlmafahaaGreatBaseA
import Derived.Test.YtjnbipmlmafahaaGreatBaseB
import Derived.Test.YtjnbipmlmafahaaGreatBaseC
set_option linter.unusedVariables false
set_option linter.unusedSimpArgs false
set_option linter.unnecessarySimpa false
namespace Go.Proofs.YtjnbipmlmafahaaGreat
open Go Go.Gv Go.RowKit
set_option maxRecDepth 100000
set_option maxHeartbeats 1000000
noncomputable def dynamics_known_p (p0 : ModelD) (p1 : List Int) : Option (Int) :=
  (dynamics_Check_p p0).bind fun y5 => if ((y5) != 0) = true then (some y5) else ((dynamics_span_has_p (SpanD.mk 0 (IntKind.i64.wrap ((p0.advisories.length : Int) - 1))) p1).bind fun y9 => if (!y9) = true then (some 8) else (some 0))
theorem dynamics_known_c (w : World) (X : Hid) (hX : ∀ k o, X k o → k < w.heap.size) (p0 : ModelD) (vp0 : Value) (hp0 : ModelDV (rd w X) vp0 p0) (p1 : List Int) (vp1 : Value) (hp1 : SV Ints (rd w X) vp1 p1) (y : Int) (hp : dynamics_known_p p0 p1 = some y) : Calls Tryz.prog 53 #[vp0, vp1] w (Ret E0 w fun _ v => v = .int .i64 y) := by
 have hVp0 := hp0
 refine ModelDV.op hp0 fun p0a1 p0a2 p0a3 p0a4 p0a5 p0a6 p0a7 p0a8 p0a9 p0a10 p0a11 p0a12 p0a13 p0a14 p0a15 p0a16 p0a17 p0a18 p0a19 p0a20 p0a21 p0a22 p0a23 p0a24 hv9 p0a_h0 p0a_h1 p0a_h2 p0a_h3 p0a_h4 p0a_h5 p0a_h6 p0a_h7 p0a_h8 p0a_h9 p0a_h10 p0a_h11 => ?_
 subst hv9
 obtain ⟨p1a1, p1a2, rfl, p1a_h0⟩ := hp1
 unfold dynamics_known_p at hp
 refine zen Tryz.func53 ?_
 have C0 : St E0 w X w X [] := St.start hX
 refine zz 2 ?_
 refine zn pn (.cells #[.slice p0a1 p0.height.length p0a2, .slice p0a3 p0.own.length p0a4, .slice p0a5 p0.other.length p0a6, .slice p0a7 p0.advisories.length p0a8, .int .i64 p0.pull, .int .i64 p0.near, .int .i64 p0.steps, .slice p0a9 p0.ownNoise.length p0a10, .slice p0a11 p0.otherNoise.length p0a12, .bool p0.alert.neg, .slice p0a13 p0.alert.ln.length p0a14, .slice p0a15 p0.alert.ld.length p0a16, .bool p0.strengthen.neg, .slice p0a17 p0.strengthen.ln.length p0a18, .slice p0a19 p0.strengthen.ld.length p0a20, .bool p0.reversal.neg, .slice p0a21 p0.reversal.ln.length p0a22, .slice p0a23 p0.reversal.ld.length p0a24] 30 (0, 0)) C0 ?_
 intro b3 w3 Y3 C3 B3 hu3
 refine zz 6 ?_
 refine zo 0 C3 ?_
 refine bndk hp fun y5 hy5 hp => ?_
 refine zc C3 (dynamics_Check_c _ X0 (X0_lt _) p0 _ ((hVp0.mono B3).mono Le.x0) y5 hy5) ?_
 rintro v6 w6 C6 B6 hu6 rfl
 refine zz 9 ?_
 refine zb 9 (b := ((y5) != 0)) (fun hc7 => ?_) (fun hc7 => ?_)
 ·
  have hp := ipb hc7 hp
  refine zz 9 ?_
  refine zr' (v := .int .i64 y5) ?_
  have hob := Option.some.inj hp
  subst hob
  exact ⟨C6.upd, _, rfl, rfl⟩
 have hp := iqb hc7 hp
 refine zz 7 ?_
 refine zo 0 C6 ?_
 refine zz 4 ?_
 refine bndk hp fun y9 hy9 hp => ?_
 refine zc C6 (dynamics_span_has_c _ X0 (X0_lt _) (SpanD.mk 0 (IntKind.i64.wrap ((p0.advisories.length : Int) - 1))) _ rfl p1 _ ⟨_, _, rfl, ((p1a_h0.mono (Le2 B3 B6)).mono Le.x0)⟩ y9 hy9) ?_
 rintro v10 w10 C10 B10 hu10 rfl
 refine zz 3 ?_
 refine zb 18 (b := !y9) (fun hc11 => ?_) (fun hc11 => ?_)
 ·
  have hp := ipb hc11 hp
  refine zz 8 ?_
  refine zr' (v := .int .i64 8) ?_
  have hob := Option.some.inj hp
  subst hob
  exact ⟨C10.upd, _, rfl, rfl⟩
 have hp := iqb hc11 hp
 refine zz 9 ?_
 refine zr' (v := .int .i64 0) ?_
 have hob := Option.some.inj hp
 subst hob
 exact ⟨C10.upd, _, rfl, rfl⟩
noncomputable def dynamics_Size_p (p0 : ModelD) : Option (Int × Int) :=
  (dynamics_Check_p p0).bind fun y5 => if ((y5) != 0) = true then (some (0, y5)) else ((dynamics_size_p p0).bind fun y9 => some (y9, 0))
theorem dynamics_Size_c (w : World) (X : Hid) (hX : ∀ k o, X k o → k < w.heap.size) (p0 : ModelD) (vp0 : Value) (hp0 : ModelDV (rd w X) vp0 p0) (y : Int × Int) (hp : dynamics_Size_p p0 = some y) : Calls Tryz.prog 15 #[vp0] w (Ret E0 w fun _ v => v = .tuple #[.int .i64 y.1, .int .i64 y.2]) := by
 have hVp0 := hp0
 refine ModelDV.op hp0 fun p0a1 p0a2 p0a3 p0a4 p0a5 p0a6 p0a7 p0a8 p0a9 p0a10 p0a11 p0a12 p0a13 p0a14 p0a15 p0a16 p0a17 p0a18 p0a19 p0a20 p0a21 p0a22 p0a23 p0a24 hv9 p0a_h0 p0a_h1 p0a_h2 p0a_h3 p0a_h4 p0a_h5 p0a_h6 p0a_h7 p0a_h8 p0a_h9 p0a_h10 p0a_h11 => ?_
 subst hv9
 unfold dynamics_Size_p at hp
 refine zen Tryz.func15 ?_
 have C0 : St E0 w X w X [] := St.start hX
 refine zz 2 ?_
 refine zn pn (.cells #[.slice p0a1 p0.height.length p0a2, .slice p0a3 p0.own.length p0a4, .slice p0a5 p0.other.length p0a6, .slice p0a7 p0.advisories.length p0a8, .int .i64 p0.pull, .int .i64 p0.near, .int .i64 p0.steps, .slice p0a9 p0.ownNoise.length p0a10, .slice p0a11 p0.otherNoise.length p0a12, .bool p0.alert.neg, .slice p0a13 p0.alert.ln.length p0a14, .slice p0a15 p0.alert.ld.length p0a16, .bool p0.strengthen.neg, .slice p0a17 p0.strengthen.ln.length p0a18, .slice p0a19 p0.strengthen.ld.length p0a20, .bool p0.reversal.neg, .slice p0a21 p0.reversal.ln.length p0a22, .slice p0a23 p0.reversal.ld.length p0a24] 30 (0, 0)) C0 ?_
 intro b3 w3 Y3 C3 B3 hu3
 refine zz 7 ?_
 refine zo 0 C3 ?_
 refine bndk hp fun y5 hy5 hp => ?_
 refine zc C3 (dynamics_Check_c _ X0 (X0_lt _) p0 _ ((hVp0.mono B3).mono Le.x0) y5 hy5) ?_
 rintro v6 w6 C6 B6 hu6 rfl
 refine zz 9 ?_
 refine zb 8 (b := ((y5) != 0)) (fun hc7 => ?_) (fun hc7 => ?_)
 ·
  have hp := ipb hc7 hp
  refine zz 10 ?_
  refine zr' (v := .tuple #[.int .i64 0, .int .i64 y5]) ?_
  have hob := Option.some.inj hp
  subst hob
  exact ⟨C6.upd, _, rfl, rfl⟩
 have hp := iqb hc7 hp
 refine zz 5 ?_
 refine zo 0 C6 ?_
 refine bndk hp fun y9 hy9 hp => ?_
 refine zc C6 (dynamics_size_c _ X0 (X0_lt _) p0 _ ((hVp0.mono (Le2 B3 B6)).mono Le.x0) y9 hy9) ?_
 rintro v10 w10 C10 B10 hu10 rfl
 refine zz 5 ?_
 refine zr' (v := .tuple #[.int .i64 y9, .int .i64 0]) ?_
 have hob := Option.some.inj hp
 subst hob
 exact ⟨C10.upd, _, rfl, rfl⟩
noncomputable def dynamics_Split_p (p0 : ModelD) (p1 : Int) : Option (Int × Int × Int) :=
  (dynamics_Check_p p0).bind fun y5 => if ((y5) != 0) = true then (some (0, 0, y5)) else (if (p1) < 0 then (some (0, 0, 8)) else ((dynamics_size_p p0).bind fun y10 => if (p1) ≥ y10 then (some (0, 0, 8)) else (grd ((p0.advisories.length : Int) ≠ 0) <| grd ((p0.advisories.length : Int) ≠ 0) <| some (IntKind.i64.wrap (Int.tdiv p1 (p0.advisories.length : Int)), Int.tmod p1 (p0.advisories.length : Int), 0))))
theorem dynamics_Split_c (w : World) (X : Hid) (hX : ∀ k o, X k o → k < w.heap.size) (p0 : ModelD) (vp0 : Value) (hp0 : ModelDV (rd w X) vp0 p0) (p1 : Int) (y : Int × Int × Int) (hp : dynamics_Split_p p0 p1 = some y) : Calls Tryz.prog 17 #[vp0, .int .i64 p1] w (Ret E0 w fun _ v => v = .tuple #[.int .i64 y.1, .int .i64 y.2.1, .int .i64 y.2.2]) := by
 have hVp0 := hp0
 refine ModelDV.op hp0 fun p0a1 p0a2 p0a3 p0a4 p0a5 p0a6 p0a7 p0a8 p0a9 p0a10 p0a11 p0a12 p0a13 p0a14 p0a15 p0a16 p0a17 p0a18 p0a19 p0a20 p0a21 p0a22 p0a23 p0a24 hv9 p0a_h0 p0a_h1 p0a_h2 p0a_h3 p0a_h4 p0a_h5 p0a_h6 p0a_h7 p0a_h8 p0a_h9 p0a_h10 p0a_h11 => ?_
 subst hv9
 unfold dynamics_Split_p at hp
 refine zen Tryz.func17 ?_
 have C0 : St E0 w X w X [] := St.start hX
 refine zz 2 ?_
 refine zn pn (.cells #[.slice p0a1 p0.height.length p0a2, .slice p0a3 p0.own.length p0a4, .slice p0a5 p0.other.length p0a6, .slice p0a7 p0.advisories.length p0a8, .int .i64 p0.pull, .int .i64 p0.near, .int .i64 p0.steps, .slice p0a9 p0.ownNoise.length p0a10, .slice p0a11 p0.otherNoise.length p0a12, .bool p0.alert.neg, .slice p0a13 p0.alert.ln.length p0a14, .slice p0a15 p0.alert.ld.length p0a16, .bool p0.strengthen.neg, .slice p0a17 p0.strengthen.ln.length p0a18, .slice p0a19 p0.strengthen.ld.length p0a20, .bool p0.reversal.neg, .slice p0a21 p0.reversal.ln.length p0a22, .slice p0a23 p0.reversal.ld.length p0a24] 30 (0, 0)) C0 ?_
 intro b3 w3 Y3 C3 B3 hu3
 refine zz 8 ?_
 refine zo 0 C3 ?_
 refine bndk hp fun y5 hy5 hp => ?_
 refine zc C3 (dynamics_Check_c _ X0 (X0_lt _) p0 _ ((hVp0.mono B3).mono Le.x0) y5 hy5) ?_
 rintro v6 w6 C6 B6 hu6 rfl
 refine zz 11 ?_
 refine zb 10 (b := ((y5) != 0)) (fun hc7 => ?_) (fun hc7 => ?_)
 ·
  have hp := ipb hc7 hp
  refine zz 12 ?_
  refine zr' (v := .tuple #[.int .i64 0, .int .i64 0, .int .i64 y5]) ?_
  have hob := Option.some.inj hp
  subst hob
  exact ⟨C6.upd, _, rfl, rfl⟩
 have hp := iqb hc7 hp
 refine zz 6 ?_
 refine zt 17 (p := (p1) < 0) (fun ht8 => ?_) (fun ht8 => ?_)
 ·
  have hp := ip ht8 hp
  refine zz 19 ?_
  refine zr' (v := .tuple #[.int .i64 0, .int .i64 0, .int .i64 8]) ?_
  have hob := Option.some.inj hp
  subst hob
  exact ⟨C6.upd, _, rfl, rfl⟩
 have hp := iq ht8 hp
 refine zz 1 ?_
 refine zo 0 C6 ?_
 refine bndk hp fun y10 hy10 hp => ?_
 refine zc C6 (dynamics_size_c _ X0 (X0_lt _) p0 _ ((hVp0.mono (Le2 B3 B6)).mono Le.x0) y10 hy10) ?_
 rintro v11 w11 C11 B11 hu11 rfl
 refine zz 5 ?_
 refine zt 14 (p := (p1) ≥ y10) (fun ht12 => ?_) (fun ht12 => ?_)
 ·
  have hp := ip ht12 hp
  refine zz 11 ?_
  refine zr' (v := .tuple #[.int .i64 0, .int .i64 0, .int .i64 8]) ?_
  have hob := Option.some.inj hp
  subst hob
  exact ⟨C11.upd, _, rfl, rfl⟩
 have hp := iq ht12 hp
 refine zz 5 ?_
 refine zdr C11 ?_
 refine gz [0, 1] ?_
 refine gw 2 0 ?_
 refine gz [3] ?_
 have hob := grdp hp
 obtain ⟨hg13, hp⟩ := hob
 refine gH (v := .int .i64 (IntKind.i64.wrap (Int.tdiv p1 (p0.advisories.length : Int)))) 4 (fun w => run_quoV (a := p1) (b := (p0.advisories.length : Int)) rfl kr kr hg13 _) ?_
 refine gz [5, 6] ?_
 refine gw 7 0 ?_
 refine gz [8] ?_
 have hob := grdp hp
 obtain ⟨hg14, hp⟩ := hob
 refine gH (v := .int .i64 (Int.tmod p1 (p0.advisories.length : Int))) 9 (fun w => run_remV (a := p1) (b := (p0.advisories.length : Int)) rfl kr kr hg14 _) ?_
 refine gz [10, 11, 12] ?_
 refine gend (fun w15 Y15 C15 B15 => ?_)
 refine zz 2 ?_
 refine zr' (v := .tuple #[.int .i64 (IntKind.i64.wrap (Int.tdiv p1 (p0.advisories.length : Int))), .int .i64 (Int.tmod p1 (p0.advisories.length : Int)), .int .i64 0]) ?_
 have hob := Option.some.inj hp
 subst hob
 exact ⟨C15.upd, _, rfl, rfl⟩
noncomputable def dynamics_respond_p (p0 : ModelD) (p1 : Int) (p2 : Int) : Option (Int) :=
  (ix p0.advisories (p2)).bind fun x4 => if ((p2) == 0) = true then (some p1) else (if (p1) < x4.lo then ((some (if (x4.lo) < (IntKind.i64.wrap ((p1) + p0.pull)) then x4.lo else IntKind.i64.wrap ((p1) + p0.pull))).bind fun z11 => some z11) else (if (p1) > x4.hi then ((some (if (x4.hi) > (IntKind.i64.wrap ((p1) - p0.pull)) then x4.hi else IntKind.i64.wrap ((p1) - p0.pull))).bind fun z13 => some z13) else (some p1)))
theorem dynamics_respond_c (w : World) (X : Hid) (hX : ∀ k o, X k o → k < w.heap.size) (p0 : ModelD) (vp0 : Value) (hp0 : ModelDV (rd w X) vp0 p0) (p1 : Int) (p2 : Int) (y : Int) (hp : dynamics_respond_p p0 p1 p2 = some y) : Calls Tryz.prog 55 #[vp0, .int .i64 p1, .int .i64 p2] w (Ret E0 w fun _ v => v = .int .i64 y) := by
 have hVp0 := hp0
 refine ModelDV.op hp0 fun p0a1 p0a2 p0a3 p0a4 p0a5 p0a6 p0a7 p0a8 p0a9 p0a10 p0a11 p0a12 p0a13 p0a14 p0a15 p0a16 p0a17 p0a18 p0a19 p0a20 p0a21 p0a22 p0a23 p0a24 hv9 p0a_h0 p0a_h1 p0a_h2 p0a_h3 p0a_h4 p0a_h5 p0a_h6 p0a_h7 p0a_h8 p0a_h9 p0a_h10 p0a_h11 => ?_
 subst hv9
 unfold dynamics_respond_p at hp
 refine zen Tryz.func55 ?_
 have C0 : St E0 w X w X [] := St.start hX
 refine zz 2 ?_
 refine zn pn (.cells #[.slice p0a1 p0.height.length p0a2, .slice p0a3 p0.own.length p0a4, .slice p0a5 p0.other.length p0a6, .slice p0a7 p0.advisories.length p0a8, .int .i64 p0.pull, .int .i64 p0.near, .int .i64 p0.steps, .slice p0a9 p0.ownNoise.length p0a10, .slice p0a11 p0.otherNoise.length p0a12, .bool p0.alert.neg, .slice p0a13 p0.alert.ln.length p0a14, .slice p0a15 p0.alert.ld.length p0a16, .bool p0.strengthen.neg, .slice p0a17 p0.strengthen.ln.length p0a18, .slice p0a19 p0.strengthen.ld.length p0a20, .bool p0.reversal.neg, .slice p0a21 p0.reversal.ln.length p0a22, .slice p0a23 p0.reversal.ld.length p0a24] 30 (0, 0)) C0 ?_
 intro b3 w3 Y3 C3 B3 hu3
 refine zz 7 ?_
 refine zo 0 C3 ?_
 refine zz 1 ?_
 refine bndk hp fun x4 hx4 hp => ?_
 have hob := ix_some hx4
 obtain ⟨hzx4, hqx4⟩ := hob
 have hob := p0a_h3.opn hqx4
 obtain ⟨be5, oe5, rfl, B5, hEe5⟩ := hob
 have e5_at : At (rd w X) ⟨be5, oe5 + (p2).toNat * 3, none⟩ [.int .u8 x4.sense, .int .i64 x4.lo, .int .i64 x4.hi] := hEe5
 refine zi (b := be5) (off := oe5) (len := p0.advisories.length) (cap := p0a8) (kd := .i64) (i := p2) 3 (oe5 + (p2).toNat * 3) ?_ (h0 := hzx4) (h1 := (ix_b hzx4 B5))
 refine zl ((e5_at.mono B3)).cells ?_
 refine zn pn (.cells #[.int .u8 0, .int .i64 0, .int .i64 0] 96 (0, 0)) C3 ?_
 intro b7 w7 Y7 C7 B7 hu7
 refine zx 0 #[.int .u8 x4.sense, .int .i64 x4.lo, .int .i64 x4.hi] C7 ?_
 intro w8 C8 B8
 refine zz 10 ?_
 refine zb 13 (b := ((p2) == 0)) (fun hc9 => ?_) (fun hc9 => ?_)
 ·
  have hp := ipb hc9 hp
  refine zz 10 ?_
  refine zr' (v := .int .i64 p1) ?_
  have hob := Option.some.inj hp
  subst hob
  exact ⟨C8.upd, _, rfl, rfl⟩
 have hp := iqb hc9 hp
 refine zz 5 ?_
 refine zo 0 C8 ?_
 refine zz 4 ?_
 refine zt 17 (p := (p1) < x4.lo) (fun ht10 => ?_) (fun ht10 => ?_)
 ·
  have hp := ip ht10 hp
  refine zz 5 ?_
  refine zo 1 C8 ?_
  refine zz 2 ?_
  refine zo 0 C8 ?_
  refine bndk hp fun z11 hz11 hp => ?_
  refine zz 1 ?_
  refine zs 28 (v := .int .i64 (if (x4.lo) < (IntKind.i64.wrap ((p1) + p0.pull)) then x4.lo else IntKind.i64.wrap ((p1) + p0.pull))) (v' := .int .i64 z11) (vint (Option.some.inj hz11)) ?_
  refine zz 6 ?_
  refine zr' (v := .int .i64 z11) ?_
  have hob := Option.some.inj hp
  subst hob
  exact ⟨C8.upd, _, rfl, rfl⟩
 have hp := iq ht10 hp
 refine zz 5 ?_
 refine zo 0 C8 ?_
 refine zz 4 ?_
 refine zt 29 (p := (p1) > x4.hi) (fun ht12 => ?_) (fun ht12 => ?_)
 ·
  have hp := ip ht12 hp
  refine zz 5 ?_
  refine zo 1 C8 ?_
  refine zz 2 ?_
  refine zo 0 C8 ?_
  refine bndk hp fun z13 hz13 hp => ?_
  refine zz 1 ?_
  refine zs 40 (v := .int .i64 (if (x4.hi) > (IntKind.i64.wrap ((p1) - p0.pull)) then x4.hi else IntKind.i64.wrap ((p1) - p0.pull))) (v' := .int .i64 z13) (vint (Option.some.inj hz13)) ?_
  refine zz 6 ?_
  refine zr' (v := .int .i64 z13) ?_
  have hob := Option.some.inj hp
  subst hob
  exact ⟨C8.upd, _, rfl, rfl⟩
 have hp := iq ht12 hp
 refine zz 11 ?_
 refine zr' (v := .int .i64 p1) ?_
 have hob := Option.some.inj hp
 subst hob
 exact ⟨C8.upd, _, rfl, rfl⟩
noncomputable def dynamics_Respond_p (p0 : ModelD) (p1 : Int) (p2 : Int) : Option (Int × Int) :=
  (dynamics_Check_p p0).bind fun y5 => if ((y5) != 0) = true then (some (0, y5)) else ((dynamics_within_p (100 : Int)).bind fun y9 => (dynamics_within_1_p ([p1]) y9).bind fun y14 => if (!y14) = true then (some (0, 1)) else ((dynamics_known_p p0 ([p2])).bind fun y20 => if ((y20) != 0) = true then (some (0, y20)) else ((dynamics_respond_p p0 (p1) (p2)).bind fun y24 => some (y24, 0))))
theorem dynamics_Respond_c (w : World) (X : Hid) (hX : ∀ k o, X k o → k < w.heap.size) (p0 : ModelD) (vp0 : Value) (hp0 : ModelDV (rd w X) vp0 p0) (p1 : Int) (p2 : Int) (y : Int × Int) (hp : dynamics_Respond_p p0 p1 p2 = some y) : Calls Tryz.prog 18 #[vp0, .int .i64 p1, .int .i64 p2] w (Ret E0 w fun _ v => v = .tuple #[.int .i64 y.1, .int .i64 y.2]) := by
 have hVp0 := hp0
 refine ModelDV.op hp0 fun p0a1 p0a2 p0a3 p0a4 p0a5 p0a6 p0a7 p0a8 p0a9 p0a10 p0a11 p0a12 p0a13 p0a14 p0a15 p0a16 p0a17 p0a18 p0a19 p0a20 p0a21 p0a22 p0a23 p0a24 hv9 p0a_h0 p0a_h1 p0a_h2 p0a_h3 p0a_h4 p0a_h5 p0a_h6 p0a_h7 p0a_h8 p0a_h9 p0a_h10 p0a_h11 => ?_
 subst hv9
 unfold dynamics_Respond_p at hp
 refine zen Tryz.func18 ?_
 have C0 : St E0 w X w X [] := St.start hX
 refine zz 2 ?_
 refine zn pn (.cells #[.slice p0a1 p0.height.length p0a2, .slice p0a3 p0.own.length p0a4, .slice p0a5 p0.other.length p0a6, .slice p0a7 p0.advisories.length p0a8, .int .i64 p0.pull, .int .i64 p0.near, .int .i64 p0.steps, .slice p0a9 p0.ownNoise.length p0a10, .slice p0a11 p0.otherNoise.length p0a12, .bool p0.alert.neg, .slice p0a13 p0.alert.ln.length p0a14, .slice p0a15 p0.alert.ld.length p0a16, .bool p0.strengthen.neg, .slice p0a17 p0.strengthen.ln.length p0a18, .slice p0a19 p0.strengthen.ld.length p0a20, .bool p0.reversal.neg, .slice p0a21 p0.reversal.ln.length p0a22, .slice p0a23 p0.reversal.ld.length p0a24] 30 (0, 0)) C0 ?_
 intro b3 w3 Y3 C3 B3 hu3
 refine zz 7 ?_
 refine zo 0 C3 ?_
 refine bndk hp fun y5 hy5 hp => ?_
 refine zc C3 (dynamics_Check_c _ X0 (X0_lt _) p0 _ ((hVp0.mono B3).mono Le.x0) y5 hy5) ?_
 rintro v6 w6 C6 B6 hu6 rfl
 refine zz 11 ?_
 refine zb 12 (b := ((y5) != 0)) (fun hc7 => ?_) (fun hc7 => ?_)
 ·
  have hp := ipb hc7 hp
  refine zz 11 ?_
  refine zr' (v := .tuple #[.int .i64 0, .int .i64 y5]) ?_
  have hob := Option.some.inj hp
  subst hob
  exact ⟨C6.upd, _, rfl, rfl⟩
 have hp := iqb hc7 hp
 refine zz 3 ?_
 refine bndk hp fun y9 hy9 hp => ?_
 refine zc C6 (dynamics_within_c _ X0 (X0_lt _) (100 : Int) y9 hy9) ?_
 rintro v10 w10 C10 B10 hu10 ⟨u10_0_b0, u10_0_b1, rfl, u10_0_h0, u10_0_h1⟩
 have hAu10_0_b0 : At (rd w10 Y3) ⟨u10_0_b0, 0, none⟩ [.func (.func 61) #[] #[]] := (At.mono (Le.new C6.lt) u10_0_h0)
 have hAu10_0_b1 : At (rd w10 Y3) ⟨u10_0_b1, 0, none⟩ [.int .i64 y9] := (At.mono (Le.new C6.lt) u10_0_h1)
 refine zz 1 ?_
 refine zn (fun b => .slice (some ⟨b, 0, none⟩) 1 1) (.cells #[.int .i64 p1] 3 (0, 0)) C10 ?_
 intro b12 w12 Y12 C12 B12 hu12
 refine bndk hp fun y14 hy14 hp => ?_
 refine zc C12 (dynamics_within_1_c _ X0 (X0_lt _) ([p1]) _ ⟨_, _, rfl, (SlR.lit (El := IntAt) (size := 1) (n := 1) [⟨(p1 : Int), [.int .i64 p1]⟩] (C12.at0 0 rfl rfl) (List.forall_mem_cons.2 ⟨⟨rfl, fun r2 h2 b o h9 => h9⟩, (List.forall_mem_nil _)⟩) rfl (by decide))⟩ _ ((hAu10_0_b0.mono B12).mono Le.x0) y9 _ ((hAu10_0_b1.mono B12).mono Le.x0) y14 hy14) ?_ (vs := #[.slice (some ⟨b12, 0, none⟩) 1 1, .pointer (some ⟨u10_0_b0, 0, none⟩), .pointer (some ⟨u10_0_b1, 0, none⟩)])
 rintro v15 w15 C15 B15 hu15 rfl
 refine zz 4 ?_
 refine zb 16 (b := !y14) (fun hc16 => ?_) (fun hc16 => ?_)
 ·
  have hp := ipb hc16 hp
  refine zz 10 ?_
  refine zr' (v := .tuple #[.int .i64 0, .int .i64 1]) ?_
  have hob := Option.some.inj hp
  subst hob
  exact ⟨C15.upd, _, rfl, rfl⟩
 have hp := iqb hc16 hp
 refine zz 7 ?_
 refine zo 1 C15 ?_
 refine zz 1 ?_
 refine zn (fun b => .slice (some ⟨b, 0, none⟩) 1 1) (.cells #[.int .i64 p2] 3 (0, 0)) C15 ?_
 intro b18 w18 Y18 C18 B18 hu18
 have hc1_ := (Le5 B3 B6 B10 B12 B15).trans B18
 refine bndk hp fun y20 hy20 hp => ?_
 refine zc C18 (dynamics_known_c _ X0 (X0_lt _) p0 _ ((hVp0.mono hc1_).mono Le.x0) ([p2]) _ ⟨_, _, rfl, (SlR.lit (El := IntAt) (size := 1) (n := 1) [⟨(p2 : Int), [.int .i64 p2]⟩] (C18.at0 0 rfl rfl) (List.forall_mem_cons.2 ⟨⟨rfl, fun r2 h2 b o h9 => h9⟩, (List.forall_mem_nil _)⟩) rfl (by decide))⟩ y20 hy20) ?_ (vs := #[.agg #[.slice p0a1 p0.height.length p0a2, .slice p0a3 p0.own.length p0a4, .slice p0a5 p0.other.length p0a6, .slice p0a7 p0.advisories.length p0a8, .int .i64 p0.pull, .int .i64 p0.near, .int .i64 p0.steps, .slice p0a9 p0.ownNoise.length p0a10, .slice p0a11 p0.otherNoise.length p0a12, .bool p0.alert.neg, .slice p0a13 p0.alert.ln.length p0a14, .slice p0a15 p0.alert.ld.length p0a16, .bool p0.strengthen.neg, .slice p0a17 p0.strengthen.ln.length p0a18, .slice p0a19 p0.strengthen.ld.length p0a20, .bool p0.reversal.neg, .slice p0a21 p0.reversal.ln.length p0a22, .slice p0a23 p0.reversal.ld.length p0a24], .slice (some ⟨b18, 0, none⟩) 1 1])
 rintro v21 w21 C21 B21 hu21 rfl
 refine zz 9 ?_
 refine zb 27 (b := ((y20) != 0)) (fun hc22 => ?_) (fun hc22 => ?_)
 ·
  have hp := ipb hc22 hp
  refine zz 10 ?_
  refine zr' (v := .tuple #[.int .i64 0, .int .i64 y20]) ?_
  have hob := Option.some.inj hp
  subst hob
  exact ⟨C21.upd, _, rfl, rfl⟩
 have hp := iqb hc22 hp
 refine zz 5 ?_
 refine zo 2 C21 ?_
 refine zz 2 ?_
 have hc2_ := hc1_.trans B21
 refine bndk hp fun y24 hy24 hp => ?_
 refine zc C21 (dynamics_respond_c _ X0 (X0_lt _) p0 _ ((hVp0.mono hc2_).mono Le.x0) (p1) (p2) y24 hy24) ?_
 rintro v25 w25 C25 B25 hu25 rfl
 refine zz 5 ?_
 refine zr' (v := .tuple #[.int .i64 y24, .int .i64 0]) ?_
 have hob := Option.some.inj hp
 subst hob
 exact ⟨C25.upd, _, rfl, rfl⟩
noncomputable def clearwaylaw24_of_p (p0 : Int) (p1 : Int) : Option (Raw) :=
  (rat_Of_p (p0) (p1)).bind fun y5 => some y5.1
theorem clearwaylaw24_of_c (w : World) (X : Hid) (hX : ∀ k o, X k o → k < w.heap.size) (p0 : Int) (p1 : Int) (y : Raw) (hp : clearwaylaw24_of_p p0 p1 = some y) : Calls Tryz.prog 42 #[.int .i64 p0, .int .i64 p1] w (Ret E0 w fun w' v => RawV (rd w' (old w)) v y) := by
 unfold clearwaylaw24_of_p at hp
 refine zen Tryz.func42 ?_
 have C0 : St E0 w X w X [] := St.start hX
 refine zz 2 ?_
 refine zn pn (.cells #[.bool false, .slice none 0 0, .slice none 0 0] 28 (0, 0)) C0 ?_
 intro b3 w3 Y3 C3 B3 hu3
 refine zz 6 ?_
 refine bndk hp fun y5 hy5 hp => ?_
 refine zc C3 (rat_Of_c _ X0 (X0_lt _) (p0) (p1) y5 hy5) ?_
 rintro v6 w6 C6 B6 hu6 ⟨uu6_0, rfl, ⟨u6_0_1, u6_0_2, u6_0_3, u6_0_4, u6_0_5, u6_0_6, rfl, u6_0__h0, u6_0__h1⟩⟩
 have hob := u6_0__h0.hlen
 subst hob
 have hob := u6_0__h1.hlen
 subst hob
 refine zz 3 ?_
 refine zn pn (.cells #[.bool false, .slice none 0 0, .slice none 0 0] 28 (0, 0)) C6 ?_
 intro b8 w8 Y8 C8 B8 hu8
 refine zx 0 #[.bool y5.1.neg, .slice u6_0_1 y5.1.ln.length u6_0_3, .slice u6_0_4 y5.1.ld.length u6_0_6] C8 ?_
 intro w9 C9 B9
 refine zz 5 ?_
 refine zo 0 C9 ?_
 refine zx 1 #[.bool y5.1.neg, .slice u6_0_1 y5.1.ln.length u6_0_3, .slice u6_0_4 y5.1.ld.length u6_0_6] C9 ?_
 intro w10 C10 B10
 refine zz 3 ?_
 refine zrS [.cell 4 28] (v := .agg #[.bool y5.1.neg, .slice u6_0_1 y5.1.ln.length u6_0_3, .slice u6_0_4 y5.1.ld.length u6_0_6]) (Res.cM C10 1 Res.nil) ?_
 have hob := Option.some.inj hp
 subst hob
 exact ⟨C10.upd, _, rfl, ⟨_, _, _, _, _, _, rfl, ((u6_0__h0.mono (Le.own C3.lt C3.upd.size (Le3 B8 B9 B10)))).mono Le.orr, ((u6_0__h1.mono (Le.own C3.lt C3.upd.size (Le3 B8 B9 B10)))).mono Le.orr⟩⟩
noncomputable def clearwaylaw06_Long_l4 (J2 : Option (Bool)) : List Raw → Option (Bool)
  | [] => J2
  | x4 :: r4 => if (x4.ln.length : Int) > 6 then (if (x4.ln.length : Int) ≤ 128 then (some true) else (if (x4.ld.length : Int) > 6 then (if (x4.ld.length : Int) ≤ 128 then (some true) else (if (x4.ln.length : Int) > 200 then (some true) else (if (x4.ld.length : Int) > 200 then (some true) else (clearwaylaw06_Long_l4 J2 r4 )))) else (if (x4.ln.length : Int) > 200 then (some true) else (if (x4.ld.length : Int) > 200 then (some true) else (clearwaylaw06_Long_l4 J2 r4 ))))) else (if (x4.ld.length : Int) > 6 then (if (x4.ld.length : Int) ≤ 128 then (some true) else (if (x4.ln.length : Int) > 200 then (some true) else (if (x4.ld.length : Int) > 200 then (some true) else (clearwaylaw06_Long_l4 J2 r4 )))) else (if (x4.ln.length : Int) > 200 then (some true) else (if (x4.ld.length : Int) > 200 then (some true) else (clearwaylaw06_Long_l4 J2 r4 ))))
noncomputable def clearwaylaw06_Long_p (p0 : List Raw) : Option (Bool) :=
  lt (some false) fun J2 => clearwaylaw06_Long_l4 J2 (p0.drop 0) 
theorem clearwaylaw06_Long_c (w : World) (X : Hid) (hX : ∀ k o, X k o → k < w.heap.size) (p0 : List Raw) (vp0 : Value) (hp0 : SV Rats (rd w X) vp0 p0) (y : Bool) (hp : clearwaylaw06_Long_p p0 = some y) : Calls Tryz.prog 40 #[vp0] w (Ret E0 w fun _ v => v = .bool y) := by
 obtain ⟨p0a1, p0a2, rfl, p0a_h0⟩ := hp0
 unfold clearwaylaw06_Long_p at hp
 refine zen Tryz.func40 ?_
 have C0 : St E0 w X w X [] := St.start hX
 refine zz 5 ?_
 have hob := ltd0 hp
 obtain ⟨J2, hJ2, hp⟩ := hob
 refine zjoin (fun (_ : Unit) => []) (fun (_ : Unit) w1 => ∃ Y1 : Hid, St E0 w X w1 Y1 [] ∧ Le (rd w X) (rd w1 Y1) ∧ J2 = some y) ?_ ?_
 ·
  rintro _ w2 ⟨Y2, C2, B2, hp⟩
  have hp := hJ2.symm.trans hp
  refine zz 6 ?_
  refine zr' (v := .bool false) ?_
  have hob := Option.some.inj hp
  subst hob
  exact ⟨C2.upd, _, rfl, rfl⟩
 intro K3 H3
 refine zz 6 ?_
 have hb4 : (p0.length : Int) ≤ 9223372036854775807 := lenb (p0a_h0).hcap (p0a_h0).hbig
 refine zlp Tryz.f40 [K3] [1, 9, 1, 0] (fun (k4 : Nat) => [(0, .slice p0a1 p0.length p0a2), (3, .int .i64 (k4 : Int))]) (fun (k4 : Nat) w1 => ∃ Y1 : Hid, St E0 w X w1 Y1 [] ∧ Le (rd w X) (rd w1 Y1) ∧ clearwaylaw06_Long_l4 J2 (p0.drop k4)  = some y) (fun (k4 : Nat) => p0.length - k4) 0 ?_ ?_
 ·
  exact ⟨_, C0, Le.refl _, hp⟩
 rintro k4 w4 K4 H4 ⟨Y4, C4, B4, hp⟩
 refine zz 9 ?_
 refine zt 9 (p := (k4 : Int) < (p0.length : Int)) (fun ht5 => ?_) (fun ht5 => ?_)
 ·
  have hob := get_lt (l := p0) (k := k4) (lt_of_int ht5)
  obtain ⟨x4, hqx4⟩ := hob
  rw [dropC hqx4, clearwaylaw06_Long_l4] at hp
  have hzx4 : (0 : Int) ≤ (k4 : Int) := Int.natCast_nonneg _
  refine zz 6 ?_
  refine zdr C4 ?_
  have hob := p0a_h0.sl.opn hqx4
  obtain ⟨be6, oe6, rfl, B6, hEe6⟩ := hob
  obtain ⟨e61, e62, e63, e64, e65, e66, e6_at, e6_h0, e6_h1⟩ := hEe6
  have hob := e6_h0.hlen
  subst hob
  have hob := e6_h1.hlen
  subst hob
  refine gz [0, 1] ?_
  refine gi 2 (b := be6) (off := oe6) (len := p0.length) (cap := p0a2) (kd := .i64) (i := (k4 : Int)) 3 (oe6 + k4 * 3) ?_ (h0 := hzx4) (h1 := (ix_b hzx4 B6))
  refine gz [3] ?_
  refine gl 4 ((e6_at.mono B4).sub 1 1) ?_
  refine gz [5, 6, 7] ?_
  refine gi 8 (b := be6) (off := oe6) (len := p0.length) (cap := p0a2) (kd := .i64) (i := (k4 : Int)) 3 (oe6 + k4 * 3) ?_ (h0 := hzx4) (h1 := (ix_b hzx4 B6))
  refine gz [9] ?_
  refine gl 10 ((e6_at.mono B4).sub 2 1) ?_
  refine gz [11, 12, 13] ?_
  refine gend (fun w7 Y7 C7 B7 => ?_)
  refine zz 6 ?_
  refine zt 26 (p := (x4.ln.length : Int) > 6) (fun ht8 => ?_) (fun ht8 => ?_)
  ·
   have hp := ip ht8 hp
   refine zz 4 ?_
   refine zt 30 (p := (x4.ln.length : Int) ≤ 128) (fun ht9 => ?_) (fun ht9 => ?_)
   ·
    have hp := ip ht9 hp
    refine zz 29 ?_
    refine zr' (v := .bool true) ?_
    have hob := Option.some.inj hp
    subst hob
    exact ⟨C7.upd, _, rfl, rfl⟩
   have hp := iq ht9 hp
   refine zz 3 ?_
   refine zt 33 (p := (x4.ld.length : Int) > 6) (fun ht10 => ?_) (fun ht10 => ?_)
   ·
    have hp := ip ht10 hp
    refine zz 5 ?_
    refine zt 38 (p := (x4.ld.length : Int) ≤ 128) (fun ht11 => ?_) (fun ht11 => ?_)
    ·
     have hp := ip ht11 hp
     refine zz 21 ?_
     refine zr' (v := .bool true) ?_
     have hob := Option.some.inj hp
     subst hob
     exact ⟨C7.upd, _, rfl, rfl⟩
    have hp := iq ht11 hp
    refine zz 4 ?_
    refine zt 42 (p := (x4.ln.length : Int) > 200) (fun ht12 => ?_) (fun ht12 => ?_)
    ·
     have hp := ip ht12 hp
     refine zz 17 ?_
     refine zr' (v := .bool true) ?_
     have hob := Option.some.inj hp
     subst hob
     exact ⟨C7.upd, _, rfl, rfl⟩
    have hp := iq ht12 hp
    refine zz 5 ?_
    refine zt 45 (p := (x4.ld.length : Int) > 200) (fun ht13 => ?_) (fun ht13 => ?_)
    ·
     have hp := ip ht13 hp
     refine zz 12 ?_
     refine zr' (v := .bool true) ?_
     have hob := Option.some.inj hp
     subst hob
     exact ⟨C7.upd, _, rfl, rfl⟩
    have hp := iq ht13 hp
    refine zz 7 ?_
    refine zs 11 (v := .int .i64 (IntKind.i64.wrap ((k4 : Int) + 1))) (v' := .int .i64 ((k4 : Int) + 1)) (vint (wi64 (wk0 k4) (wk1 ht5 hb4))) ?_
    refine zz 2 ?_
    refine znext (fun a h => H4 (k4 + 1) _ a h ⟨_, C7, (Le2 B4 B7), hp⟩ ?_)
    exact mu_lt ht5
   have hp := iq ht10 hp
   refine zz 9 ?_
   refine zt 42 (p := (x4.ln.length : Int) > 200) (fun ht14 => ?_) (fun ht14 => ?_)
   ·
    have hp := ip ht14 hp
    refine zz 17 ?_
    refine zr' (v := .bool true) ?_
    have hob := Option.some.inj hp
    subst hob
    exact ⟨C7.upd, _, rfl, rfl⟩
   have hp := iq ht14 hp
   refine zz 5 ?_
   refine zt 45 (p := (x4.ld.length : Int) > 200) (fun ht15 => ?_) (fun ht15 => ?_)
   ·
    have hp := ip ht15 hp
    refine zz 12 ?_
    refine zr' (v := .bool true) ?_
    have hob := Option.some.inj hp
    subst hob
    exact ⟨C7.upd, _, rfl, rfl⟩
   have hp := iq ht15 hp
   refine zz 7 ?_
   refine zs 11 (v := .int .i64 (IntKind.i64.wrap ((k4 : Int) + 1))) (v' := .int .i64 ((k4 : Int) + 1)) (vint (wi64 (wk0 k4) (wk1 ht5 hb4))) ?_
   refine zz 2 ?_
   refine znext (fun a h => H4 (k4 + 1) _ a h ⟨_, C7, (Le2 B4 B7), hp⟩ ?_)
   exact mu_lt ht5
  have hp := iq ht8 hp
  refine zz 7 ?_
  refine zt 33 (p := (x4.ld.length : Int) > 6) (fun ht16 => ?_) (fun ht16 => ?_)
  ·
   have hp := ip ht16 hp
   refine zz 5 ?_
   refine zt 38 (p := (x4.ld.length : Int) ≤ 128) (fun ht17 => ?_) (fun ht17 => ?_)
   ·
    have hp := ip ht17 hp
    refine zz 21 ?_
    refine zr' (v := .bool true) ?_
    have hob := Option.some.inj hp
    subst hob
    exact ⟨C7.upd, _, rfl, rfl⟩
   have hp := iq ht17 hp
   refine zz 4 ?_
   refine zt 42 (p := (x4.ln.length : Int) > 200) (fun ht18 => ?_) (fun ht18 => ?_)
   ·
    have hp := ip ht18 hp
    refine zz 17 ?_
    refine zr' (v := .bool true) ?_
    have hob := Option.some.inj hp
    subst hob
    exact ⟨C7.upd, _, rfl, rfl⟩
   have hp := iq ht18 hp
   refine zz 5 ?_
   refine zt 45 (p := (x4.ld.length : Int) > 200) (fun ht19 => ?_) (fun ht19 => ?_)
   ·
    have hp := ip ht19 hp
    refine zz 12 ?_
    refine zr' (v := .bool true) ?_
    have hob := Option.some.inj hp
    subst hob
    exact ⟨C7.upd, _, rfl, rfl⟩
   have hp := iq ht19 hp
   refine zz 7 ?_
   refine zs 11 (v := .int .i64 (IntKind.i64.wrap ((k4 : Int) + 1))) (v' := .int .i64 ((k4 : Int) + 1)) (vint (wi64 (wk0 k4) (wk1 ht5 hb4))) ?_
   refine zz 2 ?_
   refine znext (fun a h => H4 (k4 + 1) _ a h ⟨_, C7, (Le2 B4 B7), hp⟩ ?_)
   exact mu_lt ht5
  have hp := iq ht16 hp
  refine zz 9 ?_
  refine zt 42 (p := (x4.ln.length : Int) > 200) (fun ht20 => ?_) (fun ht20 => ?_)
  ·
   have hp := ip ht20 hp
   refine zz 17 ?_
   refine zr' (v := .bool true) ?_
   have hob := Option.some.inj hp
   subst hob
   exact ⟨C7.upd, _, rfl, rfl⟩
  have hp := iq ht20 hp
  refine zz 5 ?_
  refine zt 45 (p := (x4.ld.length : Int) > 200) (fun ht21 => ?_) (fun ht21 => ?_)
  ·
   have hp := ip ht21 hp
   refine zz 12 ?_
   refine zr' (v := .bool true) ?_
   have hob := Option.some.inj hp
   subst hob
   exact ⟨C7.upd, _, rfl, rfl⟩
  have hp := iq ht21 hp
  refine zz 7 ?_
  refine zs 11 (v := .int .i64 (IntKind.i64.wrap ((k4 : Int) + 1))) (v' := .int .i64 ((k4 : Int) + 1)) (vint (wi64 (wk0 k4) (wk1 ht5 hb4))) ?_
  refine zz 2 ?_
  refine znext (fun a h => H4 (k4 + 1) _ a h ⟨_, C7, (Le2 B4 B7), hp⟩ ?_)
  exact mu_lt ht5
 rw [List.drop_eq_nil_of_le (nlt_of_int ht5), clearwaylaw06_Long_l4] at hp
 refine zz 5 ?_
 exact znext (fun a h => H3 () _ a h ⟨_, C4, B4, hp⟩)
noncomputable def clearwaylaw24_Long_l18 (J11 : Option (Bool)) : List NoiseD → Option (Bool)
  | [] => J11
  | x18 :: r18 => (clearwaylaw06_Long_p ([x18.p])).bind fun y24 => if y24 = true then (some true) else (clearwaylaw24_Long_l18 J11 r18 )
noncomputable def clearwaylaw24_Long_l28 (J10 : Option (Bool)) : List NoiseD → Option (Bool)
  | [] => J10
  | x28 :: r28 => (clearwaylaw06_Long_p ([x28.p])).bind fun y34 => if y34 = true then (some true) else (clearwaylaw24_Long_l28 J10 r28 )
noncomputable def clearwaylaw24_Long_p (p0 : ModelD) : Option (Bool) :=
  if (p0.height.length : Int) > 40 then (some true) else (if (p0.own.length : Int) > 40 then (some true) else (if (p0.other.length : Int) > 40 then (some true) else (if (p0.advisories.length : Int) > 10 then (some true) else (if (p0.ownNoise.length : Int) > 8 then (some true) else (if (p0.otherNoise.length : Int) > 8 then (some true) else (lt (lt ((clearwaylaw06_Long_p ([p0.alert, p0.strengthen, p0.reversal])).bind fun y15 => some y15) fun J11 => clearwaylaw24_Long_l18 J11 (p0.otherNoise.drop 0) ) fun J10 => clearwaylaw24_Long_l28 J10 (p0.ownNoise.drop 0) ))))))
theorem clearwaylaw24_Long_c (w : World) (X : Hid) (hX : ∀ k o, X k o → k < w.heap.size) (p0 : ModelD) (vp0 : Value) (hp0 : ModelDV (rd w X) vp0 p0) (y : Bool) (hp : clearwaylaw24_Long_p p0 = some y) : Calls Tryz.prog 6 #[vp0] w (Ret E0 w fun _ v => v = .bool y) := by
 have hVp0 := hp0
 refine ModelDV.op hp0 fun p0a1 p0a2 p0a3 p0a4 p0a5 p0a6 p0a7 p0a8 p0a9 p0a10 p0a11 p0a12 p0a13 p0a14 p0a15 p0a16 p0a17 p0a18 p0a19 p0a20 p0a21 p0a22 p0a23 p0a24 hv9 p0a_h0 p0a_h1 p0a_h2 p0a_h3 p0a_h4 p0a_h5 p0a_h6 p0a_h7 p0a_h8 p0a_h9 p0a_h10 p0a_h11 => ?_
 subst hv9
 unfold clearwaylaw24_Long_p at hp
 refine zen Tryz.func6 ?_
 have C0 : St E0 w X w X [] := St.start hX
 refine zz 2 ?_
 refine zn pn (.cells #[.slice p0a1 p0.height.length p0a2, .slice p0a3 p0.own.length p0a4, .slice p0a5 p0.other.length p0a6, .slice p0a7 p0.advisories.length p0a8, .int .i64 p0.pull, .int .i64 p0.near, .int .i64 p0.steps, .slice p0a9 p0.ownNoise.length p0a10, .slice p0a11 p0.otherNoise.length p0a12, .bool p0.alert.neg, .slice p0a13 p0.alert.ln.length p0a14, .slice p0a15 p0.alert.ld.length p0a16, .bool p0.strengthen.neg, .slice p0a17 p0.strengthen.ln.length p0a18, .slice p0a19 p0.strengthen.ld.length p0a20, .bool p0.reversal.neg, .slice p0a21 p0.reversal.ln.length p0a22, .slice p0a23 p0.reversal.ld.length p0a24] 30 (0, 0)) C0 ?_
 intro b3 w3 Y3 C3 B3 hu3
 refine zz 7 ?_
 refine zo 0 C3 ?_
 refine zz 3 ?_
 refine zt 9 (p := (p0.height.length : Int) > 40) (fun ht4 => ?_) (fun ht4 => ?_)
 ·
  have hp := ip ht4 hp
  refine zz 39 ?_
  refine zr' (v := .bool true) ?_
  have hob := Option.some.inj hp
  subst hob
  exact ⟨C3.upd, _, rfl, rfl⟩
 have hp := iq ht4 hp
 refine zz 1 ?_
 refine zo 0 C3 ?_
 refine zz 4 ?_
 refine zt 15 (p := (p0.own.length : Int) > 40) (fun ht5 => ?_) (fun ht5 => ?_)
 ·
  have hp := ip ht5 hp
  refine zz 33 ?_
  refine zr' (v := .bool true) ?_
  have hob := Option.some.inj hp
  subst hob
  exact ⟨C3.upd, _, rfl, rfl⟩
 have hp := iq ht5 hp
 refine zz 1 ?_
 refine zo 0 C3 ?_
 refine zz 4 ?_
 refine zt 21 (p := (p0.other.length : Int) > 40) (fun ht6 => ?_) (fun ht6 => ?_)
 ·
  have hp := ip ht6 hp
  refine zz 27 ?_
  refine zr' (v := .bool true) ?_
  have hob := Option.some.inj hp
  subst hob
  exact ⟨C3.upd, _, rfl, rfl⟩
 have hp := iq ht6 hp
 refine zz 1 ?_
 refine zo 0 C3 ?_
 refine zz 4 ?_
 refine zt 27 (p := (p0.advisories.length : Int) > 10) (fun ht7 => ?_) (fun ht7 => ?_)
 ·
  have hp := ip ht7 hp
  refine zz 21 ?_
  refine zr' (v := .bool true) ?_
  have hob := Option.some.inj hp
  subst hob
  exact ⟨C3.upd, _, rfl, rfl⟩
 have hp := iq ht7 hp
 refine zz 1 ?_
 refine zo 0 C3 ?_
 refine zz 4 ?_
 refine zt 33 (p := (p0.ownNoise.length : Int) > 8) (fun ht8 => ?_) (fun ht8 => ?_)
 ·
  have hp := ip ht8 hp
  refine zz 15 ?_
  refine zr' (v := .bool true) ?_
  have hob := Option.some.inj hp
  subst hob
  exact ⟨C3.upd, _, rfl, rfl⟩
 have hp := iq ht8 hp
 refine zz 1 ?_
 refine zo 0 C3 ?_
 refine zz 5 ?_
 refine zt 38 (p := (p0.otherNoise.length : Int) > 8) (fun ht9 => ?_) (fun ht9 => ?_)
 ·
  have hp := ip ht9 hp
  refine zz 8 ?_
  refine zr' (v := .bool true) ?_
  have hob := Option.some.inj hp
  subst hob
  exact ⟨C3.upd, _, rfl, rfl⟩
 have hp := iq ht9 hp
 refine zz 3 ?_
 have hob := ltd0 hp
 obtain ⟨J10, hJ10, hp⟩ := hob
 refine zjoin (fun (_ : Unit) => [(1, .pointer (some ⟨b3, 0, none⟩))]) (fun (_ : Unit) w1 => ∃ Y1 : Hid, St E0 w X w1 Y1 [(b3, .cells #[.slice p0a1 p0.height.length p0a2, .slice p0a3 p0.own.length p0a4, .slice p0a5 p0.other.length p0a6, .slice p0a7 p0.advisories.length p0a8, .int .i64 p0.pull, .int .i64 p0.near, .int .i64 p0.steps, .slice p0a9 p0.ownNoise.length p0a10, .slice p0a11 p0.otherNoise.length p0a12, .bool p0.alert.neg, .slice p0a13 p0.alert.ln.length p0a14, .slice p0a15 p0.alert.ld.length p0a16, .bool p0.strengthen.neg, .slice p0a17 p0.strengthen.ln.length p0a18, .slice p0a19 p0.strengthen.ld.length p0a20, .bool p0.reversal.neg, .slice p0a21 p0.reversal.ln.length p0a22, .slice p0a23 p0.reversal.ld.length p0a24] 30 (0, 0))] ∧ Le (rd w3 Y3) (rd w1 Y1) ∧ J10 = some y) ?_ ?_
 ·
  rintro _ w10 ⟨Y10, C10, B10, hp⟩
  have hp := hJ10.symm.trans hp
  have hob := ltd0 hp
  obtain ⟨J11, hJ11, hp⟩ := hob
  refine zjoin (fun (_ : Unit) => [(1, .pointer (some ⟨b3, 0, none⟩))]) (fun (_ : Unit) w1 => ∃ Y1 : Hid, St E0 w X w1 Y1 [(b3, .cells #[.slice p0a1 p0.height.length p0a2, .slice p0a3 p0.own.length p0a4, .slice p0a5 p0.other.length p0a6, .slice p0a7 p0.advisories.length p0a8, .int .i64 p0.pull, .int .i64 p0.near, .int .i64 p0.steps, .slice p0a9 p0.ownNoise.length p0a10, .slice p0a11 p0.otherNoise.length p0a12, .bool p0.alert.neg, .slice p0a13 p0.alert.ln.length p0a14, .slice p0a15 p0.alert.ld.length p0a16, .bool p0.strengthen.neg, .slice p0a17 p0.strengthen.ln.length p0a18, .slice p0a19 p0.strengthen.ld.length p0a20, .bool p0.reversal.neg, .slice p0a21 p0.reversal.ln.length p0a22, .slice p0a23 p0.reversal.ld.length p0a24] 30 (0, 0))] ∧ Le (rd w10 Y10) (rd w1 Y1) ∧ J11 = some y) ?_ ?_
  ·
   rintro _ w11 ⟨Y11, C11, B11, hp⟩
   have hp := hJ11.symm.trans hp
   refine zz 3 ?_
   refine zo 0 C11 ?_
   refine zz 1 ?_
   refine zo 0 C11 ?_
   refine zz 1 ?_
   refine zo 0 C11 ?_
   refine zn (fun b => .slice (some ⟨b, 0, none⟩) 3 3) (.cells #[.bool p0.alert.neg, .slice p0a13 p0.alert.ln.length p0a14, .slice p0a15 p0.alert.ld.length p0a16, .bool p0.strengthen.neg, .slice p0a17 p0.strengthen.ln.length p0a18, .slice p0a19 p0.strengthen.ld.length p0a20, .bool p0.reversal.neg, .slice p0a21 p0.reversal.ln.length p0a22, .slice p0a23 p0.reversal.ld.length p0a24] 28 (0, 0)) C11 ?_
   intro b13 w13 Y13 C13 B13 hu13
   have hc1_ := (Le3 B3 B10 B11).trans B13
   refine bndk hp fun y15 hy15 hp => ?_
   refine zc C13 (clearwaylaw06_Long_c _ X0 (X0_lt _) ([p0.alert, p0.strengthen, p0.reversal]) _ ⟨_, _, rfl, (Rats.ofSl (SlR.lit (El := RatAt) (size := 3) (n := 3) [⟨p0.alert, [.bool p0.alert.neg, .slice p0a13 p0.alert.ln.length p0a14, .slice p0a15 p0.alert.ld.length p0a16]⟩, ⟨p0.strengthen, [.bool p0.strengthen.neg, .slice p0a17 p0.strengthen.ln.length p0a18, .slice p0a19 p0.strengthen.ld.length p0a20]⟩, ⟨p0.reversal, [.bool p0.reversal.neg, .slice p0a21 p0.reversal.ln.length p0a22, .slice p0a23 p0.reversal.ld.length p0a24]⟩] (C13.at0 0 rfl rfl) (List.forall_mem_cons.2 ⟨⟨rfl, fun r2 h2 b o h9 => ⟨_, _, _, _, _, _, h9, (((p0a_h6.mono hc1_).mono Le.x0).mono h2), (((p0a_h7.mono hc1_).mono Le.x0).mono h2)⟩⟩, (List.forall_mem_cons.2 ⟨⟨rfl, fun r2 h2 b o h9 => ⟨_, _, _, _, _, _, h9, (((p0a_h8.mono hc1_).mono Le.x0).mono h2), (((p0a_h9.mono hc1_).mono Le.x0).mono h2)⟩⟩, (List.forall_mem_cons.2 ⟨⟨rfl, fun r2 h2 b o h9 => ⟨_, _, _, _, _, _, h9, (((p0a_h10.mono hc1_).mono Le.x0).mono h2), (((p0a_h11.mono hc1_).mono Le.x0).mono h2)⟩⟩, (List.forall_mem_nil _)⟩)⟩)⟩) rfl (by decide)))⟩ y15 hy15) ?_ (vs := #[.slice (some ⟨b13, 0, none⟩) 3 3])
   rintro v16 w16 C16 B16 hu16 rfl
   refine zz 4 ?_
   refine zr' (v := .bool y15) ?_
   have hob := Option.some.inj hp
   subst hob
   exact ⟨C16.upd, _, rfl, rfl⟩
  intro K17 H17
  refine zz 6 ?_
  have hb18 : (p0.otherNoise.length : Int) ≤ 9223372036854775807 := lenb (p0a_h5).hcap (p0a_h5).hbig
  refine zlp Tryz.f6 [K17] [1, 1, 1, 9, 1, 0] (fun (k18 : Nat) => [(1, .pointer (some ⟨b3, 0, none⟩)), (4, .int .i64 (k18 : Int))]) (fun (k18 : Nat) w1 => ∃ Y1 : Hid, St E0 w X w1 Y1 [(b3, .cells #[.slice p0a1 p0.height.length p0a2, .slice p0a3 p0.own.length p0a4, .slice p0a5 p0.other.length p0a6, .slice p0a7 p0.advisories.length p0a8, .int .i64 p0.pull, .int .i64 p0.near, .int .i64 p0.steps, .slice p0a9 p0.ownNoise.length p0a10, .slice p0a11 p0.otherNoise.length p0a12, .bool p0.alert.neg, .slice p0a13 p0.alert.ln.length p0a14, .slice p0a15 p0.alert.ld.length p0a16, .bool p0.strengthen.neg, .slice p0a17 p0.strengthen.ln.length p0a18, .slice p0a19 p0.strengthen.ld.length p0a20, .bool p0.reversal.neg, .slice p0a21 p0.reversal.ln.length p0a22, .slice p0a23 p0.reversal.ld.length p0a24] 30 (0, 0))] ∧ Le (rd w10 Y10) (rd w1 Y1) ∧ clearwaylaw24_Long_l18 J11 (p0.otherNoise.drop k18)  = some y) (fun (k18 : Nat) => p0.otherNoise.length - k18) 0 ?_ ?_
  ·
   exact ⟨_, C10, Le.refl _, hp⟩
  rintro k18 w18 K18 H18 ⟨Y18, C18, B18, hp⟩
  refine zz 5 ?_
  refine zo 0 C18 ?_
  refine zz 4 ?_
  refine zt 58 (p := (k18 : Int) < (p0.otherNoise.length : Int)) (fun ht19 => ?_) (fun ht19 => ?_)
  ·
   have hob := get_lt (l := p0.otherNoise) (k := k18) (lt_of_int ht19)
   obtain ⟨x18, hqx18⟩ := hob
   rw [dropC hqx18, clearwaylaw24_Long_l18] at hp
   have hzx18 : (0 : Int) ≤ (k18 : Int) := Int.natCast_nonneg _
   refine zz 8 ?_
   refine zo 0 C18 ?_
   refine zz 1 ?_
   have hob := p0a_h5.opn hqx18
   obtain ⟨be20, oe20, rfl, B20, hEe20⟩ := hob
   obtain ⟨e201, e202, e203, e204, e20_at, e20_h0, e20_h1⟩ := hEe20
   refine zi (b := be20) (off := oe20) (len := p0.otherNoise.length) (cap := p0a12) (kd := .i64) (i := (k18 : Int)) 4 (oe20 + k18 * 4) ?_ (h0 := hzx18) (h1 := (ix_b hzx18 B20))
   refine zz 1 ?_
   refine zl ((e20_at.mono (Le3 B3 B10 B18)).sub 1 3).cells ?_
   refine zn (fun b => .slice (some ⟨b, 0, none⟩) 1 1) (.cells #[.bool x18.p.neg, .slice e201 x18.p.ln.length e202, .slice e203 x18.p.ld.length e204] 28 (0, 0)) C18 ?_
   intro b22 w22 Y22 C22 B22 hu22
   have hc2_ := (Le3 B3 B10 B18).trans B22
   refine bndk hp fun y24 hy24 hp => ?_
   refine zc C22 (clearwaylaw06_Long_c _ X0 (X0_lt _) ([x18.p]) _ ⟨_, _, rfl, (Rats.ofSl (SlR.lit (El := RatAt) (size := 3) (n := 1) [⟨x18.p, [.bool x18.p.neg, .slice e201 x18.p.ln.length e202, .slice e203 x18.p.ld.length e204]⟩] (C22.at0 0 rfl rfl) (List.forall_mem_cons.2 ⟨⟨rfl, fun r2 h2 b o h9 => ⟨_, _, _, _, _, _, h9, (((e20_h0.mono hc2_).mono Le.x0).mono h2), (((e20_h1.mono hc2_).mono Le.x0).mono h2)⟩⟩, (List.forall_mem_nil _)⟩) rfl (by decide)))⟩ y24 hy24) ?_ (vs := #[.slice (some ⟨b22, 0, none⟩) 1 1])
   rintro v25 w25 C25 B25 hu25 rfl
   refine zz 2 ?_
   refine zb 68 (b := y24) (fun hc26 => ?_) (fun hc26 => ?_)
   ·
    have hp := ipb hc26 hp
    refine zz 12 ?_
    refine zr' (v := .bool true) ?_
    have hob := Option.some.inj hp
    subst hob
    exact ⟨C25.upd, _, rfl, rfl⟩
   have hp := iqb hc26 hp
   refine zz 7 ?_
   refine zs 60 (v := .int .i64 (IntKind.i64.wrap ((k18 : Int) + 1))) (v' := .int .i64 ((k18 : Int) + 1)) (vint (wi64 (wk0 k18) (wk1 ht19 hb18))) ?_
   refine zz 2 ?_
   refine znext (fun a h => H18 (k18 + 1) _ a h ⟨_, C25.tail, (Le3 B18 B22 B25), hp⟩ ?_)
   exact mu_lt ht19
  rw [List.drop_eq_nil_of_le (nlt_of_int ht19), clearwaylaw24_Long_l18] at hp
  refine zz 5 ?_
  exact znext (fun a h => H17 () _ a h ⟨_, C18, B18, hp⟩)
 intro K27 H27
 refine zz 6 ?_
 have hb28 : (p0.ownNoise.length : Int) ≤ 9223372036854775807 := lenb (p0a_h4).hcap (p0a_h4).hbig
 refine zlp Tryz.f6 [K27] [1, 1, 9, 1, 0] (fun (k28 : Nat) => [(1, .pointer (some ⟨b3, 0, none⟩)), (3, .int .i64 (k28 : Int))]) (fun (k28 : Nat) w1 => ∃ Y1 : Hid, St E0 w X w1 Y1 [(b3, .cells #[.slice p0a1 p0.height.length p0a2, .slice p0a3 p0.own.length p0a4, .slice p0a5 p0.other.length p0a6, .slice p0a7 p0.advisories.length p0a8, .int .i64 p0.pull, .int .i64 p0.near, .int .i64 p0.steps, .slice p0a9 p0.ownNoise.length p0a10, .slice p0a11 p0.otherNoise.length p0a12, .bool p0.alert.neg, .slice p0a13 p0.alert.ln.length p0a14, .slice p0a15 p0.alert.ld.length p0a16, .bool p0.strengthen.neg, .slice p0a17 p0.strengthen.ln.length p0a18, .slice p0a19 p0.strengthen.ld.length p0a20, .bool p0.reversal.neg, .slice p0a21 p0.reversal.ln.length p0a22, .slice p0a23 p0.reversal.ld.length p0a24] 30 (0, 0))] ∧ Le (rd w3 Y3) (rd w1 Y1) ∧ clearwaylaw24_Long_l28 J10 (p0.ownNoise.drop k28)  = some y) (fun (k28 : Nat) => p0.ownNoise.length - k28) 0 ?_ ?_
 ·
  exact ⟨_, C3, Le.refl _, hp⟩
 rintro k28 w28 K28 H28 ⟨Y28, C28, B28, hp⟩
 refine zz 5 ?_
 refine zo 0 C28 ?_
 refine zz 4 ?_
 refine zt 43 (p := (k28 : Int) < (p0.ownNoise.length : Int)) (fun ht29 => ?_) (fun ht29 => ?_)
 ·
  have hob := get_lt (l := p0.ownNoise) (k := k28) (lt_of_int ht29)
  obtain ⟨x28, hqx28⟩ := hob
  rw [dropC hqx28, clearwaylaw24_Long_l28] at hp
  have hzx28 : (0 : Int) ≤ (k28 : Int) := Int.natCast_nonneg _
  refine zz 8 ?_
  refine zo 0 C28 ?_
  refine zz 1 ?_
  have hob := p0a_h4.opn hqx28
  obtain ⟨be30, oe30, rfl, B30, hEe30⟩ := hob
  obtain ⟨e301, e302, e303, e304, e30_at, e30_h0, e30_h1⟩ := hEe30
  refine zi (b := be30) (off := oe30) (len := p0.ownNoise.length) (cap := p0a10) (kd := .i64) (i := (k28 : Int)) 4 (oe30 + k28 * 4) ?_ (h0 := hzx28) (h1 := (ix_b hzx28 B30))
  refine zz 1 ?_
  refine zl ((e30_at.mono (Le2 B3 B28)).sub 1 3).cells ?_
  refine zn (fun b => .slice (some ⟨b, 0, none⟩) 1 1) (.cells #[.bool x28.p.neg, .slice e301 x28.p.ln.length e302, .slice e303 x28.p.ld.length e304] 28 (0, 0)) C28 ?_
  intro b32 w32 Y32 C32 B32 hu32
  refine bndk hp fun y34 hy34 hp => ?_
  refine zc C32 (clearwaylaw06_Long_c _ X0 (X0_lt _) ([x28.p]) _ ⟨_, _, rfl, (Rats.ofSl (SlR.lit (El := RatAt) (size := 3) (n := 1) [⟨x28.p, [.bool x28.p.neg, .slice e301 x28.p.ln.length e302, .slice e303 x28.p.ld.length e304]⟩] (C32.at0 0 rfl rfl) (List.forall_mem_cons.2 ⟨⟨rfl, fun r2 h2 b o h9 => ⟨_, _, _, _, _, _, h9, (((e30_h0.mono (Le3 B3 B28 B32)).mono Le.x0).mono h2), (((e30_h1.mono (Le3 B3 B28 B32)).mono Le.x0).mono h2)⟩⟩, (List.forall_mem_nil _)⟩) rfl (by decide)))⟩ y34 hy34) ?_ (vs := #[.slice (some ⟨b32, 0, none⟩) 1 1])
  rintro v35 w35 C35 B35 hu35 rfl
  refine zz 2 ?_
  refine zb 53 (b := y34) (fun hc36 => ?_) (fun hc36 => ?_)
  ·
   have hp := ipb hc36 hp
   refine zz 12 ?_
   refine zr' (v := .bool true) ?_
   have hob := Option.some.inj hp
   subst hob
   exact ⟨C35.upd, _, rfl, rfl⟩
  have hp := iqb hc36 hp
  refine zz 7 ?_
  refine zs 45 (v := .int .i64 (IntKind.i64.wrap ((k28 : Int) + 1))) (v' := .int .i64 ((k28 : Int) + 1)) (vint (wi64 (wk0 k28) (wk1 ht29 hb28))) ?_
  refine zz 2 ?_
  refine znext (fun a h => H28 (k28 + 1) _ a h ⟨_, C35.tail, (Le3 B28 B32 B35), hp⟩ ?_)
  exact mu_lt ht29
 rw [List.drop_eq_nil_of_le (nlt_of_int ht29), clearwaylaw24_Long_l28] at hp
 refine zz 5 ?_
 exact znext (fun a h => H27 () _ a h ⟨_, C28, B28, hp⟩)
noncomputable def clearwaylaw24_small_p : Option (ModelD) :=
  (rat_From_p (1 : Int)).bind fun y5 => (clearwaylaw24_of_p (1 : Int) (10 : Int)).bind fun y18 => some (ModelD.mk ([(-100), 0, 100]) ([0, 10]) ([0]) ([(BoundsD.mk 0 0 0), (BoundsD.mk 1 10 20)]) 5 50 0 ([(NoiseD.mk 0 y5)]) ([(NoiseD.mk 0 y5)]) y18 Raw.zero Raw.zero)
theorem clearwaylaw24_small_c (w : World) (X : Hid) (hX : ∀ k o, X k o → k < w.heap.size)  (y : ModelD) (hp : clearwaylaw24_small_p = some y) : Calls Tryz.prog 41 #[] w (Ret E0 w fun w' v => ModelDV (rd w' (old w)) v y) := by
 unfold clearwaylaw24_small_p at hp
 refine zen Tryz.func41 ?_
 have C0 : St E0 w X w X [] := St.start hX
 refine zz 2 ?_
 refine zn pn (.cells #[.slice none 0 0, .slice none 0 0, .slice none 0 0, .slice none 0 0, .int .i64 0, .int .i64 0, .int .i64 0, .slice none 0 0, .slice none 0 0, .bool false, .slice none 0 0, .slice none 0 0, .bool false, .slice none 0 0, .slice none 0 0, .bool false, .slice none 0 0, .slice none 0 0] 30 (0, 0)) C0 ?_
 intro b3 w3 Y3 C3 B3 hu3
 refine zz 4 ?_
 refine bndk hp fun y5 hy5 hp => ?_
 refine zc C3 (rat_From_c _ X0 (X0_lt _) (1 : Int) y5 hy5) ?_
 rintro v6 w6 C6 B6 hu6 ⟨u6_0_1, u6_0_2, u6_0_3, u6_0_4, u6_0_5, u6_0_6, rfl, u6_0__h0, u6_0__h1⟩
 have hob := u6_0__h0.hlen
 subst hob
 have hob := u6_0__h1.hlen
 subst hob
 refine zz 1 ?_
 refine zn (fun b => .slice (some ⟨b, 0, none⟩) 1 1) (.cells #[.int .i64 0, .bool y5.neg, .slice u6_0_1 y5.ln.length u6_0_3, .slice u6_0_4 y5.ld.length u6_0_6] 76 (0, 0)) C6 ?_
 intro b8 w8 Y8 C8 B8 hu8
 refine zz 5 ?_
 refine zn (fun b => .slice (some ⟨b, 0, none⟩) 3 3) (.cells #[.int .i64 (-100), .int .i64 0, .int .i64 100] 3 (0, 0)) C8 ?_
 intro b10 w10 Y10 C10 B10 hu10
 refine zn (fun b => .slice (some ⟨b, 0, none⟩) 2 2) (.cells #[.int .i64 0, .int .i64 10] 3 (0, 0)) C10 ?_
 intro b12 w12 Y12 C12 B12 hu12
 refine zn (fun b => .slice (some ⟨b, 0, none⟩) 1 1) (.cells #[.int .i64 0] 3 (0, 0)) C12 ?_
 intro b14 w14 Y14 C14 B14 hu14
 refine zz 2 ?_
 refine zn (fun b => .slice (some ⟨b, 0, none⟩) 2 2) (.cells #[.int .u8 0, .int .i64 0, .int .i64 0, .int .u8 1, .int .i64 10, .int .i64 20] 96 (0, 0)) C14 ?_
 intro b16 w16 Y16 C16 B16 hu16
 refine zz 2 ?_
 refine bndk hp fun y18 hy18 hp => ?_
 refine zc C16 (clearwaylaw24_of_c _ X0 (X0_lt _) (1 : Int) (10 : Int) y18 hy18) ?_
 rintro v19 w19 C19 B19 hu19 ⟨u19_0_1, u19_0_2, u19_0_3, u19_0_4, u19_0_5, u19_0_6, rfl, u19_0__h0, u19_0__h1⟩
 have hob := u19_0__h0.hlen
 subst hob
 have hob := u19_0__h1.hlen
 subst hob
 refine zz 1 ?_
 refine zx 5 #[.slice (some ⟨b10, 0, none⟩) 3 3, .slice (some ⟨b12, 0, none⟩) 2 2, .slice (some ⟨b14, 0, none⟩) 1 1, .slice (some ⟨b16, 0, none⟩) 2 2, .int .i64 5, .int .i64 50, .int .i64 0, .slice (some ⟨b8, 0, none⟩) 1 1, .slice (some ⟨b8, 0, none⟩) 1 1, .bool y18.neg, .slice u19_0_1 y18.ln.length u19_0_3, .slice u19_0_4 y18.ld.length u19_0_6, .bool false, .slice none 0 0, .slice none 0 0, .bool false, .slice none 0 0, .slice none 0 0] C19 ?_
 intro w20 C20 B20
 refine zz 3 ?_
 refine zrS [.cell 0 30] (v := .agg #[.slice (some ⟨b10, 0, none⟩) 3 3, .slice (some ⟨b12, 0, none⟩) 2 2, .slice (some ⟨b14, 0, none⟩) 1 1, .slice (some ⟨b16, 0, none⟩) 2 2, .int .i64 5, .int .i64 50, .int .i64 0, .slice (some ⟨b8, 0, none⟩) 1 1, .slice (some ⟨b8, 0, none⟩) 1 1, .bool y18.neg, .slice u19_0_1 y18.ln.length u19_0_3, .slice u19_0_4 y18.ld.length u19_0_6, .bool false, .slice none 0 0, .slice none 0 0, .bool false, .slice none 0 0, .slice none 0 0]) (Res.cM C20 5 Res.nil) ?_
 have hob := St.pubAt 3 C20 rfl
 obtain ⟨Y21, hSx21, B21, hat21, hatN21⟩ := hob
 have C21 : St E0 w X w20 Y21 [(b16, .cells #[.int .u8 0, .int .i64 0, .int .i64 0, .int .u8 1, .int .i64 10, .int .i64 20] 96 (0, 0)), (b14, .cells #[.int .i64 0] 3 (0, 0)), (b12, .cells #[.int .i64 0, .int .i64 10] 3 (0, 0)), (b8, .cells #[.int .i64 0, .bool y5.neg, .slice u6_0_1 y5.ln.length u6_0_3, .slice u6_0_4 y5.ld.length u6_0_6] 76 (0, 0)), (b3, .cells #[.slice (some ⟨b10, 0, none⟩) 3 3, .slice (some ⟨b12, 0, none⟩) 2 2, .slice (some ⟨b14, 0, none⟩) 1 1, .slice (some ⟨b16, 0, none⟩) 2 2, .int .i64 5, .int .i64 50, .int .i64 0, .slice (some ⟨b8, 0, none⟩) 1 1, .slice (some ⟨b8, 0, none⟩) 1 1, .bool y18.neg, .slice u19_0_1 y18.ln.length u19_0_3, .slice u19_0_4 y18.ld.length u19_0_6, .bool false, .slice none 0 0, .slice none 0 0, .bool false, .slice none 0 0, .slice none 0 0] 30 (0, 0))] := hSx21
 have hR21 : Ints (rd w20 (orN Y21 w.heap.size)) (some ⟨b10, 0, none⟩) 3 3 [(-100), 0, 100] := (SlR.lit (El := IntAt) (size := 1) (n := 3) [⟨((-100) : Int), [.int .i64 (-100)]⟩, ⟨(0 : Int), [.int .i64 0]⟩, ⟨(100 : Int), [.int .i64 100]⟩] (hatN21 _ (Nat.le_refl _)) (List.forall_mem_cons.2 ⟨⟨rfl, fun r2 h2 b o h9 => h9⟩, (List.forall_mem_cons.2 ⟨⟨rfl, fun r2 h2 b o h9 => h9⟩, (List.forall_mem_cons.2 ⟨⟨rfl, fun r2 h2 b o h9 => h9⟩, (List.forall_mem_nil _)⟩)⟩)⟩) rfl (by decide))
 have hob := St.pubAt 2 C21 rfl
 obtain ⟨Y22, hSx22, B22, hat22, hatN22⟩ := hob
 have C22 : St E0 w X w20 Y22 [(b16, .cells #[.int .u8 0, .int .i64 0, .int .i64 0, .int .u8 1, .int .i64 10, .int .i64 20] 96 (0, 0)), (b14, .cells #[.int .i64 0] 3 (0, 0)), (b8, .cells #[.int .i64 0, .bool y5.neg, .slice u6_0_1 y5.ln.length u6_0_3, .slice u6_0_4 y5.ld.length u6_0_6] 76 (0, 0)), (b3, .cells #[.slice (some ⟨b10, 0, none⟩) 3 3, .slice (some ⟨b12, 0, none⟩) 2 2, .slice (some ⟨b14, 0, none⟩) 1 1, .slice (some ⟨b16, 0, none⟩) 2 2, .int .i64 5, .int .i64 50, .int .i64 0, .slice (some ⟨b8, 0, none⟩) 1 1, .slice (some ⟨b8, 0, none⟩) 1 1, .bool y18.neg, .slice u19_0_1 y18.ln.length u19_0_3, .slice u19_0_4 y18.ld.length u19_0_6, .bool false, .slice none 0 0, .slice none 0 0, .bool false, .slice none 0 0, .slice none 0 0] 30 (0, 0))] := hSx22
 have hR22 : Ints (rd w20 (orN Y22 w.heap.size)) (some ⟨b12, 0, none⟩) 2 2 [0, 10] := (SlR.lit (El := IntAt) (size := 1) (n := 2) [⟨(0 : Int), [.int .i64 0]⟩, ⟨(10 : Int), [.int .i64 10]⟩] (hatN22 _ (Nat.le_refl _)) (List.forall_mem_cons.2 ⟨⟨rfl, fun r2 h2 b o h9 => h9⟩, (List.forall_mem_cons.2 ⟨⟨rfl, fun r2 h2 b o h9 => h9⟩, (List.forall_mem_nil _)⟩)⟩) rfl (by decide))
 have hob := St.pubAt 1 C22 rfl
 obtain ⟨Y23, hSx23, B23, hat23, hatN23⟩ := hob
 have C23 : St E0 w X w20 Y23 [(b16, .cells #[.int .u8 0, .int .i64 0, .int .i64 0, .int .u8 1, .int .i64 10, .int .i64 20] 96 (0, 0)), (b8, .cells #[.int .i64 0, .bool y5.neg, .slice u6_0_1 y5.ln.length u6_0_3, .slice u6_0_4 y5.ld.length u6_0_6] 76 (0, 0)), (b3, .cells #[.slice (some ⟨b10, 0, none⟩) 3 3, .slice (some ⟨b12, 0, none⟩) 2 2, .slice (some ⟨b14, 0, none⟩) 1 1, .slice (some ⟨b16, 0, none⟩) 2 2, .int .i64 5, .int .i64 50, .int .i64 0, .slice (some ⟨b8, 0, none⟩) 1 1, .slice (some ⟨b8, 0, none⟩) 1 1, .bool y18.neg, .slice u19_0_1 y18.ln.length u19_0_3, .slice u19_0_4 y18.ld.length u19_0_6, .bool false, .slice none 0 0, .slice none 0 0, .bool false, .slice none 0 0, .slice none 0 0] 30 (0, 0))] := hSx23
 have hR23 : Ints (rd w20 (orN Y23 w.heap.size)) (some ⟨b14, 0, none⟩) 1 1 [0] := (SlR.lit (El := IntAt) (size := 1) (n := 1) [⟨(0 : Int), [.int .i64 0]⟩] (hatN23 _ (Nat.le_refl _)) (List.forall_mem_cons.2 ⟨⟨rfl, fun r2 h2 b o h9 => h9⟩, (List.forall_mem_nil _)⟩) rfl (by decide))
 have hob := St.pubAt 0 C23 rfl
 obtain ⟨Y24, hSx24, B24, hat24, hatN24⟩ := hob
 have C24 : St E0 w X w20 Y24 [(b8, .cells #[.int .i64 0, .bool y5.neg, .slice u6_0_1 y5.ln.length u6_0_3, .slice u6_0_4 y5.ld.length u6_0_6] 76 (0, 0)), (b3, .cells #[.slice (some ⟨b10, 0, none⟩) 3 3, .slice (some ⟨b12, 0, none⟩) 2 2, .slice (some ⟨b14, 0, none⟩) 1 1, .slice (some ⟨b16, 0, none⟩) 2 2, .int .i64 5, .int .i64 50, .int .i64 0, .slice (some ⟨b8, 0, none⟩) 1 1, .slice (some ⟨b8, 0, none⟩) 1 1, .bool y18.neg, .slice u19_0_1 y18.ln.length u19_0_3, .slice u19_0_4 y18.ld.length u19_0_6, .bool false, .slice none 0 0, .slice none 0 0, .bool false, .slice none 0 0, .slice none 0 0] 30 (0, 0))] := hSx24
 have hR24 : BoundsDS (rd w20 (orN Y24 w.heap.size)) (some ⟨b16, 0, none⟩) 2 2 [(BoundsD.mk 0 0 0), (BoundsD.mk 1 10 20)] := (SlR.lit (El := BoundsDAt) (size := 3) (n := 2) [⟨(BoundsD.mk 0 0 0), [.int .u8 0, .int .i64 0, .int .i64 0]⟩, ⟨(BoundsD.mk 1 10 20), [.int .u8 1, .int .i64 10, .int .i64 20]⟩] (hatN24 _ (Nat.le_refl _)) (List.forall_mem_cons.2 ⟨⟨rfl, fun r2 h2 b o h9 => h9⟩, (List.forall_mem_cons.2 ⟨⟨rfl, fun r2 h2 b o h9 => h9⟩, (List.forall_mem_nil _)⟩)⟩) rfl (by decide))
 have hob := St.pubAt 0 C24 rfl
 obtain ⟨Y25, hSx25, B25, hat25, hatN25⟩ := hob
 have C25 : St E0 w X w20 Y25 [(b3, .cells #[.slice (some ⟨b10, 0, none⟩) 3 3, .slice (some ⟨b12, 0, none⟩) 2 2, .slice (some ⟨b14, 0, none⟩) 1 1, .slice (some ⟨b16, 0, none⟩) 2 2, .int .i64 5, .int .i64 50, .int .i64 0, .slice (some ⟨b8, 0, none⟩) 1 1, .slice (some ⟨b8, 0, none⟩) 1 1, .bool y18.neg, .slice u19_0_1 y18.ln.length u19_0_3, .slice u19_0_4 y18.ld.length u19_0_6, .bool false, .slice none 0 0, .slice none 0 0, .bool false, .slice none 0 0, .slice none 0 0] 30 (0, 0))] := hSx25
 have hc1_ := (Le11 B8 B10 B12 B14 B16 B19 B20 B21 B22 B23 B24).trans B25
 have hR25 : NoiseDS (rd w20 (orN Y25 w.heap.size)) (some ⟨b8, 0, none⟩) 1 1 [(NoiseD.mk 0 y5)] := (SlR.lit (El := NoiseDAt) (size := 4) (n := 1) [⟨(NoiseD.mk 0 y5), [.int .i64 0, .bool y5.neg, .slice u6_0_1 y5.ln.length u6_0_3, .slice u6_0_4 y5.ld.length u6_0_6]⟩] (hatN25 _ (Nat.le_refl _)) (List.forall_mem_cons.2 ⟨⟨rfl, fun r2 h2 b o h9 => ⟨_, _, _, _, h9, ((u6_0__h0.mono (Le.own C3.lt C3.upd.size hc1_)).mono h2), ((u6_0__h1.mono (Le.own C3.lt C3.upd.size hc1_)).mono h2)⟩⟩, (List.forall_mem_nil _)⟩) rfl (by decide))
 have hob := Option.some.inj hp
 subst hob
 have hc2_ := (Le3 B22 B23 B24).trans B25
 have hc3_ := (Le5 B20 B21 B22 B23 B24).trans B25
 exact ⟨C25.upd, _, rfl, ⟨_, _, _, _, _, _, _, _, _, _, _, _, _, _, _, _, _, _, _, _, _, _, _, _, rfl, ((hR21.mono (Le.or hc2_ _))).mono Le.orr, ((hR22.mono (Le.or (Le3 B23 B24 B25) _))).mono Le.orr, ((hR23.mono (Le.or (Le2 B24 B25) _))).mono Le.orr, ((hR24.mono (Le.or B25 _))).mono Le.orr, ((hR25.mono (Le.or (Le.refl _) _))).mono Le.orr, ((hR25.mono (Le.or (Le.refl _) _))).mono Le.orr, ((u19_0__h0.mono (Le.own C16.lt C16.upd.size hc3_))).mono Le.orr, ((u19_0__h1.mono (Le.own C16.lt C16.upd.size hc3_))).mono Le.orr, Limbs.nil0, Limbs.nil0, Limbs.nil0, Limbs.nil0⟩⟩
end Go.Proofs.YtjnbipmlmafahaaGreat
namespace Go.Proofs.YtjnbipmlmafahaaGreat
open Go Go.Gv Go.RowKit
set_option maxRecDepth 100000
set_option maxHeartbeats 1000000
noncomputable def interp_shares_l13 (p0 : List Int) (p1 : Int) (x4 : Int) (x6 : Int) (J9 : (List ShareD) → Option ((List ShareD))) : List Int → Nat → Option ((List ShareD))
  | [], k13 => J9 ([] : List ShareD)
  | x13 :: r13, k13 => (some ((if (if (x6) < p1 then x6 else p1) > x4 then if (x6) < p1 then x6 else p1 else x4) == x13)).bind fun z16 => if z16 = true then ((rat_Of_p (1 : Int) (1 : Int)).bind fun y20 => grd ((([] : List ShareD).length + 1) * 64 ≤ 140737488355328) <| J9 (([] : List ShareD) ++ [(ShareD.mk (k13 : Int) y20.1)])) else ((some (decide ((if (if (x6) < p1 then x6 else p1) > x4 then if (x6) < p1 then x6 else p1 else x4) < x13))).bind fun z34 => if z34 = true then ((ix p0 (IntKind.i64.wrap ((k13 : Int) - 1))).bind fun x36 => (some (IntKind.i64.wrap ((x13) - (if (if (x6) < p1 then x6 else p1) > x4 then if (x6) < p1 then x6 else p1 else x4)))).bind fun z38 => (rat_Of_p (z38) (IntKind.i64.wrap ((x13) - x36))).bind fun y41 => grd ((([] : List ShareD).length + 1) * 64 ≤ 140737488355328) <| (some (IntKind.i64.wrap ((if (if (x6) < p1 then x6 else p1) > x4 then if (x6) < p1 then x6 else p1 else x4) - x36))).bind fun z55 => (rat_Of_p (z55) (IntKind.i64.wrap ((x13) - x36))).bind fun y58 => grd (((([] : List ShareD) ++ [(ShareD.mk (IntKind.i64.wrap ((k13 : Int) - 1)) y41.1)]).length + 1) * 64 ≤ 140737488355328) <| J9 ((([] : List ShareD) ++ [(ShareD.mk (IntKind.i64.wrap ((k13 : Int) - 1)) y41.1)]) ++ [(ShareD.mk (k13 : Int) y58.1)])) else (interp_shares_l13 p0 p1 x4 x6 J9 r13 (k13 + 1)))
noncomputable def interp_shares_p (p0 : List Int) (p1 : Int) : Option ((List ShareD)) :=
  (ix p0 (0 : Int)).bind fun x4 => (ix p0 (IntKind.i64.wrap ((p0.length : Int) - 1))).bind fun x6 => lt (fun (v9_0 : List ShareD) => some v9_0) fun J9 => interp_shares_l13 p0 p1 x4 x6 J9 (p0.drop 0) 0
theorem interp_shares_c (w : World) (X : Hid) (hX : ∀ k o, X k o → k < w.heap.size) (p0 : List Int) (vp0 : Value) (hp0 : SV Ints (rd w X) vp0 p0) (p1 : Int) (y : (List ShareD)) (hp : interp_shares_p p0 p1 = some y) : Calls Tryz.prog 133 #[vp0, .int .i64 p1] w (Ret E0 w fun w' v => SV ShareDS (rd w' (old w)) v y) := by
 obtain ⟨p0a1, p0a2, rfl, p0a_h0⟩ := hp0
 unfold interp_shares_p at hp
 refine zen Tryz.func133 ?_
 have C0 : St E0 w X w X [] := St.start hX
 refine zz 2 ?_
 refine zn pn (.cells #[.slice none 0 0] 173 (0, 0)) C0 ?_
 intro b3 w3 Y3 C3 B3 hu3
 refine zz 4 ?_
 refine zdr C3 ?_
 refine bndk hp fun x4 hx4 hp => ?_
 have hob := ix_some hx4
 obtain ⟨hzx4, hqx4⟩ := hob
 have hwx4 : p0[0]? = some x4 := hqx4
 have hob := p0a_h0.opn hwx4
 obtain ⟨be5, oe5, rfl, B5, hEe5⟩ := hob
 have hAe5 : At (rd w X) ⟨be5, oe5 + 0 * 1, none⟩ [.int .i64 x4] := hEe5
 refine gz [0] ?_
 refine gi 1 (b := be5) (off := oe5) (len := p0.length) (cap := p0a2) (kd := .i64) (i := 0) 1 (oe5 + 0 * 1) ?_ (h0 := hzx4) (h1 := (ix_b hzx4 B5))
 refine gl 2 ((hAe5.mono B3)) ?_
 refine bndk hp fun x6 hx6 hp => ?_
 have hob := ix_some hx6
 obtain ⟨hzx6, hqx6⟩ := hob
 have hob := p0a_h0.opn2 hqx6
 obtain ⟨B7, hEe7⟩ := hob
 have hAe7 : At (rd w X) ⟨be5, oe5 + (IntKind.i64.wrap ((p0.length : Int) - 1)).toNat * 1, none⟩ [.int .i64 x6] := hEe7
 refine gz [3, 4, 5, 6, 7] ?_
 refine gi 8 (b := be5) (off := oe5) (len := p0.length) (cap := p0a2) (kd := .i64) (i := IntKind.i64.wrap ((p0.length : Int) - 1)) 1 (oe5 + (IntKind.i64.wrap ((p0.length : Int) - 1)).toNat * 1) ?_ (h0 := hzx6) (h1 := (ix_b hzx6 B7))
 refine gl 9 ((hAe7.mono B3)) ?_
 refine gz [10, 11, 12] ?_
 refine gend (fun w8 Y8 C8 B8 => ?_)
 refine zz 10 ?_
 have hob := ltd1 hp
 obtain ⟨J9, hJ9, hp⟩ := hob
 refine zjoin (fun ((v9_0, rb9_0, ad9_0, m9_0, cap9_0) : (List ShareD) × (List (Nat × Obj)) × (Option Addr) × Nat × Nat) => [(4, .pointer (some ⟨b3, 0, none⟩))]) (fun ((v9_0, rb9_0, ad9_0, m9_0, cap9_0) : (List ShareD) × (List (Nat × Obj)) × (Option Addr) × Nat × Nat) w1 => ∃ Y1 : Hid, St E0 w X w1 Y1 ((b3, .cells #[.slice ad9_0 m9_0 cap9_0] 173 (0, 0)) :: rb9_0) ∧ Le (rd w8 Y8) (rd w1 Y1) ∧ GRow ShareDCs 176 4 (rd w1 (orN Y1 w.heap.size)) rb9_0 ad9_0 m9_0 cap9_0 v9_0 ∧ J9 v9_0 = some y) ?_ ?_
 ·
  rintro ⟨v9_0, rb9_0, ad9_0, m9_0, cap9_0⟩ w9 ⟨Y9, C9, B9, hfv9_0_0, hp⟩
  have hp := (hJ9 _).symm.trans hp
  refine zz 2 ?_
  refine zo 0 C9 ?_
  refine zx 0 #[.slice ad9_0 m9_0 cap9_0] C9 ?_
  intro w10 C10 B10
  refine zz 4 ?_
  refine zrS [.cell 4 173] (v := .slice ad9_0 m9_0 cap9_0) (Res.cM C10 0 Res.nil) ?_
  have hob := St.pubGRN (A := [(b3, .cells #[.slice ad9_0 m9_0 cap9_0] 173 (0, 0))]) (B := []) (fun rb => ((b3, .cells #[.slice ad9_0 m9_0 cap9_0] 173 (0, 0)) :: rb)) C10 (fun _ => by simp only [List.append_assoc, List.cons_append, List.nil_append, List.append_nil]) (hfv9_0_0.mono (Le.or B10 _)) (Nat.le_refl _) ShareDCs.at
  obtain ⟨Y11, hSx11, B11, hRx11⟩ := hob
  have C11 : St E0 w X w10 Y11 [(b3, .cells #[.slice ad9_0 m9_0 cap9_0] 173 (0, 0))] := hSx11
  have hob := hRx11.hlen
  subst hob
  have hR11 : ShareDS (rd w10 (orN Y11 w.heap.size)) ad9_0 v9_0.length cap9_0 v9_0 := hRx11
  have hob := Option.some.inj hp
  subst hob
  exact ⟨C11.upd, _, rfl, ⟨_, _, rfl, ((hR11.mono (Le.or (Le.refl _) _))).mono Le.orr⟩⟩
 intro K12 H12
 refine zz 8 ?_
 have hb13 : (p0.length : Int) ≤ 9223372036854775807 := lenb (p0a_h0).hcap (p0a_h0).hbig
 refine zlp Tryz.f133 [K12] [1, 0, 1, 1, 1, 9, 1, 0] (fun (k13 : Nat) => [(0, .slice (some ⟨be5, oe5, none⟩) p0.length p0a2), (1, .int .i64 (if (if (x6) < p1 then x6 else p1) > x4 then if (x6) < p1 then x6 else p1 else x4)), (4, .pointer (some ⟨b3, 0, none⟩)), (5, .func (.func 161) #[] #[.pointer (some ⟨b3, 0, none⟩)]), (22, .slice (some ⟨be5, oe5, none⟩) p0.length p0a2), (23, .int .i64 (p0.length : Int)), (24, .int .i64 (k13 : Int))]) (fun (k13 : Nat) w1 => ∃ Y1 : Hid, St E0 w X w1 Y1 [(b3, .cells #[.slice none 0 0] 173 (0, 0))] ∧ Le (rd w8 Y8) (rd w1 Y1) ∧ interp_shares_l13 p0 p1 x4 x6 J9 (p0.drop k13) k13 = some y) (fun (k13 : Nat) => p0.length - k13) 0 ?_ ?_
 ·
  exact ⟨_, C8, Le.refl _, hp⟩
 rintro k13 w13 K13 H13 ⟨Y13, C13, B13, hp⟩
 refine zz 6 ?_
 refine zt 25 (p := (k13 : Int) < (p0.length : Int)) (fun ht14 => ?_) (fun ht14 => ?_)
 ·
  have hob := get_lt (l := p0) (k := k13) (lt_of_int ht14)
  obtain ⟨x13, hqx13⟩ := hob
  rw [dropC hqx13, interp_shares_l13] at hp
  have hzx13 : (0 : Int) ≤ (k13 : Int) := Int.natCast_nonneg _
  refine zz 8 ?_
  have hob := p0a_h0.opn2 hqx13
  obtain ⟨B15, hEe15⟩ := hob
  have hAe15 : At (rd w X) ⟨be5, oe5 + k13 * 1, none⟩ [.int .i64 x13] := hEe15
  refine zi (b := be5) (off := oe5) (len := p0.length) (cap := p0a2) (kd := .i64) (i := (k13 : Int)) 1 (oe5 + k13 * 1) ?_ (h0 := hzx13) (h1 := (ix_b hzx13 B15))
  refine zl ((hAe15.mono (Le3 B3 B8 B13))).cells ?_
  refine bndk hp fun z16 hz16 hp => ?_
  refine zz 10 ?_
  refine zs 32 (v := .bool ((if (if (x6) < p1 then x6 else p1) > x4 then if (x6) < p1 then x6 else p1 else x4) == x13)) (v' := .bool z16) (zJ (Option.some.inj hz16)) ?_
  refine zz 3 ?_
  refine zb 29 (b := z16) (fun hc17 => ?_) (fun hc17 => ?_)
  ·
   have hp := ipb hc17 hp
   refine zz 5 ?_
   refine zci (vs := #[.int .i64 (k13 : Int), .int .i64 1, .int .i64 1, .pointer (some ⟨b3, 0, none⟩)]) Tryz.func161 (fun R18 hR18 => ?_)
   refine zz 4 ?_
   refine bndk hp fun y20 hy20 hp => ?_
   refine zc C13 (rat_Of_c _ X0 (X0_lt _) (1 : Int) (1 : Int) y20 hy20) ?_
   rintro v21 w21 C21 B21 hu21 ⟨uu21_0, rfl, ⟨u21_0_1, u21_0_2, u21_0_3, u21_0_4, u21_0_5, u21_0_6, rfl, u21_0__h0, u21_0__h1⟩⟩
   have hob := u21_0__h0.hlen
   subst hob
   have hob := u21_0__h1.hlen
   subst hob
   refine zz 3 ?_
   refine zn pn (.cells #[.bool false, .slice none 0 0, .slice none 0 0] 28 (0, 0)) C21 ?_
   intro b23 w23 Y23 C23 B23 hu23
   refine zx 0 #[.bool y20.1.neg, .slice u21_0_1 y20.1.ln.length u21_0_3, .slice u21_0_4 y20.1.ld.length u21_0_6] C23 ?_
   intro w24 C24 B24
   refine zz 4 ?_
   refine zo 1 C24 ?_
   refine zz 1 ?_
   refine zo 0 C24 ?_
   refine zz 1 ?_
   refine zn (fun b => .slice (some ⟨b, 0, none⟩) 1 1) (.cells #[.int .i64 (k13 : Int), .bool y20.1.neg, .slice u21_0_1 y20.1.ln.length u21_0_3, .slice u21_0_4 y20.1.ld.length u21_0_6] 176 (0, 0)) C24 ?_
   intro b26 w26 Y26 C26 B26 hu26
   have hob := grdp hp
   obtain ⟨hg29, hp⟩ := hob
   have hob := (GRow.nil : GRow ShareDCs 176 4 (rd w26 (orN Y26 w.heap.size)) [] none 0 0 [])
   obtain ⟨es30, hr30, hq30, hk30, hm30⟩ := hob
   refine zop (at1 [] Tryz.f161 [1]) 5 (fun a27 _ G27 hz27 => op_appEZ (b := 64) (m := 1) (c := 1) (ad := ⟨b26, 0, none⟩) (news := [.int .i64 (k13 : Int), .bool y20.1.neg, .slice u21_0_1 y20.1.ln.length u21_0_3, .slice u21_0_4 y20.1.ld.length u21_0_6]) (i0 := Tryz.t176) (rb := []) (R1 := []) 3 G27 C26 rfl hr30 (C26.cells 0 rfl rfl) (app_b1 hg29 rfl rfl) (app_b2 hg29 rfl) ?_)
   intro rb31 ad31 cap31 w31 Y31 hrow31 C31 B31 a32 G32
   have hc1_ := (Le3 B23 B24 B26).trans B31
   have hg31 : GRow ShareDCs 176 4 (rd w31 (orN Y31 w.heap.size)) rb31 ad31 (0 + 1) cap31 (([] : List ShareD) ++ [(ShareD.mk (k13 : Int) y20.1)]) := GRow.snoc hrow31 hq30 hk30 hm30 (Le.or B31 _) ⟨rfl, fun r2 h2 => ⟨_, _, _, _, rfl, ((u21_0__h0.mono (Le.own C13.lt C13.upd.size hc1_)).mono h2), ((u21_0__h1.mono (Le.own C13.lt C13.upd.size hc1_)).mono h2)⟩⟩
   refine hz27 G32 ?_
   refine zx 2 #[.slice ad31 (0 + 1) cap31] C31 ?_
   intro w33 C33 B33
   refine zz 1 ?_
   refine zr' (v := .tuple #[]) ?_
   refine hR18 _ _ ?_
   refine zz 8 ?_
   have hc2_ := (Le6 B13 B21 B23 B24 B26 B31).trans B33
   exact znext (fun a h => H12 ((([] : List ShareD) ++ [(ShareD.mk (k13 : Int) y20.1)]), rb31, ad31, (0 + 1), cap31) _ a h ⟨_, C33.tail.tail, hc2_, (hg31.mono (Le.or B33 _)), hp⟩)
  have hp := iqb hc17 hp
  refine bndk hp fun z34 hz34 hp => ?_
  refine zz 6 ?_
  refine zs 39 (v := .bool (decide ((if (if (x6) < p1 then x6 else p1) > x4 then if (x6) < p1 then x6 else p1 else x4) < x13))) (v' := .bool z34) (zJ (Option.some.inj hz34)) ?_
  refine zz 3 ?_
  refine zb 36 (b := z34) (fun hc35 => ?_) (fun hc35 => ?_)
  ·
   have hp := ipb hc35 hp
   refine zz 6 ?_
   refine bndk hp fun x36 hx36 hp => ?_
   have hob := ix_some hx36
   obtain ⟨hzx36, hqx36⟩ := hob
   have hob := p0a_h0.opn2 hqx36
   obtain ⟨B37, hEe37⟩ := hob
   have hAe37 : At (rd w X) ⟨be5, oe5 + (IntKind.i64.wrap ((k13 : Int) - 1)).toNat * 1, none⟩ [.int .i64 x36] := hEe37
   refine zi (b := be5) (off := oe5) (len := p0.length) (cap := p0a2) (kd := .i64) (i := IntKind.i64.wrap ((k13 : Int) - 1)) 1 (oe5 + (IntKind.i64.wrap ((k13 : Int) - 1)).toNat * 1) ?_ (h0 := hzx36) (h1 := (ix_b hzx36 B37))
   refine zl ((hAe37.mono (Le3 B3 B8 B13))).cells ?_
   refine bndk hp fun z38 hz38 hp => ?_
   refine zz 11 ?_
   refine zs 50 (v := .int .i64 (IntKind.i64.wrap ((x13) - (if (if (x6) < p1 then x6 else p1) > x4 then if (x6) < p1 then x6 else p1 else x4)))) (v' := .int .i64 z38) (vint (Option.some.inj hz38)) ?_
   refine zz 3 ?_
   refine zci (vs := #[.int .i64 (IntKind.i64.wrap ((k13 : Int) - 1)), .int .i64 z38, .int .i64 (IntKind.i64.wrap ((x13) - x36)), .pointer (some ⟨b3, 0, none⟩)]) Tryz.func161 (fun R39 hR39 => ?_)
   refine zz 4 ?_
   refine bndk hp fun y41 hy41 hp => ?_
   refine zc C13 (rat_Of_c _ X0 (X0_lt _) (z38) (IntKind.i64.wrap ((x13) - x36)) y41 hy41) ?_
   rintro v42 w42 C42 B42 hu42 ⟨uu42_0, rfl, ⟨u42_0_1, u42_0_2, u42_0_3, u42_0_4, u42_0_5, u42_0_6, rfl, u42_0__h0, u42_0__h1⟩⟩
   have hob := u42_0__h0.hlen
   subst hob
   have hob := u42_0__h1.hlen
   subst hob
   refine zz 3 ?_
   refine zn pn (.cells #[.bool false, .slice none 0 0, .slice none 0 0] 28 (0, 0)) C42 ?_
   intro b44 w44 Y44 C44 B44 hu44
   refine zx 0 #[.bool y41.1.neg, .slice u42_0_1 y41.1.ln.length u42_0_3, .slice u42_0_4 y41.1.ld.length u42_0_6] C44 ?_
   intro w45 C45 B45
   refine zz 4 ?_
   refine zo 1 C45 ?_
   refine zz 1 ?_
   refine zo 0 C45 ?_
   refine zz 1 ?_
   refine zn (fun b => .slice (some ⟨b, 0, none⟩) 1 1) (.cells #[.int .i64 (IntKind.i64.wrap ((k13 : Int) - 1)), .bool y41.1.neg, .slice u42_0_1 y41.1.ln.length u42_0_3, .slice u42_0_4 y41.1.ld.length u42_0_6] 176 (0, 0)) C45 ?_
   intro b47 w47 Y47 C47 B47 hu47
   have hob := grdp hp
   obtain ⟨hg50, hp⟩ := hob
   have hob := (GRow.nil : GRow ShareDCs 176 4 (rd w47 (orN Y47 w.heap.size)) [] none 0 0 [])
   obtain ⟨es51, hr51, hq51, hk51, hm51⟩ := hob
   refine zop (at1 [] Tryz.f161 [1]) 5 (fun a48 _ G48 hz48 => op_appEZ (b := 64) (m := 1) (c := 1) (ad := ⟨b47, 0, none⟩) (news := [.int .i64 (IntKind.i64.wrap ((k13 : Int) - 1)), .bool y41.1.neg, .slice u42_0_1 y41.1.ln.length u42_0_3, .slice u42_0_4 y41.1.ld.length u42_0_6]) (i0 := Tryz.t176) (rb := []) (R1 := []) 3 G48 C47 rfl hr51 (C47.cells 0 rfl rfl) (app_b1 hg50 rfl rfl) (app_b2 hg50 rfl) ?_)
   intro rb52 ad52 cap52 w52 Y52 hrow52 C52 B52 a53 G53
   have hc3_ := (Le3 B44 B45 B47).trans B52
   have hg52 : GRow ShareDCs 176 4 (rd w52 (orN Y52 w.heap.size)) rb52 ad52 (0 + 1) cap52 (([] : List ShareD) ++ [(ShareD.mk (IntKind.i64.wrap ((k13 : Int) - 1)) y41.1)]) := GRow.snoc hrow52 hq51 hk51 hm51 (Le.or B52 _) ⟨rfl, fun r2 h2 => ⟨_, _, _, _, rfl, ((u42_0__h0.mono (Le.own C13.lt C13.upd.size hc3_)).mono h2), ((u42_0__h1.mono (Le.own C13.lt C13.upd.size hc3_)).mono h2)⟩⟩
   refine hz48 G53 ?_
   refine zx 2 #[.slice ad52 (0 + 1) cap52] C52 ?_
   intro w54 C54 B54
   refine zz 1 ?_
   refine zr' (v := .tuple #[]) ?_
   refine hR39 _ _ ?_
   refine bndk hp fun z55 hz55 hp => ?_
   refine zz 9 ?_
   refine zs 59 (v := .int .i64 (IntKind.i64.wrap ((if (if (x6) < p1 then x6 else p1) > x4 then if (x6) < p1 then x6 else p1 else x4) - x36))) (v' := .int .i64 z55) (vint (Option.some.inj hz55)) ?_
   refine zz 3 ?_
   refine zci (vs := #[.int .i64 (k13 : Int), .int .i64 z55, .int .i64 (IntKind.i64.wrap ((x13) - x36)), .pointer (some ⟨b3, 0, none⟩)]) Tryz.func161 (fun R56 hR56 => ?_)
   refine zz 4 ?_
   refine bndk hp fun y58 hy58 hp => ?_
   refine zc C54 (rat_Of_c _ X0 (X0_lt _) (z55) (IntKind.i64.wrap ((x13) - x36)) y58 hy58) ?_
   rintro v59 w59 C59 B59 hu59 ⟨uu59_0, rfl, ⟨u59_0_1, u59_0_2, u59_0_3, u59_0_4, u59_0_5, u59_0_6, rfl, u59_0__h0, u59_0__h1⟩⟩
   have hob := u59_0__h0.hlen
   subst hob
   have hob := u59_0__h1.hlen
   subst hob
   refine zz 3 ?_
   refine zn pn (.cells #[.bool false, .slice none 0 0, .slice none 0 0] 28 (0, 0)) C59 ?_
   intro b61 w61 Y61 C61 B61 hu61
   refine zx 0 #[.bool y58.1.neg, .slice u59_0_1 y58.1.ln.length u59_0_3, .slice u59_0_4 y58.1.ld.length u59_0_6] C61 ?_
   intro w62 C62 B62
   refine zz 4 ?_
   refine zo 3 C62 ?_
   refine zz 1 ?_
   refine zo 0 C62 ?_
   refine zz 1 ?_
   refine zn (fun b => .slice (some ⟨b, 0, none⟩) 1 1) (.cells #[.int .i64 (k13 : Int), .bool y58.1.neg, .slice u59_0_1 y58.1.ln.length u59_0_3, .slice u59_0_4 y58.1.ld.length u59_0_6] 176 (0, 0)) C62 ?_
   intro b64 w64 Y64 C64 B64 hu64
   have hob := grdp hp
   obtain ⟨hg66, hp⟩ := hob
   have hln67 : (0 + 1) = (([] : List ShareD) ++ [(ShareD.mk (IntKind.i64.wrap ((k13 : Int) - 1)) y41.1)]).length := GRow.len hg52
   have hc4_ := (Le4 B54 B59 B61 B62).trans B64
   have hob := (hg52.mono (Le.or hc4_ _))
   obtain ⟨es67, hr67, hq67, hk67, hm67⟩ := hob
   refine zop (at1 [] Tryz.f161 [1]) 5 (fun a65 _ G65 hz65 => op_appEZ (b := 64) (m := 1) (c := 1) (ad := ⟨b64, 0, none⟩) (news := [.int .i64 (k13 : Int), .bool y58.1.neg, .slice u59_0_1 y58.1.ln.length u59_0_3, .slice u59_0_4 y58.1.ld.length u59_0_6]) (i0 := Tryz.t176) (rb := rb52) (R1 := []) 5 G65 C64 rfl hr67 (C64.cells 0 rfl rfl) (app_b1 hg66 hln67 rfl) (app_b2 hg66 hln67) ?_)
   intro rb68 ad68 cap68 w68 Y68 hrow68 C68 B68 a69 G69
   have hc5_ := (Le3 B61 B62 B64).trans B68
   have hg68 : GRow ShareDCs 176 4 (rd w68 (orN Y68 w.heap.size)) rb68 ad68 ((0 + 1) + 1) cap68 ((([] : List ShareD) ++ [(ShareD.mk (IntKind.i64.wrap ((k13 : Int) - 1)) y41.1)]) ++ [(ShareD.mk (k13 : Int) y58.1)]) := GRow.snoc hrow68 hq67 hk67 hm67 (Le.or B68 _) ⟨rfl, fun r2 h2 => ⟨_, _, _, _, rfl, ((u59_0__h0.mono (Le.own C54.lt C54.upd.size hc5_)).mono h2), ((u59_0__h1.mono (Le.own C54.lt C54.upd.size hc5_)).mono h2)⟩⟩
   refine hz65 G69 ?_
   refine zx 4 #[.slice ad68 ((0 + 1) + 1) cap68] C68 ?_
   intro w70 C70 B70
   refine zz 1 ?_
   refine zr' (v := .tuple #[]) ?_
   refine hR56 _ _ ?_
   refine zz 8 ?_
   have hc6_ := (Le12 B13 B42 B44 B45 B47 B52 B54 B59 B61 B62 B64 B68).trans B70
   exact znext (fun a h => H12 (((([] : List ShareD) ++ [(ShareD.mk (IntKind.i64.wrap ((k13 : Int) - 1)) y41.1)]) ++ [(ShareD.mk (k13 : Int) y58.1)]), rb68, ad68, ((0 + 1) + 1), cap68) _ a h ⟨_, C70.tail.tail.tail.tail, hc6_, (hg68.mono (Le.or B70 _)), hp⟩)
  have hp := iqb hc35 hp
  refine zz 7 ?_
  refine zs 64 (v := .int .i64 (IntKind.i64.wrap ((k13 : Int) + 1))) (v' := .int .i64 ((k13 : Int) + 1)) (vint (wi64 (wk0 k13) (wk1 ht14 hb13))) ?_
  refine zz 2 ?_
  refine znext (fun a h => H13 (k13 + 1) _ a h ⟨_, C13, B13, hp⟩ ?_)
  exact mu_lt ht14
 rw [List.drop_eq_nil_of_le (nlt_of_int ht14), interp_shares_l13] at hp
 refine zz 5 ?_
 exact znext (fun a h => H12 (([] : List ShareD), [], none, 0, 0) _ a h ⟨_, C13, B13, GRow.nil, hp⟩)
noncomputable def interp_Weights_l34 (x14 : List Int) (x21 : WeightD) (J23 : (List WeightD) → Option ((List WeightD) × Int)) : List ShareD → (List WeightD) → Option ((List WeightD) × Int)
  | [], v34_0 => J23 v34_0
  | x34 :: r34, v34_0 => (rat_Mul_p x21.w x34.w).bind fun y41 => grd ((v34_0.length + 1) * 64 ≤ 140737488355328) <| interp_Weights_l34 x14 x21 J23 r34 (v34_0 ++ [(WeightD.mk (IntKind.i64.wrap ((IntKind.i64.wrap ((x21.vertex) * (x14.length : Int))) + x34.index)) y41.1)])
noncomputable def interp_Weights_l21 (p1 : List Int) (k14 : Nat) (x14 : List Int) (J18 : (List WeightD) → Option ((List WeightD) × Int)) : List WeightD → (List WeightD) → Option ((List WeightD) × Int)
  | [], v21_0 => J18 v21_0
  | x21 :: r21, v21_0 => lt (fun (v23_0 : List WeightD) => interp_Weights_l21 p1 k14 x14 J18 r21 v23_0) fun J23 => (ix p1 (k14 : Int)).bind fun x29 => (interp_shares_p x14 (x29)).bind fun y32 => interp_Weights_l34 x14 x21 J23 (y32.drop 0) v21_0
noncomputable def interp_Weights_l14 (p1 : List Int) (J12 : (List WeightD) → Option ((List WeightD) × Int)) : List (List Int) → Nat → (List WeightD) → Option ((List WeightD) × Int)
  | [], k14, v14_0 => J12 v14_0
  | x14 :: r14, k14, v14_0 => lt (fun (v18_0 : List WeightD) => interp_Weights_l14 p1 J12 r14 (k14 + 1) v18_0) fun J18 => interp_Weights_l21 p1 k14 x14 J18 (v14_0.drop 0) ([] : List WeightD)
noncomputable def interp_Weights_p (p0 : List (List Int)) (p1 : List Int) : Option ((List WeightD) × Int) :=
  (interp_Check_p p0).bind fun y3 => if ((y3) != 0) = true then (some (([] : List WeightD), y3)) else (if ((p1.length : Int) != (p0.length : Int)) = true then (some (([] : List WeightD), 16)) else ((rat_From_p (1 : Int)).bind fun y8 => lt (fun (v12_0 : List WeightD) => some (v12_0, 0)) fun J12 => interp_Weights_l14 p1 J12 (p0.drop 0) 0 ([(WeightD.mk 0 y8)])))
theorem interp_Weights_c (w : World) (X : Hid) (hX : ∀ k o, X k o → k < w.heap.size) (p0 : List (List Int)) (vp0 : Value) (hp0 : SV IntsS (rd w X) vp0 p0) (p1 : List Int) (vp1 : Value) (hp1 : SV Ints (rd w X) vp1 p1) (y : (List WeightD) × Int) (hp : interp_Weights_p p0 p1 = some y) : Calls Tryz.prog 94 #[vp0, vp1] w (Ret E0 w fun w' v => ∃ uu0, v = .tuple #[uu0, .int .i64 y.2] ∧ SV WeightDS (rd w' (old w)) uu0 y.1) := by
 obtain ⟨p0a1, p0a2, rfl, p0a_h0⟩ := hp0
 obtain ⟨p1a1, p1a2, rfl, p1a_h0⟩ := hp1
 unfold interp_Weights_p at hp
 refine zen Tryz.func94 ?_
 have C0 : St E0 w X w X [] := St.start hX
 refine zz 10 ?_
 refine bndk hp fun y3 hy3 hp => ?_
 refine zc C0 (interp_Check_c _ X0 (X0_lt _) p0 _ ⟨_, _, rfl, (p0a_h0.mono Le.x0)⟩ y3 hy3) ?_
 rintro v4 w4 C4 B4 hu4 rfl
 refine zz 11 ?_
 refine zb 19 (b := ((y3) != 0)) (fun hc5 => ?_) (fun hc5 => ?_)
 ·
  have hp := ipb hc5 hp
  refine zz 11 ?_
  refine zr' (v := .tuple #[.slice none 0 0, .int .i64 y3]) ?_
  have hob := Option.some.inj hp
  subst hob
  exact ⟨C4.upd, _, rfl, ⟨_, rfl, ⟨_, _, rfl, (show WeightDS _ none 0 0 [] from SlR.nil none (by decide))⟩⟩⟩
 have hp := iqb hc5 hp
 refine zz 11 ?_
 refine zb 23 (b := ((p1.length : Int) != (p0.length : Int))) (fun hc6 => ?_) (fun hc6 => ?_)
 ·
  have hp := ipb hc6 hp
  refine zz 10 ?_
  refine zr' (v := .tuple #[.slice none 0 0, .int .i64 16]) ?_
  have hob := Option.some.inj hp
  subst hob
  exact ⟨C4.upd, _, rfl, ⟨_, rfl, ⟨_, _, rfl, (show WeightDS _ none 0 0 [] from SlR.nil none (by decide))⟩⟩⟩
 have hp := iqb hc6 hp
 refine zz 6 ?_
 refine bndk hp fun y8 hy8 hp => ?_
 refine zc C4 (rat_From_c _ X0 (X0_lt _) (1 : Int) y8 hy8) ?_
 rintro v9 w9 C9 B9 hu9 ⟨u9_0_1, u9_0_2, u9_0_3, u9_0_4, u9_0_5, u9_0_6, rfl, u9_0__h0, u9_0__h1⟩
 have hob := u9_0__h0.hlen
 subst hob
 have hob := u9_0__h1.hlen
 subst hob
 refine zz 1 ?_
 refine zn (fun b => .slice (some ⟨b, 0, none⟩) 1 1) (.cells #[.int .i64 0, .bool y8.neg, .slice u9_0_1 y8.ln.length u9_0_3, .slice u9_0_4 y8.ld.length u9_0_6] 124 (0, 0)) C9 ?_
 intro b11 w11 Y11 C11 B11 hu11
 refine zz 3 ?_
 have hob := ltd1 hp
 obtain ⟨J12, hJ12, hp⟩ := hob
 refine zjoin (fun ((v12_0, ad12_0, cap12_0) : (List WeightD) × (Option Addr) × Nat) => [(7, .slice ad12_0 v12_0.length cap12_0)]) (fun ((v12_0, ad12_0, cap12_0) : (List WeightD) × (Option Addr) × Nat) w1 => ∃ Y1 : Hid, St E0 w X w1 Y1 [] ∧ Le (rd w11 Y11) (rd w1 Y1) ∧ WeightDS (rd w1 (orN Y1 w.heap.size)) ad12_0 v12_0.length cap12_0 v12_0 ∧ J12 v12_0 = some y) ?_ ?_
 ·
  rintro ⟨v12_0, ad12_0, cap12_0⟩ w12 ⟨Y12, C12, B12, hfv12_0_0, hp⟩
  have hp := (hJ12 _).symm.trans hp
  refine zz 8 ?_
  refine zr' (v := .tuple #[.slice ad12_0 v12_0.length cap12_0, .int .i64 0]) ?_
  have hob := Option.some.inj hp
  subst hob
  exact ⟨C12.upd, _, rfl, ⟨_, rfl, ⟨_, _, rfl, ((hfv12_0_0.mono (Le.or (Le.refl _) _))).mono Le.orr⟩⟩⟩
 intro K13 H13
 refine zz 8 ?_
 have hob := St.pubAt 0 C11 rfl
 obtain ⟨Y15, hSx15, B15, hat15, hatN15⟩ := hob
 have C15 : St E0 w X w11 Y15 [] := hSx15
 have hR15 : WeightDS (rd w11 (orN Y15 w.heap.size)) (some ⟨b11, 0, none⟩) 1 1 [(WeightD.mk 0 y8)] := (SlR.lit (El := WeightDAt) (size := 4) (n := 1) [⟨(WeightD.mk 0 y8), [.int .i64 0, .bool y8.neg, .slice u9_0_1 y8.ln.length u9_0_3, .slice u9_0_4 y8.ld.length u9_0_6]⟩] (hatN15 _ (Nat.le_refl _)) (List.forall_mem_cons.2 ⟨⟨rfl, fun r2 h2 b o h9 => ⟨_, _, _, _, h9, ((u9_0__h0.mono (Le.own C4.lt C4.upd.size (Le2 B11 B15))).mono h2), ((u9_0__h1.mono (Le.own C4.lt C4.upd.size (Le2 B11 B15))).mono h2)⟩⟩, (List.forall_mem_nil _)⟩) rfl (by decide))
 have hb14 : (p0.length : Int) ≤ 9223372036854775807 := lenb (p0a_h0).hcap (p0a_h0).hbig
 refine zlp Tryz.f94 [K13] [1, 1, 1, 9, 1, 0] (fun ((v14_0, k14, ad14_0, cap14_0) : (List WeightD) × Nat × (Option Addr) × Nat) => [(1, .slice p1a1 p1.length p1a2), (7, .slice ad14_0 v14_0.length cap14_0), (32, .slice p0a1 p0.length p0a2), (33, .int .i64 (p0.length : Int)), (34, .int .i64 (k14 : Int))]) (fun ((v14_0, k14, ad14_0, cap14_0) : (List WeightD) × Nat × (Option Addr) × Nat) w1 => ∃ Y1 : Hid, St E0 w X w1 Y1 [] ∧ Le (rd w11 Y15) (rd w1 Y1) ∧ WeightDS (rd w1 (orN Y1 w.heap.size)) ad14_0 v14_0.length cap14_0 v14_0 ∧ interp_Weights_l14 p1 J12 (p0.drop k14) k14 v14_0 = some y) (fun ((v14_0, k14, ad14_0, cap14_0) : (List WeightD) × Nat × (Option Addr) × Nat) => p0.length - k14) ([(WeightD.mk 0 y8)], 0, (some ⟨b11, 0, none⟩), 1) ?_ ?_
 ·
  exact ⟨_, C15, Le.refl _, (hR15.mono (Le.or (Le.refl _) _)), hp⟩
 rintro ⟨v14_0, k14, ad14_0, cap14_0⟩ w14 K14 H14 ⟨Y14, C14, B14, hfv14_0_0, hp⟩
 refine zz 6 ?_
 refine zt 35 (p := (k14 : Int) < (p0.length : Int)) (fun ht16 => ?_) (fun ht16 => ?_)
 ·
  have hob := get_lt (l := p0) (k := k14) (lt_of_int ht16)
  obtain ⟨x14, hqx14⟩ := hob
  rw [dropC hqx14, interp_Weights_l14] at hp
  have hzx14 : (0 : Int) ≤ (k14 : Int) := Int.natCast_nonneg _
  refine zz 8 ?_
  have hob := p0a_h0.opn hqx14
  obtain ⟨be17, oe17, rfl, B17, hEe17⟩ := hob
  obtain ⟨e171, e172, e17_at, e17_h0⟩ := hEe17
  refine zi (b := be17) (off := oe17) (len := p0.length) (cap := p0a2) (kd := .i64) (i := (k14 : Int)) 1 (oe17 + k14 * 1) ?_ (h0 := hzx14) (h1 := (ix_b hzx14 B17))
  have hc1_ := (Le4 B4 B9 B11 B15).trans B14
  refine zl ((e17_at.mono hc1_)).cells ?_
  refine zz 9 ?_
  have hob := ltd1 hp
  obtain ⟨J18, hJ18, hp⟩ := hob
  refine zjoin (fun ((v18_0, rb18_0, ad18_0, m18_0, cap18_0) : (List WeightD) × (List (Nat × Obj)) × (Option Addr) × Nat × Nat) => [(10, .slice ad18_0 m18_0 cap18_0), (1, .slice p1a1 p1.length p1a2), (32, .slice (some ⟨be17, oe17, none⟩) p0.length p0a2), (33, .int .i64 (p0.length : Int)), (34, .int .i64 (k14 : Int))]) (fun ((v18_0, rb18_0, ad18_0, m18_0, cap18_0) : (List WeightD) × (List (Nat × Obj)) × (Option Addr) × Nat × Nat) w1 => ∃ Y1 : Hid, St E0 w X w1 Y1 (rb18_0) ∧ Le (rd w14 Y14) (rd w1 Y1) ∧ GRow WeightDCs 124 4 (rd w1 (orN Y1 w.heap.size)) rb18_0 ad18_0 m18_0 cap18_0 v18_0 ∧ J18 v18_0 = some y) ?_ ?_
  ·
   rintro ⟨v18_0, rb18_0, ad18_0, m18_0, cap18_0⟩ w18 ⟨Y18, C18, B18, hfv18_0_0, hp⟩
   have hp := (hJ18 _).symm.trans hp
   refine zz 8 ?_
   refine zs 80 (v := .int .i64 (IntKind.i64.wrap ((k14 : Int) + 1))) (v' := .int .i64 ((k14 : Int) + 1)) (vint (wi64 (wk0 k14) (wk1 ht16 hb14))) ?_
   refine zz 2 ?_
   have hob := St.pubGRN (A := []) (B := []) (fun rb => (rb)) C18 (fun _ => by simp only [List.append_assoc, List.cons_append, List.nil_append, List.append_nil]) hfv18_0_0 (Nat.le_refl _) WeightDCs.at
   obtain ⟨Y19, hSx19, B19, hRx19⟩ := hob
   have C19 : St E0 w X w18 Y19 [] := hSx19
   have hob := hRx19.hlen
   subst hob
   have hR19 : WeightDS (rd w18 (orN Y19 w.heap.size)) ad18_0 v18_0.length cap18_0 v18_0 := hRx19
   refine znext (fun a h => H14 (v18_0, k14 + 1, ad18_0, cap18_0) _ a h ⟨_, C19, (Le3 B14 B18 B19), (hR19.mono (Le.or (Le.refl _) _)), hp⟩ ?_)
   exact mu_lt ht16
  intro K20 H20
  refine zz 8 ?_
  have hb21 : (v14_0.length : Int) ≤ 9223372036854775807 := lenb ((hfv14_0_0.mono Le.orl)).hcap ((hfv14_0_0.mono Le.orl)).hbig
  refine zlp Tryz.f94 [K13, K14, K20] [1, 1, 1, 9, 1, 0, 0, 1, 1, 0, 0, 1, 1, 9, 1, 0] (fun ((v21_0, k21, rb21_0, ad21_0, m21_0, cap21_0) : (List WeightD) × Nat × (List (Nat × Obj)) × (Option Addr) × Nat × Nat) => [(1, .slice p1a1 p1.length p1a2), (8, .int .i64 (k14 : Int)), (9, .slice e171 x14.length e172), (10, .slice ad21_0 m21_0 cap21_0), (32, .slice (some ⟨be17, oe17, none⟩) p0.length p0a2), (33, .int .i64 (p0.length : Int)), (34, .int .i64 (k14 : Int)), (39, .slice ad14_0 v14_0.length cap14_0), (40, .int .i64 (v14_0.length : Int)), (41, .int .i64 (k21 : Int))]) (fun ((v21_0, k21, rb21_0, ad21_0, m21_0, cap21_0) : (List WeightD) × Nat × (List (Nat × Obj)) × (Option Addr) × Nat × Nat) w1 => ∃ Y1 : Hid, St E0 w X w1 Y1 (rb21_0) ∧ Le (rd w14 Y14) (rd w1 Y1) ∧ GRow WeightDCs 124 4 (rd w1 (orN Y1 w.heap.size)) rb21_0 ad21_0 m21_0 cap21_0 v21_0 ∧ interp_Weights_l21 p1 k14 x14 J18 (v14_0.drop k21)  v21_0 = some y) (fun ((v21_0, k21, rb21_0, ad21_0, m21_0, cap21_0) : (List WeightD) × Nat × (List (Nat × Obj)) × (Option Addr) × Nat × Nat) => v14_0.length - k21) (([] : List WeightD), 0, [], none, 0, 0) ?_ ?_
  ·
   exact ⟨_, C14, Le.refl _, GRow.nil, hp⟩
  rintro ⟨v21_0, k21, rb21_0, ad21_0, m21_0, cap21_0⟩ w21 K21 H21 ⟨Y21, C21, B21, hfv21_0_0, hp⟩
  refine zz 6 ?_
  refine zt 42 (p := (k21 : Int) < (v14_0.length : Int)) (fun ht22 => ?_) (fun ht22 => ?_)
  ·
   have hob := get_lt (l := v14_0) (k := k21) (lt_of_int ht22)
   obtain ⟨x21, hqx21⟩ := hob
   rw [dropC hqx21, interp_Weights_l21] at hp
   have hzx21 : (0 : Int) ≤ (k21 : Int) := Int.natCast_nonneg _
   refine zz 3 ?_
   have hob := ltd1 hp
   obtain ⟨J23, hJ23, hp⟩ := hob
   refine zjoin (fun ((v23_0, rb23_0, ad23_0, m23_0, cap23_0) : (List WeightD) × (List (Nat × Obj)) × (Option Addr) × Nat × Nat) => [(10, .slice ad23_0 m23_0 cap23_0), (1, .slice p1a1 p1.length p1a2), (8, .int .i64 (k14 : Int)), (9, .slice e171 x14.length e172), (32, .slice (some ⟨be17, oe17, none⟩) p0.length p0a2), (33, .int .i64 (p0.length : Int)), (34, .int .i64 (k14 : Int)), (39, .slice ad14_0 v14_0.length cap14_0), (40, .int .i64 (v14_0.length : Int)), (41, .int .i64 (k21 : Int))]) (fun ((v23_0, rb23_0, ad23_0, m23_0, cap23_0) : (List WeightD) × (List (Nat × Obj)) × (Option Addr) × Nat × Nat) w1 => ∃ Y1 : Hid, St E0 w X w1 Y1 (rb23_0) ∧ Le (rd w21 Y21) (rd w1 Y1) ∧ GRow WeightDCs 124 4 (rd w1 (orN Y1 w.heap.size)) rb23_0 ad23_0 m23_0 cap23_0 v23_0 ∧ J23 v23_0 = some y) ?_ ?_
   ·
    rintro ⟨v23_0, rb23_0, ad23_0, m23_0, cap23_0⟩ w23 ⟨Y23, C23, B23, hfv23_0_0, hp⟩
    have hp := (hJ23 _).symm.trans hp
    refine zz 2 ?_
    refine zs 78 (v := .int .i64 (IntKind.i64.wrap ((k21 : Int) + 1))) (v' := .int .i64 ((k21 : Int) + 1)) (vint (wi64 (wk0 k21) (wk1 ht22 hb21))) ?_
    refine zz 2 ?_
    refine znext (fun a h => H21 (v23_0, k21 + 1, rb23_0, ad23_0, m23_0, cap23_0) _ a h ⟨_, C23, (Le2 B21 B23), hfv23_0_0, hp⟩ ?_)
    exact mu_lt ht22
   intro K24 H24
   refine zz 3 ?_
   have hob := (hfv14_0_0.mono Le.orl).opn hqx21
   obtain ⟨be25, oe25, rfl, B25, hEe25⟩ := hob
   obtain ⟨e251, e252, e253, e254, e25_at, e25_h0, e25_h1⟩ := hEe25
   refine zi (b := be25) (off := oe25) (len := v14_0.length) (cap := cap14_0) (kd := .i64) (i := (k21 : Int)) 4 (oe25 + k21 * 4) ?_ (h0 := hzx21) (h1 := (ix_b hzx21 B25))
   refine zl ((e25_at.mono B21)).cells ?_
   refine zn pn (.cells #[.int .i64 0, .bool false, .slice none 0 0, .slice none 0 0] 124 (0, 0)) C21 ?_
   intro b27 w27 Y27 C27 B27 hu27
   refine zx 0 #[.int .i64 x21.vertex, .bool x21.w.neg, .slice e251 x21.w.ln.length e252, .slice e253 x21.w.ld.length e254] C27 ?_
   intro w28 C28 B28
   refine zz 7 ?_
   refine bndk hp fun x29 hx29 hp => ?_
   have hob := ix_some hx29
   obtain ⟨hzx29, hqx29⟩ := hob
   have hwx29 : p1[k14]? = some x29 := hqx29
   have hob := p1a_h0.opn hwx29
   obtain ⟨be30, oe30, rfl, B30, hEe30⟩ := hob
   have hAe30 : At (rd w X) ⟨be30, oe30 + k14 * 1, none⟩ [.int .i64 x29] := hEe30
   refine zi (b := be30) (off := oe30) (len := p1.length) (cap := p1a2) (kd := .i64) (i := (k14 : Int)) 1 (oe30 + k14 * 1) ?_ (h0 := hzx29) (h1 := (ix_b hzx29 B30))
   have hc2_ := ((hc1_.trans B21).trans B27).trans B28
   refine zl ((hAe30.mono hc2_)).cells ?_
   refine bndk hp fun y32 hy32 hp => ?_
   refine zc C28 (interp_shares_c _ X0 (X0_lt _) x14 _ ⟨_, _, rfl, ((e17_h0.mono hc2_).mono Le.x0)⟩ (x29) y32 hy32) ?_
   rintro v33 w33 C33 B33 hu33 ⟨u33_0_1, u33_0_2, rfl, u33_0__h0⟩
   refine zz 5 ?_
   have hb34 : (y32.length : Int) ≤ 9223372036854775807 := lenb ((u33_0__h0.mono (Le.new C28.lt))).hcap ((u33_0__h0.mono (Le.new C28.lt))).hbig
   refine zlp Tryz.f94 [K13, K14, K20, K21, K24] [1, 1, 1, 9, 1, 0, 0, 1, 1, 0, 0, 1, 1, 9, 1, 0, 0, 1, 1, 9, 0, 1, 1, 0] (fun ((v34_0, k34, rb34_0, ad34_0, m34_0, cap34_0) : (List WeightD) × Nat × (List (Nat × Obj)) × (Option Addr) × Nat × Nat) => [(1, .slice (some ⟨be30, oe30, none⟩) p1.length p1a2), (8, .int .i64 (k14 : Int)), (9, .slice e171 x14.length e172), (10, .slice ad34_0 m34_0 cap34_0), (12, .pointer (some ⟨b27, 0, none⟩)), (32, .slice (some ⟨be17, oe17, none⟩) p0.length p0a2), (33, .int .i64 (p0.length : Int)), (34, .int .i64 (k14 : Int)), (39, .slice (some ⟨be25, oe25, none⟩) v14_0.length cap14_0), (40, .int .i64 (v14_0.length : Int)), (41, .int .i64 (k21 : Int)), (50, .slice u33_0_1 y32.length u33_0_2), (51, .int .i64 (y32.length : Int)), (52, .int .i64 (k34 : Int))]) (fun ((v34_0, k34, rb34_0, ad34_0, m34_0, cap34_0) : (List WeightD) × Nat × (List (Nat × Obj)) × (Option Addr) × Nat × Nat) w1 => ∃ Y1 : Hid, St E0 w X w1 Y1 ((b27, .cells #[.int .i64 x21.vertex, .bool x21.w.neg, .slice e251 x21.w.ln.length e252, .slice e253 x21.w.ld.length e254] 124 (0, 0)) :: rb34_0) ∧ Le (rd w33 Y27) (rd w1 Y1) ∧ GRow WeightDCs 124 4 (rd w1 (orN Y1 w.heap.size)) rb34_0 ad34_0 m34_0 cap34_0 v34_0 ∧ interp_Weights_l34 x14 x21 J23 (y32.drop k34)  v34_0 = some y) (fun ((v34_0, k34, rb34_0, ad34_0, m34_0, cap34_0) : (List WeightD) × Nat × (List (Nat × Obj)) × (Option Addr) × Nat × Nat) => y32.length - k34) (v21_0, 0, rb21_0, ad21_0, m21_0, cap21_0) ?_ ?_
   ·
    exact ⟨_, C33, Le.refl _, (hfv21_0_0.mono (Le.or (Le3 B27 B28 B33) _)), hp⟩
   rintro ⟨v34_0, k34, rb34_0, ad34_0, m34_0, cap34_0⟩ w34 K34 H34 ⟨Y34, C34, B34, hfv34_0_0, hp⟩
   refine zz 6 ?_
   refine zt 53 (p := (k34 : Int) < (y32.length : Int)) (fun ht35 => ?_) (fun ht35 => ?_)
   ·
    have hob := get_lt (l := y32) (k := k34) (lt_of_int ht35)
    obtain ⟨x34, hqx34⟩ := hob
    rw [dropC hqx34, interp_Weights_l34] at hp
    have hzx34 : (0 : Int) ≤ (k34 : Int) := Int.natCast_nonneg _
    refine zz 7 ?_
    have hob := (u33_0__h0.mono (Le.new C28.lt)).opn hqx34
    obtain ⟨be36, oe36, rfl, B36, hEe36⟩ := hob
    obtain ⟨e361, e362, e363, e364, e36_at, e36_h0, e36_h1⟩ := hEe36
    refine zi (b := be36) (off := oe36) (len := y32.length) (cap := u33_0_2) (kd := .i64) (i := (k34 : Int)) 4 (oe36 + k34 * 4) ?_ (h0 := hzx34) (h1 := (ix_b hzx34 B36))
    refine zl ((e36_at.mono B34)).cells ?_
    refine zn pn (.cells #[.int .i64 0, .bool false, .slice none 0 0, .slice none 0 0] 176 (0, 0)) C34 ?_
    intro b38 w38 Y38 C38 B38 hu38
    refine zx 0 #[.int .i64 x34.index, .bool x34.w.neg, .slice e361 x34.w.ln.length e362, .slice e363 x34.w.ld.length e364] C38 ?_
    intro w39 C39 B39
    refine zz 5 ?_
    refine zo 1 C39 ?_
    refine zz 1 ?_
    refine zo 0 C39 ?_
    have hc3_ := (Le6 B21 B27 B28 B33 B34 B38).trans B39
    refine bndk hp fun y41 hy41 hp => ?_
    refine zc C39 (rat_Mul_c _ X0 (X0_lt _) x21.w _ ⟨_, _, _, _, _, _, rfl, ((e25_h0.mono hc3_).mono Le.x0), ((e25_h1.mono hc3_).mono Le.x0)⟩ x34.w _ ⟨_, _, _, _, _, _, rfl, ((e36_h0.mono (Le3 B34 B38 B39)).mono Le.x0), ((e36_h1.mono (Le3 B34 B38 B39)).mono Le.x0)⟩ y41 hy41) ?_
    rintro v42 w42 C42 B42 hu42 ⟨uu42_0, rfl, ⟨u42_0_1, u42_0_2, u42_0_3, u42_0_4, u42_0_5, u42_0_6, rfl, u42_0__h0, u42_0__h1⟩⟩
    have hob := u42_0__h0.hlen
    subst hob
    have hob := u42_0__h1.hlen
    subst hob
    refine zz 3 ?_
    refine zn pn (.cells #[.bool false, .slice none 0 0, .slice none 0 0] 28 (0, 0)) C42 ?_
    intro b44 w44 Y44 C44 B44 hu44
    refine zx 0 #[.bool y41.1.neg, .slice u42_0_1 y41.1.ln.length u42_0_3, .slice u42_0_4 y41.1.ld.length u42_0_6] C44 ?_
    intro w45 C45 B45
    refine zz 6 ?_
    refine zo 2 C45 ?_
    refine zz 4 ?_
    refine zo 1 C45 ?_
    refine zz 1 ?_
    refine zo 0 C45 ?_
    refine zz 1 ?_
    refine zn (fun b => .slice (some ⟨b, 0, none⟩) 1 1) (.cells #[.int .i64 (IntKind.i64.wrap ((IntKind.i64.wrap ((x21.vertex) * (x14.length : Int))) + x34.index)), .bool y41.1.neg, .slice u42_0_1 y41.1.ln.length u42_0_3, .slice u42_0_4 y41.1.ld.length u42_0_6] 124 (0, 0)) C45 ?_
    intro b47 w47 Y47 C47 B47 hu47
    have hob := grdp hp
    obtain ⟨hg49, hp⟩ := hob
    have hln50 : m34_0 = v34_0.length := GRow.len hfv34_0_0
    have hc4_ := (Le5 B38 B39 B42 B44 B45).trans B47
    have hob := (hfv34_0_0.mono (Le.or hc4_ _))
    obtain ⟨es50, hr50, hq50, hk50, hm50⟩ := hob
    refine zop (at1 [K13, K14, K20, K21, K24, K34] Tryz.f94 [1, 1, 1, 9, 1, 0, 0, 1, 1, 0, 0, 1, 1, 9, 1, 0, 0, 1, 1, 9, 0, 1, 1, 0, 0, 1, 1, 0, 0, 1, 1]) 12 (fun a48 _ G48 hz48 => op_appEZ (b := 64) (m := 1) (c := 1) (ad := ⟨b47, 0, none⟩) (news := [.int .i64 (IntKind.i64.wrap ((IntKind.i64.wrap ((x21.vertex) * (x14.length : Int))) + x34.index)), .bool y41.1.neg, .slice u42_0_1 y41.1.ln.length u42_0_3, .slice u42_0_4 y41.1.ld.length u42_0_6]) (i0 := Tryz.t124) (rb := rb34_0) (R1 := []) 4 G48 C47 rfl hr50 (C47.cells 0 rfl rfl) (app_b1 hg49 hln50 rfl) (app_b2 hg49 hln50) ?_)
    intro rb51 ad51 cap51 w51 Y51 hrow51 C51 B51 a52 G52
    have hc5_ := (Le3 B44 B45 B47).trans B51
    have hg51 : GRow WeightDCs 124 4 (rd w51 (orN Y51 w.heap.size)) rb51 ad51 (m34_0 + 1) cap51 (v34_0 ++ [(WeightD.mk (IntKind.i64.wrap ((IntKind.i64.wrap ((x21.vertex) * (x14.length : Int))) + x34.index)) y41.1)]) := GRow.snoc hrow51 hq50 hk50 hm50 (Le.or B51 _) ⟨rfl, fun r2 h2 => ⟨_, _, _, _, rfl, ((u42_0__h0.mono (Le.own C39.lt C39.upd.size hc5_)).mono h2), ((u42_0__h1.mono (Le.own C39.lt C39.upd.size hc5_)).mono h2)⟩⟩
    refine hz48 G52 ?_
    refine zz 6 ?_
    refine zs 77 (v := .int .i64 (IntKind.i64.wrap ((k34 : Int) + 1))) (v' := .int .i64 ((k34 : Int) + 1)) (vint (wi64 (wk0 k34) (wk1 ht35 hb34))) ?_
    refine zz 2 ?_
    have hc6_ := (Le7 B34 B38 B39 B42 B44 B45 B47).trans B51
    refine znext (fun a h => H34 ((v34_0 ++ [(WeightD.mk (IntKind.i64.wrap ((IntKind.i64.wrap ((x21.vertex) * (x14.length : Int))) + x34.index)) y41.1)]), k34 + 1, rb51, ad51, (m34_0 + 1), cap51) _ a h ⟨_, C51.tail.tail.tail, hc6_, hg51, hp⟩ ?_)
    exact mu_lt ht35
   rw [List.drop_eq_nil_of_le (nlt_of_int ht35), interp_Weights_l34] at hp
   refine zz 6 ?_
   have hc7_ := (Le3 B27 B28 B33).trans B34
   exact znext (fun a h => H24 (v34_0, rb34_0, ad34_0, m34_0, cap34_0) _ a h ⟨_, C34.tail, hc7_, hfv34_0_0, hp⟩)
  rw [List.drop_eq_nil_of_le (nlt_of_int ht22), interp_Weights_l21] at hp
  refine zz 5 ?_
  exact znext (fun a h => H20 (v21_0, rb21_0, ad21_0, m21_0, cap21_0) _ a h ⟨_, C21, B21, hfv21_0_0, hp⟩)
 rw [List.drop_eq_nil_of_le (nlt_of_int ht16), interp_Weights_l14] at hp
 refine zz 5 ?_
 exact znext (fun a h => H13 (v14_0, ad14_0, cap14_0) _ a h ⟨_, C14, (Le2 B15 B14), (hfv14_0_0.mono (Le.or (Le.refl _) _)), hp⟩)
noncomputable def dynamics_Cost_p (p0 : ModelD) (p1 : Int) (p2 : Int) : Option (Raw × Int) :=
  (dynamics_known_p p0 ([p1, p2])).bind fun y9 => if ((y9) != 0) = true then (some (Raw.zero, y9)) else ((ix p0.advisories (p1)).bind fun x16 => (ix p0.advisories (p2)).bind fun x18 => lt (fun (v24_0 : Raw) => lt (fun (v25_0 : Raw) => if ((p1) != 0) = true then (if ((p2) != 0) = true then (if (!((x16.sense) == x18.sense)) = true then ((rat_Add_p v25_0 p0.reversal).bind fun y33 => some (y33.1, 0)) else (some (v25_0, 0))) else (some (v25_0, 0))) else (some (v25_0, 0))) fun J25 => if ((p1) != 0) = true then (if ((p2) != 0) = true then (if ((x16.sense) == x18.sense) = true then (if (x18.lo) ≥ x16.lo then (if (x18.hi) ≤ x16.hi then (if (!((x16.sense == x18.sense) && ((x16.lo == x18.lo) && (x16.hi == x18.hi)))) = true then ((rat_Add_p v24_0 p0.strengthen).bind fun y58 => J25 y58.1) else (J25 v24_0)) else (J25 v24_0)) else (J25 v24_0)) else (J25 v24_0)) else (J25 v24_0)) else (J25 v24_0)) fun J24 => if ((p2) != 0) = true then ((rat_Add_p Raw.zero p0.alert).bind fun y94 => J24 y94.1) else (J24 Raw.zero))
theorem dynamics_Cost_c (w : World) (X : Hid) (hX : ∀ k o, X k o → k < w.heap.size) (p0 : ModelD) (vp0 : Value) (hp0 : ModelDV (rd w X) vp0 p0) (p1 : Int) (p2 : Int) (y : Raw × Int) (hp : dynamics_Cost_p p0 p1 p2 = some y) : Calls Tryz.prog 19 #[vp0, .int .i64 p1, .int .i64 p2] w (Ret E0 w fun w' v => ∃ uu0, v = .tuple #[uu0, .int .i64 y.2] ∧ RawV (rd w' (old w)) uu0 y.1) := by
 have hVp0 := hp0
 refine ModelDV.op hp0 fun p0a1 p0a2 p0a3 p0a4 p0a5 p0a6 p0a7 p0a8 p0a9 p0a10 p0a11 p0a12 p0a13 p0a14 p0a15 p0a16 p0a17 p0a18 p0a19 p0a20 p0a21 p0a22 p0a23 p0a24 hv9 p0a_h0 p0a_h1 p0a_h2 p0a_h3 p0a_h4 p0a_h5 p0a_h6 p0a_h7 p0a_h8 p0a_h9 p0a_h10 p0a_h11 => ?_
 subst hv9
 unfold dynamics_Cost_p at hp
 refine zen Tryz.func19 ?_
 have C0 : St E0 w X w X [] := St.start hX
 refine zz 2 ?_
 refine zn pn (.cells #[.slice p0a1 p0.height.length p0a2, .slice p0a3 p0.own.length p0a4, .slice p0a5 p0.other.length p0a6, .slice p0a7 p0.advisories.length p0a8, .int .i64 p0.pull, .int .i64 p0.near, .int .i64 p0.steps, .slice p0a9 p0.ownNoise.length p0a10, .slice p0a11 p0.otherNoise.length p0a12, .bool p0.alert.neg, .slice p0a13 p0.alert.ln.length p0a14, .slice p0a15 p0.alert.ld.length p0a16, .bool p0.strengthen.neg, .slice p0a17 p0.strengthen.ln.length p0a18, .slice p0a19 p0.strengthen.ld.length p0a20, .bool p0.reversal.neg, .slice p0a21 p0.reversal.ln.length p0a22, .slice p0a23 p0.reversal.ld.length p0a24] 30 (0, 0)) C0 ?_
 intro b3 w3 Y3 C3 B3 hu3
 refine zn pn (.cells #[.bool false, .slice none 0 0, .slice none 0 0] 28 (0, 0)) C3 ?_
 intro b5 w5 Y5 C5 B5 hu5
 refine zz 6 ?_
 refine zo 1 C5 ?_
 refine zz 2 ?_
 refine zn (fun b => .slice (some ⟨b, 0, none⟩) 2 2) (.cells #[.int .i64 p1, .int .i64 p2] 3 (0, 0)) C5 ?_
 intro b7 w7 Y7 C7 B7 hu7
 refine bndk hp fun y9 hy9 hp => ?_
 refine zc C7 (dynamics_known_c _ X0 (X0_lt _) p0 _ ((hVp0.mono (Le3 B3 B5 B7)).mono Le.x0) ([p1, p2]) _ ⟨_, _, rfl, (SlR.lit (El := IntAt) (size := 1) (n := 2) [⟨(p1 : Int), [.int .i64 p1]⟩, ⟨(p2 : Int), [.int .i64 p2]⟩] (C7.at0 0 rfl rfl) (List.forall_mem_cons.2 ⟨⟨rfl, fun r2 h2 b o h9 => h9⟩, (List.forall_mem_cons.2 ⟨⟨rfl, fun r2 h2 b o h9 => h9⟩, (List.forall_mem_nil _)⟩)⟩) rfl (by decide))⟩ y9 hy9) ?_ (vs := #[.agg #[.slice p0a1 p0.height.length p0a2, .slice p0a3 p0.own.length p0a4, .slice p0a5 p0.other.length p0a6, .slice p0a7 p0.advisories.length p0a8, .int .i64 p0.pull, .int .i64 p0.near, .int .i64 p0.steps, .slice p0a9 p0.ownNoise.length p0a10, .slice p0a11 p0.otherNoise.length p0a12, .bool p0.alert.neg, .slice p0a13 p0.alert.ln.length p0a14, .slice p0a15 p0.alert.ld.length p0a16, .bool p0.strengthen.neg, .slice p0a17 p0.strengthen.ln.length p0a18, .slice p0a19 p0.strengthen.ld.length p0a20, .bool p0.reversal.neg, .slice p0a21 p0.reversal.ln.length p0a22, .slice p0a23 p0.reversal.ld.length p0a24], .slice (some ⟨b7, 0, none⟩) 2 2])
 rintro v10 w10 C10 B10 hu10 rfl
 refine zz 9 ?_
 refine zb 20 (b := ((y9) != 0)) (fun hc11 => ?_) (fun hc11 => ?_)
 ·
  have hp := ipb hc11 hp
  refine zz 5 ?_
  refine zx 1 #[.bool false, .slice none 0 0, .slice none 0 0] C10 ?_
  intro w12 C12 B12
  refine zz 5 ?_
  refine zrS [.cell 6 28, .tmp 7] (v := .tuple #[.agg #[.bool false, .slice none 0 0, .slice none 0 0], .int .i64 y9]) (Res.cM C12 1 (Res.tZ Res.nil)) ?_
  have hob := Option.some.inj hp
  subst hob
  exact ⟨C12.upd, _, rfl, ⟨_, rfl, ⟨_, _, _, _, _, _, rfl, Limbs.nil0, Limbs.nil0⟩⟩⟩
 have hp := iqb hc11 hp
 refine zz 6 ?_
 refine zn pn (.cells #[.bool false, .slice none 0 0, .slice none 0 0] 28 (0, 0)) C10 ?_
 intro b14 w14 Y14 C14 B14 hu14
 refine zx 0 #[.bool false, .slice none 0 0, .slice none 0 0] C14 ?_
 intro w15 C15 B15
 refine zz 9 ?_
 refine zdrs [0, 1, 2, 3] C15 ?_
 refine gz [0] ?_
 refine gw 1 3 ?_
 refine bndk hp fun x16 hx16 hp => ?_
 have hob := ix_some hx16
 obtain ⟨hzx16, hqx16⟩ := hob
 have hob := p0a_h3.opn hqx16
 obtain ⟨be17, oe17, rfl, B17, hEe17⟩ := hob
 have e17_at : At (rd w X) ⟨be17, oe17 + (p1).toNat * 3, none⟩ [.int .u8 x16.sense, .int .i64 x16.lo, .int .i64 x16.hi] := hEe17
 refine gz [2] ?_
 refine gi 3 (b := be17) (off := oe17) (len := p0.advisories.length) (cap := p0a8) (kd := .i64) (i := p1) 3 (oe17 + (p1).toNat * 3) ?_ (h0 := hzx16) (h1 := (ix_b hzx16 B17))
 have hc1_ := (Le5 B3 B5 B7 B10 B14).trans B15
 refine gl 4 ((e17_at.mono hc1_)) ?_
 refine gz [5] ?_
 refine gw 6 3 ?_
 refine bndk hp fun x18 hx18 hp => ?_
 have hob := ix_some hx18
 obtain ⟨hzx18, hqx18⟩ := hob
 have hob := p0a_h3.opn2 hqx18
 obtain ⟨B19, hEe19⟩ := hob
 have e19_at : At (rd w X) ⟨be17, oe17 + (p2).toNat * 3, none⟩ [.int .u8 x18.sense, .int .i64 x18.lo, .int .i64 x18.hi] := hEe19
 refine gz [7] ?_
 refine gi 8 (b := be17) (off := oe17) (len := p0.advisories.length) (cap := p0a8) (kd := .i64) (i := p2) 3 (oe17 + (p2).toNat * 3) ?_ (h0 := hzx18) (h1 := (ix_b hzx18 B19))
 have hc2_ := (Le5 B3 B5 B7 B10 B14).trans B15
 refine gl 9 ((e19_at.mono hc2_)) ?_
 refine gp (al 11 12 pn (.cells #[.int .u8 0, .int .i64 0, .int .i64 0] 96 (0, 0))) ?_
 refine gp (al 10 11 pn (.cells #[.int .u8 0, .int .i64 0, .int .i64 0] 96 (0, 0))) ?_
 refine ge (fun e20 => ?_) PdOk.nil.k.k
 refine gXs 12 0 [2, 3, 4, 5] #[.int .u8 x16.sense, .int .i64 x16.lo, .int .i64 x16.hi] ?_
 intro w21 Y21 B21
 refine gXs 13 1 [2, 3, 4, 5] #[.int .u8 x18.sense, .int .i64 x18.lo, .int .i64 x18.hi] ?_
 intro w22 Y22 B22
 refine gend (fun w23 Y23 C23 B23 => ?_)
 refine zz 4 ?_
 refine zo 0 C23 ?_
 refine zz 1 ?_
 refine zo 1 C23 ?_
 refine zz 4 ?_
 have hob := ltd1 hp
 obtain ⟨J24, hJ24, hp⟩ := hob
 refine zjoin (fun ((v24_0, a24_0_1, a24_0_2, a24_0_3, a24_0_4) : Raw × (Option Addr) × Nat × (Option Addr) × Nat) => [(1, .int .i64 p1), (2, .int .i64 p2), (3, .pointer (some ⟨b3, 0, none⟩)), (6, .pointer (some ⟨b5, 0, none⟩)), (9, .pointer (some ⟨b14, 0, none⟩)), (10, .func (.func 56) #[] #[.pointer (some ⟨b14, 0, none⟩)]), (11, .pointer (some ⟨(e20 10), 0, none⟩)), (12, .pointer (some ⟨(e20 11), 0, none⟩)), (13, .bool ((x16.sense) == x18.sense))]) (fun ((v24_0, a24_0_1, a24_0_2, a24_0_3, a24_0_4) : Raw × (Option Addr) × Nat × (Option Addr) × Nat) w1 => ∃ Y1 : Hid, St E0 w X w1 Y1 [((e20 10), .cells #[.int .u8 x16.sense, .int .i64 x16.lo, .int .i64 x16.hi] 96 (0, 0)), ((e20 11), .cells #[.int .u8 x18.sense, .int .i64 x18.lo, .int .i64 x18.hi] 96 (0, 0)), (b14, .cells #[.bool v24_0.neg, .slice a24_0_1 v24_0.ln.length a24_0_2, .slice a24_0_3 v24_0.ld.length a24_0_4] 28 (0, 0)), (b7, .cells #[.int .i64 p1, .int .i64 p2] 3 (0, 0)), (b5, .cells #[.bool false, .slice none 0 0, .slice none 0 0] 28 (0, 0)), (b3, .cells #[.slice p0a1 p0.height.length p0a2, .slice p0a3 p0.own.length p0a4, .slice p0a5 p0.other.length p0a6, .slice (some ⟨be17, oe17, none⟩) p0.advisories.length p0a8, .int .i64 p0.pull, .int .i64 p0.near, .int .i64 p0.steps, .slice p0a9 p0.ownNoise.length p0a10, .slice p0a11 p0.otherNoise.length p0a12, .bool p0.alert.neg, .slice p0a13 p0.alert.ln.length p0a14, .slice p0a15 p0.alert.ld.length p0a16, .bool p0.strengthen.neg, .slice p0a17 p0.strengthen.ln.length p0a18, .slice p0a19 p0.strengthen.ld.length p0a20, .bool p0.reversal.neg, .slice p0a21 p0.reversal.ln.length p0a22, .slice p0a23 p0.reversal.ld.length p0a24] 30 (0, 0))] ∧ Le (rd w23 Y23) (rd w1 Y1) ∧ Limbs (rd w1 (orN Y1 w.heap.size)) a24_0_1 v24_0.ln.length a24_0_2 v24_0.ln ∧ Limbs (rd w1 (orN Y1 w.heap.size)) a24_0_3 v24_0.ld.length a24_0_4 v24_0.ld ∧ J24 v24_0 = some y) ?_ ?_
 ·
  rintro ⟨v24_0, a24_0_1, a24_0_2, a24_0_3, a24_0_4⟩ w24 ⟨Y24, C24, B24, hfv24_0_0, hfv24_0_1, hp⟩
  have hp := (hJ24 _).symm.trans hp
  have hob := ltd1 hp
  obtain ⟨J25, hJ25, hp⟩ := hob
  refine zjoin (fun ((v25_0, a25_0_1, a25_0_2, a25_0_3, a25_0_4) : Raw × (Option Addr) × Nat × (Option Addr) × Nat) => [(1, .int .i64 p1), (2, .int .i64 p2), (3, .pointer (some ⟨b3, 0, none⟩)), (6, .pointer (some ⟨b5, 0, none⟩)), (9, .pointer (some ⟨b14, 0, none⟩)), (10, .func (.func 56) #[] #[.pointer (some ⟨b14, 0, none⟩)]), (13, .bool ((x16.sense) == x18.sense))]) (fun ((v25_0, a25_0_1, a25_0_2, a25_0_3, a25_0_4) : Raw × (Option Addr) × Nat × (Option Addr) × Nat) w1 => ∃ Y1 : Hid, St E0 w X w1 Y1 [((e20 10), .cells #[.int .u8 x16.sense, .int .i64 x16.lo, .int .i64 x16.hi] 96 (0, 0)), ((e20 11), .cells #[.int .u8 x18.sense, .int .i64 x18.lo, .int .i64 x18.hi] 96 (0, 0)), (b14, .cells #[.bool v25_0.neg, .slice a25_0_1 v25_0.ln.length a25_0_2, .slice a25_0_3 v25_0.ld.length a25_0_4] 28 (0, 0)), (b7, .cells #[.int .i64 p1, .int .i64 p2] 3 (0, 0)), (b5, .cells #[.bool false, .slice none 0 0, .slice none 0 0] 28 (0, 0)), (b3, .cells #[.slice p0a1 p0.height.length p0a2, .slice p0a3 p0.own.length p0a4, .slice p0a5 p0.other.length p0a6, .slice (some ⟨be17, oe17, none⟩) p0.advisories.length p0a8, .int .i64 p0.pull, .int .i64 p0.near, .int .i64 p0.steps, .slice p0a9 p0.ownNoise.length p0a10, .slice p0a11 p0.otherNoise.length p0a12, .bool p0.alert.neg, .slice p0a13 p0.alert.ln.length p0a14, .slice p0a15 p0.alert.ld.length p0a16, .bool p0.strengthen.neg, .slice p0a17 p0.strengthen.ln.length p0a18, .slice p0a19 p0.strengthen.ld.length p0a20, .bool p0.reversal.neg, .slice p0a21 p0.reversal.ln.length p0a22, .slice p0a23 p0.reversal.ld.length p0a24] 30 (0, 0))] ∧ Le (rd w24 Y24) (rd w1 Y1) ∧ Limbs (rd w1 (orN Y1 w.heap.size)) a25_0_1 v25_0.ln.length a25_0_2 v25_0.ln ∧ Limbs (rd w1 (orN Y1 w.heap.size)) a25_0_3 v25_0.ld.length a25_0_4 v25_0.ld ∧ J25 v25_0 = some y) ?_ ?_
  ·
   rintro ⟨v25_0, a25_0_1, a25_0_2, a25_0_3, a25_0_4⟩ w25 ⟨Y25, C25, B25, hfv25_0_0, hfv25_0_1, hp⟩
   have hp := (hJ25 _).symm.trans hp
   refine zz 6 ?_
   refine zb 81 (b := ((p1) != 0)) (fun hc26 => ?_) (fun hc26 => ?_)
   ·
    have hp := ipb hc26 hp
    refine zz 4 ?_
    refine zb 85 (b := ((p2) != 0)) (fun hc27 => ?_) (fun hc27 => ?_)
    ·
     have hp := ipb hc27 hp
     refine zz 4 ?_
     refine zo 5 C25 ?_
     refine zci (vs := #[.bool (!((x16.sense) == x18.sense)), .agg #[.bool p0.reversal.neg, .slice p0a21 p0.reversal.ln.length p0a22, .slice p0a23 p0.reversal.ld.length p0a24], .pointer (some ⟨b14, 0, none⟩)]) Tryz.func56 (fun R28 hR28 => ?_)
     refine zz 2 ?_
     refine zn pn (.cells #[.bool p0.reversal.neg, .slice p0a21 p0.reversal.ln.length p0a22, .slice p0a23 p0.reversal.ld.length p0a24] 28 (0, 0)) C25 ?_
     intro b30 w30 Y30 C30 B30 hu30
     refine zz 7 ?_
     refine zb 5 (b := !((x16.sense) == x18.sense)) (fun hc31 => ?_) (fun hc31 => ?_)
     ·
      have hp := ipb hc31 hp
      refine zz 2 ?_
      refine zo 3 C30 ?_
      refine zo 0 C30 ?_
      have hc3_ := (Le11 B3 B5 B7 B10 B14 B15 B21 B22 B23 B24 B25).trans B30
      refine bndk hp fun y33 hy33 hp => ?_
      refine zc C30 (rat_Add_c _ X0 (X0_lt _) v25_0 _ ⟨_, _, _, _, _, _, rfl, (((hfv25_0_0.mono Le.orl).mono B30).mono Le.x0), (((hfv25_0_1.mono Le.orl).mono B30).mono Le.x0)⟩ p0.reversal _ ⟨_, _, _, _, _, _, rfl, ((p0a_h10.mono hc3_).mono Le.x0), ((p0a_h11.mono hc3_).mono Le.x0)⟩ y33 hy33) ?_
      rintro v34 w34 C34 B34 hu34 ⟨uu34_0, rfl, ⟨u34_0_1, u34_0_2, u34_0_3, u34_0_4, u34_0_5, u34_0_6, rfl, u34_0__h0, u34_0__h1⟩⟩
      have hob := u34_0__h0.hlen
      subst hob
      have hob := u34_0__h1.hlen
      subst hob
      refine zz 3 ?_
      refine zx 3 #[.bool y33.1.neg, .slice u34_0_1 y33.1.ln.length u34_0_3, .slice u34_0_4 y33.1.ld.length u34_0_6] C34 ?_
      intro w35 C35 B35
      refine zz 1 ?_
      refine zr' (v := .tuple #[]) ?_
      refine hR28 _ _ ?_
      refine zz 4 ?_
      refine zo 3 C35 ?_
      refine zx 5 #[.bool y33.1.neg, .slice u34_0_1 y33.1.ln.length u34_0_3, .slice u34_0_4 y33.1.ld.length u34_0_6] C35 ?_
      intro w36 C36 B36
      refine zz 4 ?_
      refine zrS [.cell 6 28, .tmp 7] (v := .tuple #[.agg #[.bool y33.1.neg, .slice u34_0_1 y33.1.ln.length u34_0_3, .slice u34_0_4 y33.1.ld.length u34_0_6], .int .i64 0]) (Res.cM C36 5 (Res.tZ Res.nil)) ?_
      have hob := Option.some.inj hp
      subst hob
      exact ⟨C36.upd, _, rfl, ⟨_, rfl, ⟨_, _, _, _, _, _, rfl, ((u34_0__h0.mono (Le.own C30.lt C30.upd.size (Le2 B35 B36)))).mono Le.orr, ((u34_0__h1.mono (Le.own C30.lt C30.upd.size (Le2 B35 B36)))).mono Le.orr⟩⟩⟩
     have hp := iqb hc31 hp
     refine zz 2 ?_
     refine zr' (v := .tuple #[]) ?_
     refine hR28 _ _ ?_
     refine zz 4 ?_
     refine zo 3 C30 ?_
     refine zx 5 #[.bool v25_0.neg, .slice a25_0_1 v25_0.ln.length a25_0_2, .slice a25_0_3 v25_0.ld.length a25_0_4] C30 ?_
     intro w37 C37 B37
     refine zz 4 ?_
     refine zrS [.cell 6 28, .tmp 7] (v := .tuple #[.agg #[.bool v25_0.neg, .slice a25_0_1 v25_0.ln.length a25_0_2, .slice a25_0_3 v25_0.ld.length a25_0_4], .int .i64 0]) (Res.cM C37 5 (Res.tZ Res.nil)) ?_
     have hob := Option.some.inj hp
     subst hob
     exact ⟨C37.upd, _, rfl, ⟨_, rfl, ⟨_, _, _, _, _, _, rfl, ((hfv25_0_0.mono (Le.or (Le2 B30 B37) _))).mono Le.orr, ((hfv25_0_1.mono (Le.or (Le2 B30 B37) _))).mono Le.orr⟩⟩⟩
    have hp := iqb hc27 hp
    refine zz 4 ?_
    refine zo 5 C25 ?_
    refine zci (vs := #[.bool false, .agg #[.bool p0.reversal.neg, .slice p0a21 p0.reversal.ln.length p0a22, .slice p0a23 p0.reversal.ld.length p0a24], .pointer (some ⟨b14, 0, none⟩)]) Tryz.func56 (fun R38 hR38 => ?_)
    refine zz 2 ?_
    refine zn pn (.cells #[.bool p0.reversal.neg, .slice p0a21 p0.reversal.ln.length p0a22, .slice p0a23 p0.reversal.ld.length p0a24] 28 (0, 0)) C25 ?_
    intro b40 w40 Y40 C40 B40 hu40
    refine zz 9 ?_
    refine zr' (v := .tuple #[]) ?_
    refine hR38 _ _ ?_
    refine zz 4 ?_
    refine zo 3 C40 ?_
    refine zx 5 #[.bool v25_0.neg, .slice a25_0_1 v25_0.ln.length a25_0_2, .slice a25_0_3 v25_0.ld.length a25_0_4] C40 ?_
    intro w41 C41 B41
    refine zz 4 ?_
    refine zrS [.cell 6 28, .tmp 7] (v := .tuple #[.agg #[.bool v25_0.neg, .slice a25_0_1 v25_0.ln.length a25_0_2, .slice a25_0_3 v25_0.ld.length a25_0_4], .int .i64 0]) (Res.cM C41 5 (Res.tZ Res.nil)) ?_
    have hob := Option.some.inj hp
    subst hob
    exact ⟨C41.upd, _, rfl, ⟨_, rfl, ⟨_, _, _, _, _, _, rfl, ((hfv25_0_0.mono (Le.or (Le2 B40 B41) _))).mono Le.orr, ((hfv25_0_1.mono (Le.or (Le2 B40 B41) _))).mono Le.orr⟩⟩⟩
   have hp := iqb hc26 hp
   refine zz 8 ?_
   refine zo 5 C25 ?_
   refine zci (vs := #[.bool false, .agg #[.bool p0.reversal.neg, .slice p0a21 p0.reversal.ln.length p0a22, .slice p0a23 p0.reversal.ld.length p0a24], .pointer (some ⟨b14, 0, none⟩)]) Tryz.func56 (fun R42 hR42 => ?_)
   refine zz 2 ?_
   refine zn pn (.cells #[.bool p0.reversal.neg, .slice p0a21 p0.reversal.ln.length p0a22, .slice p0a23 p0.reversal.ld.length p0a24] 28 (0, 0)) C25 ?_
   intro b44 w44 Y44 C44 B44 hu44
   refine zz 9 ?_
   refine zr' (v := .tuple #[]) ?_
   refine hR42 _ _ ?_
   refine zz 4 ?_
   refine zo 3 C44 ?_
   refine zx 5 #[.bool v25_0.neg, .slice a25_0_1 v25_0.ln.length a25_0_2, .slice a25_0_3 v25_0.ld.length a25_0_4] C44 ?_
   intro w45 C45 B45
   refine zz 4 ?_
   refine zrS [.cell 6 28, .tmp 7] (v := .tuple #[.agg #[.bool v25_0.neg, .slice a25_0_1 v25_0.ln.length a25_0_2, .slice a25_0_3 v25_0.ld.length a25_0_4], .int .i64 0]) (Res.cM C45 5 (Res.tZ Res.nil)) ?_
   have hob := Option.some.inj hp
   subst hob
   exact ⟨C45.upd, _, rfl, ⟨_, rfl, ⟨_, _, _, _, _, _, rfl, ((hfv25_0_0.mono (Le.or (Le2 B44 B45) _))).mono Le.orr, ((hfv25_0_1.mono (Le.or (Le2 B44 B45) _))).mono Le.orr⟩⟩⟩
  intro K46 H46
  refine zdraw [0, 1, 3, 4, 5] C24 ?_
  refine gz [0, 1, 2, 3] ?_
  refine gb 49 (b := ((p1) != 0)) (fun hc47 => ?_) (fun hc47 => ?_)
  ·
   have hp := ipb hc47 hp
   refine gz [4, 5, 6, 7] ?_
   refine gb 53 (b := ((p2) != 0)) (fun hc48 => ?_) (fun hc48 => ?_)
   ·
    have hp := ipb hc48 hp
    refine gz [8, 9, 10] ?_
    refine gb 56 (b := ((x16.sense) == x18.sense)) (fun hc49 => ?_) (fun hc49 => ?_)
    ·
     have hp := ipb hc49 hp
     refine gz [11] ?_
     refine gw 12 1 ?_
     refine gz [13] ?_
     refine gw 14 0 ?_
     refine gz [15, 16, 17] ?_
     refine gt 63 (p := (x18.lo) ≥ x16.lo) (fun ht50 => ?_) (fun ht50 => ?_)
     ·
      have hp := ip ht50 hp
      refine gz [18] ?_
      refine gw 19 1 ?_
      refine gz [20] ?_
      refine gw 21 0 ?_
      refine gz [22, 23, 24] ?_
      refine gt 70 (p := (x18.hi) ≤ x16.hi) (fun ht51 => ?_) (fun ht51 => ?_)
      ·
       have hp := ip ht51 hp
       refine gw 25 0 ?_
       refine gw 26 1 ?_
       refine gH (v := .bool (!((x16.sense == x18.sense) && ((x16.lo == x18.lo) && (x16.hi == x18.hi))))) 27 (fun w => run_neq3Z (k1 := .u8) (k2 := .i64) (k3 := .i64) (a1 := x16.sense) (a2 := x16.lo) (a3 := x16.hi) (b1 := x18.sense) (b2 := x18.lo) (b3 := x18.hi) 96 96) ?_
       refine gz [28, 29] ?_
       refine gw 30 4 ?_
       refine gci 31 (vs := #[.bool (!((x16.sense == x18.sense) && ((x16.lo == x18.lo) && (x16.hi == x18.hi)))), .agg #[.bool p0.strengthen.neg, .slice p0a17 p0.strengthen.ln.length p0a18, .slice p0a19 p0.strengthen.ld.length p0a20], .pointer (some ⟨b14, 0, none⟩)]) Tryz.func56 (fun w52 Y52 C52 B52 R53 hR53 => ?_)
       refine zz 2 ?_
       refine zn pn (.cells #[.bool p0.strengthen.neg, .slice p0a17 p0.strengthen.ln.length p0a18, .slice p0a19 p0.strengthen.ld.length p0a20] 28 (0, 0)) C52 ?_
       intro b55 w55 Y55 C55 B55 hu55
       refine zz 7 ?_
       refine zb 5 (b := !((x16.sense == x18.sense) && ((x16.lo == x18.lo) && (x16.hi == x18.hi)))) (fun hc56 => ?_) (fun hc56 => ?_)
       ·
        have hp := ipb hc56 hp
        refine zz 2 ?_
        refine zo 3 C55 ?_
        refine zo 0 C55 ?_
        have hc4_ := (Le11 B3 B5 B7 B10 B14 B15 B21 B22 B23 B24 B52).trans B55
        refine bndk hp fun y58 hy58 hp => ?_
        refine zc C55 (rat_Add_c _ X0 (X0_lt _) v24_0 _ ⟨_, _, _, _, _, _, rfl, (((hfv24_0_0.mono Le.orl).mono (Le2 B52 B55)).mono Le.x0), (((hfv24_0_1.mono Le.orl).mono (Le2 B52 B55)).mono Le.x0)⟩ p0.strengthen _ ⟨_, _, _, _, _, _, rfl, ((p0a_h8.mono hc4_).mono Le.x0), ((p0a_h9.mono hc4_).mono Le.x0)⟩ y58 hy58) ?_
        rintro v59 w59 C59 B59 hu59 ⟨uu59_0, rfl, ⟨u59_0_1, u59_0_2, u59_0_3, u59_0_4, u59_0_5, u59_0_6, rfl, u59_0__h0, u59_0__h1⟩⟩
        have hob := u59_0__h0.hlen
        subst hob
        have hob := u59_0__h1.hlen
        subst hob
        refine zz 3 ?_
        refine zx 3 #[.bool y58.1.neg, .slice u59_0_1 y58.1.ln.length u59_0_3, .slice u59_0_4 y58.1.ld.length u59_0_6] C59 ?_
        intro w60 C60 B60
        refine zz 1 ?_
        refine zr' (v := .tuple #[]) ?_
        have hc5_ := (Le3 B52 B55 B59).trans B60
        refine hR53 _ _ _ _ C60 hc5_ (.inr fun _ => selm [1, 2, 4, 5, 6]) ?_
        refine gend (fun w61 Y61 C61 B61 => ?_)
        have hc6_ := hc5_.trans B61
        exact znext (fun a h => H46 (y58.1, u59_0_1, u59_0_3, u59_0_4, u59_0_6) _ a h ⟨_, C61.tail, hc6_, (u59_0__h0.mono (Le.own C55.lt C55.upd.size (Le2 B60 B61))), (u59_0__h1.mono (Le.own C55.lt C55.upd.size (Le2 B60 B61))), hp⟩)
       have hp := iqb hc56 hp
       refine zz 2 ?_
       refine zr' (v := .tuple #[]) ?_
       refine hR53 _ _ _ _ C55 (Le2 B52 B55) (.inr fun _ => selm [1, 2, 4, 5, 6]) ?_
       refine gend (fun w62 Y62 C62 B62 => ?_)
       exact znext (fun a h => H46 (v24_0, a24_0_1, a24_0_2, a24_0_3, a24_0_4) _ a h ⟨_, C62.tail, (Le3 B52 B55 B62), (hfv24_0_0.mono (Le.or (Le3 B52 B55 B62) _)), (hfv24_0_1.mono (Le.or (Le3 B52 B55 B62) _)), hp⟩)
      have hp := iq ht51 hp
      refine gz [25, 26, 27, 28, 29] ?_
      refine gw 30 4 ?_
      refine gci 31 (vs := #[.bool false, .agg #[.bool p0.strengthen.neg, .slice p0a17 p0.strengthen.ln.length p0a18, .slice p0a19 p0.strengthen.ld.length p0a20], .pointer (some ⟨b14, 0, none⟩)]) Tryz.func56 (fun w63 Y63 C63 B63 R64 hR64 => ?_)
      refine zz 2 ?_
      refine zn pn (.cells #[.bool p0.strengthen.neg, .slice p0a17 p0.strengthen.ln.length p0a18, .slice p0a19 p0.strengthen.ld.length p0a20] 28 (0, 0)) C63 ?_
      intro b66 w66 Y66 C66 B66 hu66
      refine zz 9 ?_
      refine zr' (v := .tuple #[]) ?_
      refine hR64 _ _ _ _ C66 (Le2 B63 B66) (.inr fun _ => selm [1, 2, 4, 5, 6]) ?_
      refine gend (fun w67 Y67 C67 B67 => ?_)
      exact znext (fun a h => H46 (v24_0, a24_0_1, a24_0_2, a24_0_3, a24_0_4) _ a h ⟨_, C67.tail, (Le3 B63 B66 B67), (hfv24_0_0.mono (Le.or (Le3 B63 B66 B67) _)), (hfv24_0_1.mono (Le.or (Le3 B63 B66 B67) _)), hp⟩)
     have hp := iq ht50 hp
     refine gz [18, 19, 20, 21, 22, 23, 24, 25, 26, 27, 28, 29] ?_
     refine gw 30 4 ?_
     refine gci 31 (vs := #[.bool false, .agg #[.bool p0.strengthen.neg, .slice p0a17 p0.strengthen.ln.length p0a18, .slice p0a19 p0.strengthen.ld.length p0a20], .pointer (some ⟨b14, 0, none⟩)]) Tryz.func56 (fun w68 Y68 C68 B68 R69 hR69 => ?_)
     refine zz 2 ?_
     refine zn pn (.cells #[.bool p0.strengthen.neg, .slice p0a17 p0.strengthen.ln.length p0a18, .slice p0a19 p0.strengthen.ld.length p0a20] 28 (0, 0)) C68 ?_
     intro b71 w71 Y71 C71 B71 hu71
     refine zz 9 ?_
     refine zr' (v := .tuple #[]) ?_
     refine hR69 _ _ _ _ C71 (Le2 B68 B71) (.inr fun _ => selm [1, 2, 4, 5, 6]) ?_
     refine gend (fun w72 Y72 C72 B72 => ?_)
     exact znext (fun a h => H46 (v24_0, a24_0_1, a24_0_2, a24_0_3, a24_0_4) _ a h ⟨_, C72.tail, (Le3 B68 B71 B72), (hfv24_0_0.mono (Le.or (Le3 B68 B71 B72) _)), (hfv24_0_1.mono (Le.or (Le3 B68 B71 B72) _)), hp⟩)
    have hp := iqb hc49 hp
    refine gz [11, 12, 13, 14, 15, 16, 17, 18, 19, 20, 21, 22, 23, 24, 25, 26, 27, 28, 29] ?_
    refine gw 30 4 ?_
    refine gci 31 (vs := #[.bool false, .agg #[.bool p0.strengthen.neg, .slice p0a17 p0.strengthen.ln.length p0a18, .slice p0a19 p0.strengthen.ld.length p0a20], .pointer (some ⟨b14, 0, none⟩)]) Tryz.func56 (fun w73 Y73 C73 B73 R74 hR74 => ?_)
    refine zz 2 ?_
    refine zn pn (.cells #[.bool p0.strengthen.neg, .slice p0a17 p0.strengthen.ln.length p0a18, .slice p0a19 p0.strengthen.ld.length p0a20] 28 (0, 0)) C73 ?_
    intro b76 w76 Y76 C76 B76 hu76
    refine zz 9 ?_
    refine zr' (v := .tuple #[]) ?_
    refine hR74 _ _ _ _ C76 (Le2 B73 B76) (.inr fun _ => selm [1, 2, 4, 5, 6]) ?_
    refine gend (fun w77 Y77 C77 B77 => ?_)
    exact znext (fun a h => H46 (v24_0, a24_0_1, a24_0_2, a24_0_3, a24_0_4) _ a h ⟨_, C77.tail, (Le3 B73 B76 B77), (hfv24_0_0.mono (Le.or (Le3 B73 B76 B77) _)), (hfv24_0_1.mono (Le.or (Le3 B73 B76 B77) _)), hp⟩)
   have hp := iqb hc48 hp
   refine gz [8, 9, 10, 11, 12, 13, 14, 15, 16, 17, 18, 19, 20, 21, 22, 23, 24, 25, 26, 27, 28, 29] ?_
   refine gw 30 4 ?_
   refine gci 31 (vs := #[.bool false, .agg #[.bool p0.strengthen.neg, .slice p0a17 p0.strengthen.ln.length p0a18, .slice p0a19 p0.strengthen.ld.length p0a20], .pointer (some ⟨b14, 0, none⟩)]) Tryz.func56 (fun w78 Y78 C78 B78 R79 hR79 => ?_)
   refine zz 2 ?_
   refine zn pn (.cells #[.bool p0.strengthen.neg, .slice p0a17 p0.strengthen.ln.length p0a18, .slice p0a19 p0.strengthen.ld.length p0a20] 28 (0, 0)) C78 ?_
   intro b81 w81 Y81 C81 B81 hu81
   refine zz 9 ?_
   refine zr' (v := .tuple #[]) ?_
   refine hR79 _ _ _ _ C81 (Le2 B78 B81) (.inr fun _ => selm [1, 2, 4, 5, 6]) ?_
   refine gend (fun w82 Y82 C82 B82 => ?_)
   exact znext (fun a h => H46 (v24_0, a24_0_1, a24_0_2, a24_0_3, a24_0_4) _ a h ⟨_, C82.tail, (Le3 B78 B81 B82), (hfv24_0_0.mono (Le.or (Le3 B78 B81 B82) _)), (hfv24_0_1.mono (Le.or (Le3 B78 B81 B82) _)), hp⟩)
  have hp := iqb hc47 hp
  refine gz [4, 5, 6, 7, 8, 9, 10, 11, 12, 13, 14, 15, 16, 17, 18, 19, 20, 21, 22, 23, 24, 25, 26, 27, 28, 29] ?_
  refine gw 30 4 ?_
  refine gci 31 (vs := #[.bool false, .agg #[.bool p0.strengthen.neg, .slice p0a17 p0.strengthen.ln.length p0a18, .slice p0a19 p0.strengthen.ld.length p0a20], .pointer (some ⟨b14, 0, none⟩)]) Tryz.func56 (fun w83 Y83 C83 B83 R84 hR84 => ?_)
  refine zz 2 ?_
  refine zn pn (.cells #[.bool p0.strengthen.neg, .slice p0a17 p0.strengthen.ln.length p0a18, .slice p0a19 p0.strengthen.ld.length p0a20] 28 (0, 0)) C83 ?_
  intro b86 w86 Y86 C86 B86 hu86
  refine zz 9 ?_
  refine zr' (v := .tuple #[]) ?_
  refine hR84 _ _ _ _ C86 (Le2 B83 B86) (.inr fun _ => selm [1, 2, 4, 5, 6]) ?_
  refine gend (fun w87 Y87 C87 B87 => ?_)
  exact znext (fun a h => H46 (v24_0, a24_0_1, a24_0_2, a24_0_3, a24_0_4) _ a h ⟨_, C87.tail, (Le3 B83 B86 B87), (hfv24_0_0.mono (Le.or (Le3 B83 B86 B87) _)), (hfv24_0_1.mono (Le.or (Le3 B83 B86 B87) _)), hp⟩)
 intro K88 H88
 refine zz 5 ?_
 refine zo 5 C23 ?_
 refine zci (vs := #[.bool ((p2) != 0), .agg #[.bool p0.alert.neg, .slice p0a13 p0.alert.ln.length p0a14, .slice p0a15 p0.alert.ld.length p0a16], .pointer (some ⟨b14, 0, none⟩)]) Tryz.func56 (fun R89 hR89 => ?_)
 refine zz 2 ?_
 refine zn pn (.cells #[.bool p0.alert.neg, .slice p0a13 p0.alert.ln.length p0a14, .slice p0a15 p0.alert.ld.length p0a16] 28 (0, 0)) C23 ?_
 intro b91 w91 Y91 C91 B91 hu91
 refine zz 7 ?_
 refine zb 5 (b := ((p2) != 0)) (fun hc92 => ?_) (fun hc92 => ?_)
 ·
  have hp := ipb hc92 hp
  refine zz 2 ?_
  refine zo 3 C91 ?_
  refine zo 0 C91 ?_
  have hc7_ := (Le9 B3 B5 B7 B10 B14 B15 B21 B22 B23).trans B91
  refine bndk hp fun y94 hy94 hp => ?_
  refine zc C91 (rat_Add_c _ X0 (X0_lt _) Raw.zero _ ⟨_, _, _, _, _, _, rfl, Limbs.nil0, Limbs.nil0⟩ p0.alert _ ⟨_, _, _, _, _, _, rfl, ((p0a_h6.mono hc7_).mono Le.x0), ((p0a_h7.mono hc7_).mono Le.x0)⟩ y94 hy94) ?_ (vs := #[.agg #[.bool false, .slice none 0 0, .slice none 0 0], .agg #[.bool p0.alert.neg, .slice p0a13 p0.alert.ln.length p0a14, .slice p0a15 p0.alert.ld.length p0a16]])
  rintro v95 w95 C95 B95 hu95 ⟨uu95_0, rfl, ⟨u95_0_1, u95_0_2, u95_0_3, u95_0_4, u95_0_5, u95_0_6, rfl, u95_0__h0, u95_0__h1⟩⟩
  have hob := u95_0__h0.hlen
  subst hob
  have hob := u95_0__h1.hlen
  subst hob
  refine zz 3 ?_
  refine zx 3 #[.bool y94.1.neg, .slice u95_0_1 y94.1.ln.length u95_0_3, .slice u95_0_4 y94.1.ld.length u95_0_6] C95 ?_
  intro w96 C96 B96
  refine zz 1 ?_
  refine zr' (v := .tuple #[]) ?_
  refine hR89 _ _ ?_
  refine zz 1 ?_
  exact znext (fun a h => H88 (y94.1, u95_0_1, u95_0_3, u95_0_4, u95_0_6) _ a h ⟨_, C96.tail, (Le3 B91 B95 B96), (u95_0__h0.mono (Le.own C91.lt C91.upd.size B96)), (u95_0__h1.mono (Le.own C91.lt C91.upd.size B96)), hp⟩)
 have hp := iqb hc92 hp
 refine zz 2 ?_
 refine zr' (v := .tuple #[]) ?_
 refine hR89 _ _ ?_
 refine zz 1 ?_
 exact znext (fun a h => H88 (Raw.zero, none, 0, none, 0) _ a h ⟨_, C91.tail, B91, Limbs.nil0, Limbs.nil0, hp⟩)
end Go.Proofs.YtjnbipmlmafahaaGreat
/- slices.Sorted(maps.Keys(m)) at a map from ints that a call owns, by the library's contracts. By an AI agent. -/
namespace Go.Proofs.YtjnbipmlmafahaaGreat
open Go Go.Gv Go.RowKit Go.Sort Go.Maps Go.Shelf
set_option maxRecDepth 100000
set_option maxHeartbeats 1000000
def keysARen : Go.Shelf.Ren := ⟨fun | 7 => 97 | 10 => 137 | n => n, fun | 23 => 128 | 26 => 3 | 3 => 28 | 28 => 135 | 0 => 0 | 27 => 134 | 33 => 139 | 4 => 4 | n => n, fun n => n⟩
theorem keysALays : Go.Proofs.SlLaysZI.n7 Tryz.prog keysARen := { mixed := by kernel_rfl, f7 := ⟨"maps.Keys[map[int]clearway/api.Rat,int,clearway/api.Rat]", by decide, Tryz.func97.trans (congrArg some (by kernel_rfl))⟩, f10 := ⟨"maps.Keys[map[int]clearway/api.Rat,int,clearway/api.Rat]$1", by decide, Tryz.func137.trans (congrArg some (by kernel_rfl))⟩, t0 := Tryz.underlying0, a0 := Tryz.isAgg0, z0 := Tryz.sizeOf0, v0 := Tryz.zeroValue0, t4 := Tryz.underlying4, a4 := Tryz.isAgg4, z4 := Tryz.sizeOf4, v4 := Tryz.zeroValue4, t23 := Tryz.underlying128, a23 := Tryz.isAgg128, z23 := Tryz.sizeOf128, v23 := Tryz.zeroValue128, t26 := Tryz.underlying3, a26 := Tryz.isAgg3, z26 := Tryz.sizeOf3, v26 := Tryz.zeroValue3, t27 := Tryz.underlying134, a27 := Tryz.isAgg134, z27 := Tryz.sizeOf134, v27 := Tryz.zeroValue134, t28 := Tryz.underlying135, a28 := Tryz.isAgg135, z28 := Tryz.sizeOf135, v28 := Tryz.zeroValue135, t33 := Tryz.underlying139, a33 := Tryz.isAgg139, z33 := Tryz.sizeOf139, v33 := Tryz.zeroValue139 }
def sortedARen : Go.Shelf.Ren := ⟨fun | 6 => 96 | 8 => 135 | 9 => 136 | 11 => 162 | 13 => 164 | 12 => 163 | 23 => 182 | 24 => 183 | 14 => 173 | 15 => 174 | 16 => 175 | 17 => 176 | 18 => 177 | 19 => 178 | 20 => 179 | 21 => 180 | 22 => 181 | 25 => 190 | 26 => 191 | 27 => 192 | 28 => 193 | 29 => 194 | 30 => 185 | 31 => 197 | n => n, fun | 26 => 3 | 28 => 135 | 24 => 22 | 0 => 0 | 3 => 3 | 37 => 189 | 48 => 179 | 50 => 158 | 4 => 4 | 40 => 212 | 39 => 211 | 45 => 216 | 5 => 5 | 9 => 9 | 51 => 223 | 55 => 227 | 57 => 230 | 58 => 231 | 33 => 139 | n => n, fun n => n⟩
theorem sortedALays : Go.Proofs.SlLaysZI.n6 Tryz.prog sortedARen := { mixed := by kernel_rfl, f6 := ⟨"slices.Sorted[int]", by decide, Tryz.func96.trans (congrArg some (by kernel_rfl))⟩, f8 := ⟨"slices.Collect[int]", by decide, Tryz.func135.trans (congrArg some (by kernel_rfl))⟩, f11 := ⟨"slices.AppendSeq[[]int,int]", by decide, Tryz.func162.trans (congrArg some (by kernel_rfl))⟩, t0 := Tryz.underlying0, a0 := Tryz.isAgg0, z0 := Tryz.sizeOf0, v0 := Tryz.zeroValue0, t24 := Tryz.underlying22, a24 := Tryz.isAgg22, z24 := Tryz.sizeOf22, v24 := Tryz.zeroValue22, t26 := Tryz.underlying3, a26 := Tryz.isAgg3, z26 := Tryz.sizeOf3, v26 := Tryz.zeroValue3, t28 := Tryz.underlying135, a28 := Tryz.isAgg135, z28 := Tryz.sizeOf135, v28 := Tryz.zeroValue135, i26 := by kernel_rfl }
def sortARen : Go.Shelf.Ren := ⟨fun | 5 => 136 | 8 => 164 | 7 => 163 | 19 => 182 | 20 => 183 | 10 => 173 | 11 => 174 | 12 => 175 | 13 => 176 | 14 => 177 | 15 => 178 | 16 => 179 | 17 => 180 | 18 => 181 | 30 => 190 | 31 => 191 | 32 => 192 | 33 => 193 | 34 => 194 | 35 => 185 | 40 => 197 | n => n, fun | 23 => 22 | 25 => 3 | 3 => 3 | 32 => 189 | 22 => 22 | 0 => 0 | 44 => 179 | 46 => 158 | 4 => 4 | 36 => 212 | 35 => 211 | 41 => 216 | 5 => 5 | 9 => 9 | 53 => 223 | 57 => 227 | 63 => 230 | 64 => 231 | n => n, fun n => n⟩
theorem sortALays : Go.Proofs.SlLaysM.n5 Tryz.prog sortARen := { mixed := by kernel_rfl, f5 := ⟨"slices.Sort[[]int,int]", by decide, Tryz.func136.trans (congrArg some (by kernel_rfl))⟩, f7 := ⟨"slices.pdqsortOrdered[int]", by decide, Tryz.func163.trans (congrArg some (by kernel_rfl))⟩, f8 := Tryz.func164.trans (congrArg some (by kernel_rfl)), f10 := ⟨"slices.insertionSortOrdered[int]", by decide, Tryz.func173.trans (congrArg some (by kernel_rfl))⟩, f11 := ⟨"slices.heapSortOrdered[int]", by decide, Tryz.func174.trans (congrArg some (by kernel_rfl))⟩, f12 := ⟨"slices.breakPatternsOrdered[int]", by decide, Tryz.func175.trans (congrArg some (by kernel_rfl))⟩, f13 := ⟨"slices.choosePivotOrdered[int]", by decide, Tryz.func176.trans (congrArg some (by kernel_rfl))⟩, f14 := ⟨"slices.reverseRangeOrdered[int]", by decide, Tryz.func177.trans (congrArg some (by kernel_rfl))⟩, f15 := ⟨"slices.partialInsertionSortOrdered[int]", by decide, Tryz.func178.trans (congrArg some (by kernel_rfl))⟩, f16 := ⟨"cmp.Less[int]", by decide, Tryz.func179.trans (congrArg some (by kernel_rfl))⟩, f17 := ⟨"slices.partitionEqualOrdered[int]", by decide, Tryz.func180.trans (congrArg some (by kernel_rfl))⟩, f18 := ⟨"slices.partitionOrdered[int]", by decide, Tryz.func181.trans (congrArg some (by kernel_rfl))⟩, f19 := Tryz.func182.trans (congrArg some (by kernel_rfl)), f20 := Tryz.func183.trans (congrArg some (by kernel_rfl)), f30 := ⟨"slices.siftDownOrdered[int]", by decide, Tryz.func190.trans (congrArg some (by kernel_rfl))⟩, f31 := Tryz.func191.trans (congrArg some (by kernel_rfl)), f32 := Tryz.func192.trans (congrArg some (by kernel_rfl)), f33 := ⟨"slices.medianAdjacentOrdered[int]", by decide, Tryz.func193.trans (congrArg some (by kernel_rfl))⟩, f34 := ⟨"slices.medianOrdered[int]", by decide, Tryz.func194.trans (congrArg some (by kernel_rfl))⟩, f35 := ⟨"cmp.isNaN[int]", by decide, Tryz.func185.trans (congrArg some (by kernel_rfl))⟩, f40 := ⟨"slices.order2Ordered[int]", by decide, Tryz.func197.trans (congrArg some (by kernel_rfl))⟩, t0 := Tryz.underlying0, a0 := Tryz.isAgg0, z0 := Tryz.sizeOf0, v0 := Tryz.zeroValue0, t3 := Tryz.underlying3, a3 := Tryz.isAgg3, z3 := Tryz.sizeOf3, v3 := Tryz.zeroValue3, t4 := Tryz.underlying4, a4 := Tryz.isAgg4, z4 := Tryz.sizeOf4, v4 := Tryz.zeroValue4, t5 := Tryz.underlying5, a5 := Tryz.isAgg5, z5 := Tryz.sizeOf5, v5 := Tryz.zeroValue5, t9 := Tryz.underlying9, a9 := Tryz.isAgg9, z9 := Tryz.sizeOf9, v9 := Tryz.zeroValue9, t22 := Tryz.underlying22, a22 := Tryz.isAgg22, z22 := Tryz.sizeOf22, v22 := Tryz.zeroValue22, t23 := Tryz.underlying22, a23 := Tryz.isAgg22, z23 := Tryz.sizeOf22, v23 := Tryz.zeroValue22, t25 := Tryz.underlying3, a25 := Tryz.isAgg3, z25 := Tryz.sizeOf3, v25 := Tryz.zeroValue3, t32 := Tryz.underlying189, a32 := Tryz.isAgg189, z32 := Tryz.sizeOf189, v32 := Tryz.zeroValue189, t35 := Tryz.underlying211, a35 := Tryz.isAgg211, z35 := Tryz.sizeOf211, v35 := Tryz.zeroValue211, t36 := Tryz.underlying212, a36 := Tryz.isAgg212, z36 := Tryz.sizeOf212, v36 := Tryz.zeroValue212, t41 := Tryz.underlying216, a41 := Tryz.isAgg216, z41 := Tryz.sizeOf216, v41 := Tryz.zeroValue216, t44 := Tryz.underlying179, a44 := Tryz.isAgg179, z44 := Tryz.sizeOf179, v44 := Tryz.zeroValue179, t46 := Tryz.underlying158, a46 := Tryz.isAgg158, z46 := Tryz.sizeOf158, v46 := Tryz.zeroValue158, t53 := Tryz.underlying223, a53 := Tryz.isAgg223, z53 := Tryz.sizeOf223, v53 := Tryz.zeroValue223, t57 := Tryz.underlying227, a57 := Tryz.isAgg227, z57 := Tryz.sizeOf227, v57 := Tryz.zeroValue227, t63 := Tryz.underlying230, a63 := Tryz.isAgg230, z63 := Tryz.sizeOf230, v63 := Tryz.zeroValue230, t64 := Tryz.underlying231, a64 := Tryz.isAgg231, z64 := Tryz.sizeOf231, v64 := Tryz.zeroValue231 }

theorem sortsIn (m : Nat) : AnyZI.SortsIn Tryz.prog sortedARen Fence.wide m :=
  ⟨fun blk off cap ss W hH hblk hsz => callsIn_wide.2 (AnyM.slices_Sort_int sortALays blk off cap ss W hH hblk hsz), fun p cap W => callsIn_wide.2 (AnyM.slices_Sort_int_none sortALays p cap W)⟩
abbrev R0 : Value → Option (DataW Unit × List MemPlace) := fun _ => some (.lit (.bool true), [])
theorem ents_key : ∀ (l : List (Int × Value)) (b : Nat), (ents l b).map (·.key) = l.map fun p => Value.int .i64 p.1
  | [], _ => rfl
  | _ :: l, b => by simp [ents, ents_key l]
theorem ents_born : ∀ (l : List (Int × Value)) (b : Nat), (ents l b).map (·.born) = List.range' b l.length
  | [], _ => rfl
  | _ :: l, b => by simp [ents, ents_born l, List.range'_succ]
theorem rd_ent {P : Program} {k : TypeId} (hk : P.underlying k = some (.int .i64)) {z : Int} {v : Value} {b : Nat} (hz : -9223372036854775808 ≤ z ∧ z ≤ 9223372036854775807) : Go.WideElems.rd P k R0 ⟨.int .i64 z, v, b⟩ = some (.int .i64 z, .lit (.bool true)) :=
  Go.WideElems.rd_mk (R := R0) (val := v) (born := b) (yv := (.lit (.bool true), [])) (keyOf_int_mk (a := z) hk (by simp [Lit.wf, IntKind.min, IntKind.max, hz, IntKind.bits, IntKind.signed])) rfl
theorem ents_reads {P : Program} {k : TypeId} (hk : P.underlying k = some (.int .i64)) : ∀ (l : List (Int × Value)) (b : Nat), (∀ x ∈ l, -9223372036854775808 ≤ x.1 ∧ x.1 ≤ 9223372036854775807) → ∀ x ∈ ents l b, ∃ z, Go.WideElems.rd P k R0 x = some (.int .i64 z, .lit (.bool true))
  | [], _, _, x, hx => by cases hx
  | p :: l, b, h, x, hx => by
    rcases List.mem_cons.1 hx with rfl | hx
    · exact ⟨p.1, rd_ent hk (h p List.mem_cons_self)⟩
    · exact ents_reads hk l (b + 1) (fun x hx => h x (List.mem_cons_of_mem _ hx)) x hx
theorem ents_rg {P : Program} {k : TypeId} (hk : P.underlying k = some (.int .i64)) : ∀ (l : List (Int × Value)) (b : Nat), (∀ x ∈ l, -9223372036854775808 ≤ x.1 ∧ x.1 ≤ 9223372036854775807) → ((ents l b).map (Go.WideElems.rg P k R0)).map (fun p => Go.intOf p.1) = l.map Prod.fst
  | [], _, _ => rfl
  | p :: l, b, h => by
    rw [ents, List.map_cons, List.map_cons, List.map_cons, ents_rg hk l (b + 1) (fun x hx => h x (List.mem_cons_of_mem _ hx)), Go.WideElems.rg_of (rd_ent hk (h p List.mem_cons_self))]
    rfl
theorem owns_mapO {P : Program} {k : TypeId} {w : World} {b : Nat} {es : List (Int × Value)} (hk : P.underlying k = some (.int .i64)) (hb : w.heap[b]? = some (mapO es)) (hnd : (es.map Prod.fst).Nodup)
    (hr : ∀ x ∈ es, -9223372036854775808 ≤ x.1 ∧ x.1 ≤ 9223372036854775807) (hl : es.length ≤ maxLen) : w.ownsMap P k R0 b es.length (.map (((ents es 0).map (Go.WideElems.rg P k R0)).foldr DataW.insert [])) := by
  refine ⟨(ents es 0).toArray, es.length, hb, ⟨by simpa [ents_length] using hl, ⟨fun x hx => ?_, ?_, ?_⟩, fun x hx => ?_⟩, by simp [ents_length], rfl⟩
  · have h1 : x.born ∈ (ents es 0).map (·.born) := List.mem_map_of_mem (by simpa using hx)
    rw [ents_born] at h1
    have := List.mem_range'.1 h1
    omega
  · show ((ents es 0).map (·.born)).Nodup
    rw [ents_born]
    exact List.nodup_range'
  · show ((ents es 0).map (·.key)).Nodup
    rw [ents_key]
    have h2 : es.map (fun p => Value.int .i64 p.1) = (es.map Prod.fst).map (Value.int .i64) := by simp
    rw [h2]
    exact List.Pairwise.map _ (fun a b h e => h (by simpa using e)) hnd
  · obtain ⟨z, hz⟩ := ents_reads hk es 0 hr x (by simpa using hx)
    exact ⟨_, hz⟩
theorem keys_perm {P : Program} {k : TypeId} {es : List (Int × Value)} (hk : P.underlying k = some (.int .i64)) (hr : ∀ x ∈ es, -9223372036854775808 ≤ x.1 ∧ x.1 ≤ 9223372036854775807) :
    (intKeys (DataW.map (((ents es 0).map (Go.WideElems.rg P k R0)).foldr DataW.insert []))).Perm (es.map Prod.fst) := by
  show ((((ents es 0).map (Go.WideElems.rg P k R0)).foldr DataW.insert []).map fun p => Go.intOf p.1).Perm _
  rw [← ents_rg hk es 0 hr]
  exact (Go.WideShapes.sorted_perm _).map _
theorem size_mapO {P : Program} {k : TypeId} (es : List (Int × Value)) : Maps.size (DataW.map (((ents es 0).map (Go.WideElems.rg P k R0)).foldr DataW.insert [])) = es.length := by
  show (((ents es 0).map (Go.WideElems.rg P k R0)).foldr DataW.insert []).length = es.length
  rw [length_sorted]
  simp [ents_length]
/-- slices.Sorted(maps.Keys(m)): the keys, ascending. -/
theorem sortedKeys_c {α : Type} {V : Rd → Value → α → Prop} {r : Rd} {l : List (Int × α)} (w : World) {b b2 : Nat} {es : List (Int × Value)} (hb : w.heap[b]? = some (mapO es)) (hb2 : w.heap[b2]? = some (.cells #[.map (some b)] 128 (0, 0))) (hR : MapR V r es l)
    (hl : l.length * 8 ≤ 140737488355328) (y : List Int) (hp : some (sortZ (l.map Prod.fst)) = some y) :
    Calls Tryz.prog 96 #[.func (.func 137) #[] #[.pointer (some ⟨b2, 0, none⟩)]] w (Ret E0 w fun w' v => SV Ints (rd w' (old w)) v y) := by
  obtain rfl := Option.some.inj hp
  have hlen := hR.len
  have hk : Tryz.prog.underlying 3 = some (.int .i64) := by kernel_rfl
  have hown := owns_mapO hk hb hR.nd hR.rng (by simp only [maxLen]; omega)
  have hlt2 : b2 < w.heap.size := by
    rcases Nat.lt_or_ge b2 w.heap.size with h | h
    · exact h
    · rw [Array.getElem?_eq_none h] at hb2; cases hb2
  have hseq : SeqGives Fence.wide 2 Tryz.prog 137 #[.pointer (some ⟨b2, 0, none⟩)] encZ (fun ss => ss.Perm (intKeys _)) (Maps.size _) w :=
    AnyZI.keys_gives (ρ := keysARen) { keysALays with } Fence.wide _ trivial rfl (by omega) b2 b es.length _ _ hlt2 (by simp [World.cell?, hb2]) hown
  have cS := AnyZI.sorted_in sortedALays Fence.wide 5 trivial trivial trivial trivial rfl (by omega) (sortsIn _) (enters_of Tryz.func136 (by kernel_rfl) rfl) 137 #[.pointer (some ⟨b2, 0, none⟩)] trivial (enters_of Tryz.func137 (by kernel_rfl) rfl) _ _ (by rw [size_mapO]; simp only [maxLen]; omega) (by rw [size_mapO]; omega) _ hseq
  refine ((callsIn_wide (n := 5)).1 cS).mono ?_
  rintro e w' ⟨v, ss, rfl, hperm, hrow, hnil, hbel⟩
  refine ⟨Upd.of_below hbel, v, rfl, ?_⟩
  have hs : ss.mergeSort (fun x y => decide (x ≤ y)) = sortZ (l.map Prod.fst) := by
    refine sorted_unique (((List.mergeSort_perm _ _).trans hperm).trans ((keys_perm hk hR.rng).trans (hR.keys ▸ (sortZ_perm _).symm))) ?_ (sortZ_sorted _)
    have h1 := List.pairwise_mergeSort (le := fun x y : Int => decide (x ≤ y)) (fun a b c h1 h2 => by simp only [decide_eq_true_eq] at *; omega) (fun a b => by simp only [Bool.or_eq_true, decide_eq_true_eq]; omega) ss
    exact h1.imp fun h => by simpa using h
  rw [hs] at hrow
  obtain ⟨hxl, hrow⟩ := hrow
  rcases hrow with ⟨rfl, h0⟩ | ⟨g, cap, cur, rfl, hbase, hg, hn, hcap, hsz, hxs⟩
  · have h1 : (sortZ (l.map Prod.fst)) = [] := List.eq_nil_of_length_eq_zero (by simpa [h0] using hxl)
    rw [h1]
    exact ⟨none, 0, rfl, SlR.nil none (by decide)⟩
  · have hle : ss.length = (sortZ (l.map Prod.fst)).length := by simpa using hxl.symm
    rw [hle]
    refine ⟨_, cap, rfl, ⟨rfl, by omega, by simp only [maxLen] at hcap; omega, .inr ⟨g, 0, rfl, fun i x hi => ?_⟩⟩⟩
    intro j v hv
    have hil := (List.getElem?_eq_some_iff.1 hi).1
    cases j with
    | succ j => simp at hv
    | zero =>
      obtain rfl : Value.int .i64 x = v := by simpa using hv
      have hc : cur[i]? = some (.int .i64 x) := by
        have h3 : (cur.toList.take (ss.length * 1))[i]? = some (.int .i64 x) := by
          rw [hxs]
          simp [hi]
        rw [List.getElem?_take] at h3
        split at h3
        · simpa using h3
        · cases h3
      rw [add_mk]
      refine rd_of ((cell_of_row w' g _ cur _ _ hg).trans (by simpa using hc)) (Nat.not_lt.2 hbase) (frozen_of_row w' g _ cur _ hg)
end Go.Proofs.YtjnbipmlmafahaaGreat
namespace Go.Proofs.YtjnbipmlmafahaaGreat
open Go Go.Gv Go.RowKit
set_option maxRecDepth 100000
set_option maxHeartbeats 1000000
noncomputable def dynamics_spread_l72 (p0 : ModelD) (p4 : Int) (y42 : Raw × Int) (Jx72 : (List (Int × Raw)) → Option ((List Out) × Int)) : List WeightD → (List (Int × Raw)) → Option ((List Out) × Int)
  | [], v72_1 => Jx72 v72_1
  | x72 :: r72, v72_1 => (rat_Mul_p y42.1 x72.w).bind fun y79 => (some (getP (IntKind.i64.wrap ((IntKind.i64.wrap ((x72.vertex) * (p0.advisories.length : Int))) + p4)) Raw.zero v72_1)).bind fun x87 => (rat_Add_p x87 y79.1).bind fun y89 => grd (-9223372036854775808 ≤ (IntKind.i64.wrap ((IntKind.i64.wrap ((x72.vertex) * (p0.advisories.length : Int))) + p4)) ∧ (IntKind.i64.wrap ((IntKind.i64.wrap ((x72.vertex) * (p0.advisories.length : Int))) + p4)) ≤ 9223372036854775807) <| dynamics_spread_l72 p0 p4 y42 Jx72 r72 (putP (IntKind.i64.wrap ((IntKind.i64.wrap ((x72.vertex) * (p0.advisories.length : Int))) + p4)) y89.1 v72_1)
noncomputable def dynamics_spread_l35 (p0 : ModelD) (p1 : Int) (p2 : Int) (p3 : Int) (p4 : Int) (x27 : NoiseD) (J29 : (List (Int × Raw)) → Option ((List Out) × Int)) : List NoiseD → (List (Int × Raw)) → Option ((List Out) × Int)
  | [], v35_1 => J29 v35_1
  | x35 :: r35, v35_1 => (rat_Mul_p x27.p x35.p).bind fun y42 => (dynamics_grid_p p0).bind fun y56 => (dynamics_respond_p p0 (p2) (p4)).bind fun y59 => (interp_Weights_p y56 ([IntKind.i64.wrap ((IntKind.i64.wrap ((p1) + p3)) - p2), IntKind.i64.wrap ((y59) + x27.delta), IntKind.i64.wrap ((p3) + x35.delta)])).bind fun y63 => if ((y63.2) != 0) = true then (some (([] : List Out), y63.2)) else (lt (fun (v72_1 : List (Int × Raw)) => dynamics_spread_l35 p0 p1 p2 p3 p4 x27 J29 r35 v72_1) fun Jx72 => dynamics_spread_l72 p0 p4 y42 Jx72 (y63.1.drop 0) v35_1)
noncomputable def dynamics_spread_l117 (v27_1 : List (Int × Raw)) (J104 : (List Out) → Option ((List Out) × Int)) : List Int → (List Out) → Option ((List Out) × Int)
  | [], v117_0 => J104 v117_0
  | x117 :: r117, v117_0 => (some (getP (x117) Raw.zero v27_1)).bind fun x123 => grd ((v117_0.length + 1) * 64 ≤ 140737488355328) <| dynamics_spread_l117 v27_1 J104 r117 (v117_0 ++ [(Out.mk x117 x123)])
noncomputable def dynamics_spread_l27 (p0 : ModelD) (p1 : Int) (p2 : Int) (p3 : Int) (p4 : Int) : List NoiseD → (List (Int × Raw)) → Option ((List Out) × Int)
  | [], v27_1 => if (v27_1.length : Int) > 64 then (some (([] : List Out), 10)) else (lt (fun (v104_0 : List Out) => some (v104_0, 0)) fun J104 => grd (v27_1.length * 8 ≤ 140737488355328) <| (some (sortZ (v27_1.map Prod.fst))).bind fun y115 => dynamics_spread_l117 v27_1 J104 (y115.drop 0) ([] : List Out))
  | x27 :: r27, v27_1 => lt (fun (v29_0 : List (Int × Raw)) => dynamics_spread_l27 p0 p1 p2 p3 p4 r27 v29_0) fun J29 => dynamics_spread_l35 p0 p1 p2 p3 p4 x27 J29 (p0.otherNoise.drop 0) v27_1
noncomputable def dynamics_spread_p (p0 : ModelD) (p1 : Int) (p2 : Int) (p3 : Int) (p4 : Int) : Option ((List Out) × Int) :=
  dynamics_spread_l27 p0 p1 p2 p3 p4 (p0.ownNoise.drop 0)  ([] : List (Int × Raw))
theorem dynamics_spread_c (w : World) (X : Hid) (hX : ∀ k o, X k o → k < w.heap.size) (p0 : ModelD) (vp0 : Value) (hp0 : ModelDV (rd w X) vp0 p0) (p1 : Int) (p2 : Int) (p3 : Int) (p4 : Int) (y : (List Out) × Int) (hp : dynamics_spread_p p0 p1 p2 p3 p4 = some y) : Calls Tryz.prog 58 #[vp0, .int .i64 p1, .int .i64 p2, .int .i64 p3, .int .i64 p4] w (Ret E0 w fun w' v => ∃ uu0, v = .tuple #[uu0, .int .i64 y.2] ∧ SV OutsR (rd w' (old w)) uu0 y.1) := by
 have hVp0 := hp0
 refine ModelDV.op hp0 fun p0a1 p0a2 p0a3 p0a4 p0a5 p0a6 p0a7 p0a8 p0a9 p0a10 p0a11 p0a12 p0a13 p0a14 p0a15 p0a16 p0a17 p0a18 p0a19 p0a20 p0a21 p0a22 p0a23 p0a24 hv9 p0a_h0 p0a_h1 p0a_h2 p0a_h3 p0a_h4 p0a_h5 p0a_h6 p0a_h7 p0a_h8 p0a_h9 p0a_h10 p0a_h11 => ?_
 subst hv9
 unfold dynamics_spread_p at hp
 refine zenM Tryz.func58 ?_
 have C0 : St E0 w X w X [] := St.start hX
 refine zz 2 ?_
 refine zn pn (.cells #[.slice p0a1 p0.height.length p0a2, .slice p0a3 p0.own.length p0a4, .slice p0a5 p0.other.length p0a6, .slice p0a7 p0.advisories.length p0a8, .int .i64 p0.pull, .int .i64 p0.near, .int .i64 p0.steps, .slice p0a9 p0.ownNoise.length p0a10, .slice p0a11 p0.otherNoise.length p0a12, .bool p0.alert.neg, .slice p0a13 p0.alert.ln.length p0a14, .slice p0a15 p0.alert.ld.length p0a16, .bool p0.strengthen.neg, .slice p0a17 p0.strengthen.ln.length p0a18, .slice p0a19 p0.strengthen.ld.length p0a20, .bool p0.reversal.neg, .slice p0a21 p0.reversal.ln.length p0a22, .slice p0a23 p0.reversal.ld.length p0a24] 30 (0, 0)) C0 ?_
 intro b3 w3 Y3 C3 B3 hu3
 refine zn pn (.cells #[.int .i64 p1] 3 (0, 0)) C3 ?_
 intro b5 w5 Y5 C5 B5 hu5
 refine zn pn (.cells #[.int .i64 p2] 3 (0, 0)) C5 ?_
 intro b7 w7 Y7 C7 B7 hu7
 refine zn pn (.cells #[.int .i64 p3] 3 (0, 0)) C7 ?_
 intro b9 w9 Y9 C9 B9 hu9
 refine zn pn (.cells #[.int .i64 p4] 3 (0, 0)) C9 ?_
 intro b11 w11 Y11 C11 B11 hu11
 refine zn pn (.cells #[.slice none 0 0] 42 (0, 0)) C11 ?_
 intro b13 w13 Y13 C13 B13 hu13
 refine zn pn (.cells #[.int .i64 0] 34 (0, 0)) C13 ?_
 intro b15 w15 Y15 C15 B15 hu15
 refine zz 4 ?_
 refine zop (at1 [] Tryz.f58 [1, 0]) 0 (fun a16 _ G16 hz16 => op_new (d := 25) (fun b => .map (some b)) (mapO []) G16 kr C15 kw ?_)
 intro b17 w17 Y17 C17 B17 hu17 a18 G18
 refine hz16 G18 ?_
 refine zn pn (.cells #[.map none] 128 (0, 0)) C17 ?_
 intro b20 w20 Y20 C20 B20 hu20
 refine zx 0 #[.map (some b17)] C20 ?_
 intro w21 C21 B21
 refine zz 5 ?_
 refine zo 8 C21 ?_
 refine zci (vs := #[.agg #[.slice p0a1 p0.height.length p0a2, .slice p0a3 p0.own.length p0a4, .slice p0a5 p0.other.length p0a6, .slice p0a7 p0.advisories.length p0a8, .int .i64 p0.pull, .int .i64 p0.near, .int .i64 p0.steps, .slice p0a9 p0.ownNoise.length p0a10, .slice p0a11 p0.otherNoise.length p0a12, .bool p0.alert.neg, .slice p0a13 p0.alert.ln.length p0a14, .slice p0a15 p0.alert.ld.length p0a16, .bool p0.strengthen.neg, .slice p0a17 p0.strengthen.ln.length p0a18, .slice p0a19 p0.strengthen.ld.length p0a20, .bool p0.reversal.neg, .slice p0a21 p0.reversal.ln.length p0a22, .slice p0a23 p0.reversal.ld.length p0a24]]) Tryz.func93 (fun R22 hR22 => ?_)
 refine zz 2 ?_
 refine zn pn (.cells #[.slice p0a1 p0.height.length p0a2, .slice p0a3 p0.own.length p0a4, .slice p0a5 p0.other.length p0a6, .slice p0a7 p0.advisories.length p0a8, .int .i64 p0.pull, .int .i64 p0.near, .int .i64 p0.steps, .slice p0a9 p0.ownNoise.length p0a10, .slice p0a11 p0.otherNoise.length p0a12, .bool p0.alert.neg, .slice p0a13 p0.alert.ln.length p0a14, .slice p0a15 p0.alert.ld.length p0a16, .bool p0.strengthen.neg, .slice p0a17 p0.strengthen.ln.length p0a18, .slice p0a19 p0.strengthen.ld.length p0a20, .bool p0.reversal.neg, .slice p0a21 p0.reversal.ln.length p0a22, .slice p0a23 p0.reversal.ld.length p0a24] 30 (0, 0)) C21 ?_
 intro b24 w24 Y24 C24 B24 hu24
 refine zz 10 ?_
 refine zr' (v := .func (.func 132) #[] #[.pointer (some ⟨b24, 0, none⟩)]) ?_
 refine hR22 _ _ ?_
 refine zz 3 ?_
 refine zrng (caps := #[.pointer (some ⟨b24, 0, none⟩)]) C24 (fun a25 rec25 l25 b25 w25 Y25 hFa25 hr25 C25 B25 hu25 => ?_) (hcall := fun args w => Tryz.call132 args w)
 refine zen Tryz.func132 ?_
 refine zz 3 ?_
 refine zo 2 C25 ?_
 refine zz 5 ?_
 have hc1_ := (Le3 B20 B21 B24).trans B25
 have hb27 : (p0.ownNoise.length : Int) ≤ 9223372036854775807 := lenb (p0a_h4).hcap (p0a_h4).hbig
 refine zlp Tryz.f132 [] [1, 0] (fun ((k27, v27_1, es27_1) : Nat × (List (Int × Raw)) × (List (Int × Value))) => [(0, .func (.yield l25) #[] #[]), (1, .pointer (some ⟨b24, 0, none⟩)), (10, .slice p0a9 p0.ownNoise.length p0a10), (11, .int .i64 (p0.ownNoise.length : Int)), (12, .int .i64 (k27 : Int))]) (fun ((k27, v27_1, es27_1) : Nat × (List (Int × Raw)) × (List (Int × Value))) w1 => ∃ Y1 : Hid, St E0 w X w1 Y1 [(l25, .loop rec25), (b25, .deferred (some [])), (b24, .cells #[.slice p0a1 p0.height.length p0a2, .slice p0a3 p0.own.length p0a4, .slice p0a5 p0.other.length p0a6, .slice p0a7 p0.advisories.length p0a8, .int .i64 p0.pull, .int .i64 p0.near, .int .i64 p0.steps, .slice p0a9 p0.ownNoise.length p0a10, .slice p0a11 p0.otherNoise.length p0a12, .bool p0.alert.neg, .slice p0a13 p0.alert.ln.length p0a14, .slice p0a15 p0.alert.ld.length p0a16, .bool p0.strengthen.neg, .slice p0a17 p0.strengthen.ln.length p0a18, .slice p0a19 p0.strengthen.ld.length p0a20, .bool p0.reversal.neg, .slice p0a21 p0.reversal.ln.length p0a22, .slice p0a23 p0.reversal.ld.length p0a24] 30 (0, 0)), (b20, .cells #[.map (some b17)] 128 (0, 0)), (b17, mapO es27_1), (b15, .cells #[.int .i64 0] 34 (0, 0)), (b13, .cells #[.slice none 0 0] 42 (0, 0)), (b11, .cells #[.int .i64 p4] 3 (0, 0)), (b9, .cells #[.int .i64 p3] 3 (0, 0)), (b7, .cells #[.int .i64 p2] 3 (0, 0)), (b5, .cells #[.int .i64 p1] 3 (0, 0)), (b3, .cells #[.slice p0a1 p0.height.length p0a2, .slice p0a3 p0.own.length p0a4, .slice p0a5 p0.other.length p0a6, .slice p0a7 p0.advisories.length p0a8, .int .i64 p0.pull, .int .i64 p0.near, .int .i64 p0.steps, .slice p0a9 p0.ownNoise.length p0a10, .slice p0a11 p0.otherNoise.length p0a12, .bool p0.alert.neg, .slice p0a13 p0.alert.ln.length p0a14, .slice p0a15 p0.alert.ld.length p0a16, .bool p0.strengthen.neg, .slice p0a17 p0.strengthen.ln.length p0a18, .slice p0a19 p0.strengthen.ld.length p0a20, .bool p0.reversal.neg, .slice p0a21 p0.reversal.ln.length p0a22, .slice p0a23 p0.reversal.ld.length p0a24] 30 (0, 0))] ∧ Le (rd w25 Y25) (rd w1 Y1) ∧ MapR RawV (rd w1 (orN Y1 w.heap.size)) es27_1 v27_1 ∧ dynamics_spread_l27 p0 p1 p2 p3 p4 (p0.ownNoise.drop k27)  v27_1 = some y) (fun ((k27, v27_1, es27_1) : Nat × (List (Int × Raw)) × (List (Int × Value))) => p0.ownNoise.length - k27) (0, ([] : List (Int × Raw)), []) ?_ ?_
 ·
  exact ⟨_, C25, Le.refl _, (MapR.mono (V := RawV) (fun h k => RawV.mono h k) MapR.nil (Le.or hc1_ _)), hp⟩
 rintro ⟨k27, v27_1, es27_1⟩ w27 K27 H27 ⟨Y27, C27, B27, hfv27_1_0, hp⟩
 refine zz 6 ?_
 refine zt 13 (p := (k27 : Int) < (p0.ownNoise.length : Int)) (fun ht28 => ?_) (fun ht28 => ?_)
 ·
  have hob := get_lt (l := p0.ownNoise) (k := k27) (lt_of_int ht28)
  obtain ⟨x27, hqx27⟩ := hob
  rw [dropC hqx27, dynamics_spread_l27] at hp
  have hzx27 : (0 : Int) ≤ (k27 : Int) := Int.natCast_nonneg _
  refine zz 3 ?_
  have hob := ltd1 hp
  obtain ⟨J29, hJ29, hp⟩ := hob
  refine zjoin (fun ((v29_0, es29_0) : (List (Int × Raw)) × (List (Int × Value))) => [(0, .func (.yield l25) #[] #[]), (1, .pointer (some ⟨b24, 0, none⟩)), (10, .slice p0a9 p0.ownNoise.length p0a10), (11, .int .i64 (p0.ownNoise.length : Int)), (12, .int .i64 (k27 : Int))]) (fun ((v29_0, es29_0) : (List (Int × Raw)) × (List (Int × Value))) w1 => ∃ Y1 : Hid, St E0 w X w1 Y1 [(l25, .loop rec25), (b25, .deferred (some [])), (b24, .cells #[.slice p0a1 p0.height.length p0a2, .slice p0a3 p0.own.length p0a4, .slice p0a5 p0.other.length p0a6, .slice p0a7 p0.advisories.length p0a8, .int .i64 p0.pull, .int .i64 p0.near, .int .i64 p0.steps, .slice p0a9 p0.ownNoise.length p0a10, .slice p0a11 p0.otherNoise.length p0a12, .bool p0.alert.neg, .slice p0a13 p0.alert.ln.length p0a14, .slice p0a15 p0.alert.ld.length p0a16, .bool p0.strengthen.neg, .slice p0a17 p0.strengthen.ln.length p0a18, .slice p0a19 p0.strengthen.ld.length p0a20, .bool p0.reversal.neg, .slice p0a21 p0.reversal.ln.length p0a22, .slice p0a23 p0.reversal.ld.length p0a24] 30 (0, 0)), (b20, .cells #[.map (some b17)] 128 (0, 0)), (b17, mapO es29_0), (b15, .cells #[.int .i64 0] 34 (0, 0)), (b13, .cells #[.slice none 0 0] 42 (0, 0)), (b11, .cells #[.int .i64 p4] 3 (0, 0)), (b9, .cells #[.int .i64 p3] 3 (0, 0)), (b7, .cells #[.int .i64 p2] 3 (0, 0)), (b5, .cells #[.int .i64 p1] 3 (0, 0)), (b3, .cells #[.slice p0a1 p0.height.length p0a2, .slice p0a3 p0.own.length p0a4, .slice p0a5 p0.other.length p0a6, .slice p0a7 p0.advisories.length p0a8, .int .i64 p0.pull, .int .i64 p0.near, .int .i64 p0.steps, .slice p0a9 p0.ownNoise.length p0a10, .slice p0a11 p0.otherNoise.length p0a12, .bool p0.alert.neg, .slice p0a13 p0.alert.ln.length p0a14, .slice p0a15 p0.alert.ld.length p0a16, .bool p0.strengthen.neg, .slice p0a17 p0.strengthen.ln.length p0a18, .slice p0a19 p0.strengthen.ld.length p0a20, .bool p0.reversal.neg, .slice p0a21 p0.reversal.ln.length p0a22, .slice p0a23 p0.reversal.ld.length p0a24] 30 (0, 0))] ∧ Le (rd w27 Y27) (rd w1 Y1) ∧ MapR RawV (rd w1 (orN Y1 w.heap.size)) es29_0 v29_0 ∧ J29 v29_0 = some y) ?_ ?_
  ·
   rintro ⟨v29_0, es29_0⟩ w29 ⟨Y29, C29, B29, hfv29_0_0, hp⟩
   have hp := (hJ29 _).symm.trans hp
   refine zz 2 ?_
   refine zs 41 (v := .int .i64 (IntKind.i64.wrap ((k27 : Int) + 1))) (v' := .int .i64 ((k27 : Int) + 1)) (vint (wi64 (wk0 k27) (wk1 ht28 hb27))) ?_
   refine zz 2 ?_
   refine znext (fun a h => H27 (k27 + 1, v29_0, es29_0) _ a h ⟨_, C29, (Le2 B27 B29), hfv29_0_0, hp⟩ ?_)
   exact mu_lt ht28
  intro K30 H30
  refine zz 3 ?_
  have hob := p0a_h4.opn hqx27
  obtain ⟨be31, oe31, rfl, B31, hEe31⟩ := hob
  obtain ⟨e311, e312, e313, e314, e31_at, e31_h0, e31_h1⟩ := hEe31
  refine zi (b := be31) (off := oe31) (len := p0.ownNoise.length) (cap := p0a10) (kd := .i64) (i := (k27 : Int)) 4 (oe31 + k27 * 4) ?_ (h0 := hzx27) (h1 := (ix_b hzx27 B31))
  have hc2_ := (Le12 B3 B5 B7 B9 B11 B13 B15 B17 B20 B21 B24 B25).trans B27
  refine zl ((e31_at.mono hc2_)).cells ?_
  refine zn pn (.cells #[.int .i64 0, .bool false, .slice none 0 0, .slice none 0 0] 76 (0, 0)) C27 ?_
  intro b33 w33 Y33 C33 B33 hu33
  refine zx 0 #[.int .i64 x27.delta, .bool x27.p.neg, .slice e311 x27.p.ln.length e312, .slice e313 x27.p.ld.length e314] C33 ?_
  intro w34 C34 B34
  refine zz 5 ?_
  refine zo 3 C34 ?_
  refine zz 5 ?_
  have hb35 : (p0.otherNoise.length : Int) ≤ 9223372036854775807 := lenb (p0a_h5).hcap (p0a_h5).hbig
  refine zlp Tryz.f132 [K27, K30] [1, 0, 0, 1, 1, 9, 0, 1, 1, 0] (fun ((k35, v35_1, es35_1) : Nat × (List (Int × Raw)) × (List (Int × Value))) => [(0, .func (.yield l25) #[] #[]), (1, .pointer (some ⟨b24, 0, none⟩)), (4, .pointer (some ⟨b33, 0, none⟩)), (10, .slice (some ⟨be31, oe31, none⟩) p0.ownNoise.length p0a10), (11, .int .i64 (p0.ownNoise.length : Int)), (12, .int .i64 (k27 : Int)), (17, .slice p0a11 p0.otherNoise.length p0a12), (18, .int .i64 (p0.otherNoise.length : Int)), (19, .int .i64 (k35 : Int))]) (fun ((k35, v35_1, es35_1) : Nat × (List (Int × Raw)) × (List (Int × Value))) w1 => ∃ Y1 : Hid, St E0 w X w1 Y1 [(b33, .cells #[.int .i64 x27.delta, .bool x27.p.neg, .slice e311 x27.p.ln.length e312, .slice e313 x27.p.ld.length e314] 76 (0, 0)), (l25, .loop rec25), (b25, .deferred (some [])), (b24, .cells #[.slice p0a1 p0.height.length p0a2, .slice p0a3 p0.own.length p0a4, .slice p0a5 p0.other.length p0a6, .slice p0a7 p0.advisories.length p0a8, .int .i64 p0.pull, .int .i64 p0.near, .int .i64 p0.steps, .slice (some ⟨be31, oe31, none⟩) p0.ownNoise.length p0a10, .slice p0a11 p0.otherNoise.length p0a12, .bool p0.alert.neg, .slice p0a13 p0.alert.ln.length p0a14, .slice p0a15 p0.alert.ld.length p0a16, .bool p0.strengthen.neg, .slice p0a17 p0.strengthen.ln.length p0a18, .slice p0a19 p0.strengthen.ld.length p0a20, .bool p0.reversal.neg, .slice p0a21 p0.reversal.ln.length p0a22, .slice p0a23 p0.reversal.ld.length p0a24] 30 (0, 0)), (b20, .cells #[.map (some b17)] 128 (0, 0)), (b17, mapO es35_1), (b15, .cells #[.int .i64 0] 34 (0, 0)), (b13, .cells #[.slice none 0 0] 42 (0, 0)), (b11, .cells #[.int .i64 p4] 3 (0, 0)), (b9, .cells #[.int .i64 p3] 3 (0, 0)), (b7, .cells #[.int .i64 p2] 3 (0, 0)), (b5, .cells #[.int .i64 p1] 3 (0, 0)), (b3, .cells #[.slice p0a1 p0.height.length p0a2, .slice p0a3 p0.own.length p0a4, .slice p0a5 p0.other.length p0a6, .slice p0a7 p0.advisories.length p0a8, .int .i64 p0.pull, .int .i64 p0.near, .int .i64 p0.steps, .slice (some ⟨be31, oe31, none⟩) p0.ownNoise.length p0a10, .slice p0a11 p0.otherNoise.length p0a12, .bool p0.alert.neg, .slice p0a13 p0.alert.ln.length p0a14, .slice p0a15 p0.alert.ld.length p0a16, .bool p0.strengthen.neg, .slice p0a17 p0.strengthen.ln.length p0a18, .slice p0a19 p0.strengthen.ld.length p0a20, .bool p0.reversal.neg, .slice p0a21 p0.reversal.ln.length p0a22, .slice p0a23 p0.reversal.ld.length p0a24] 30 (0, 0))] ∧ Le (rd w34 Y33) (rd w1 Y1) ∧ MapR RawV (rd w1 (orN Y1 w.heap.size)) es35_1 v35_1 ∧ dynamics_spread_l35 p0 p1 p2 p3 p4 x27 J29 (p0.otherNoise.drop k35)  v35_1 = some y) (fun ((k35, v35_1, es35_1) : Nat × (List (Int × Raw)) × (List (Int × Value))) => p0.otherNoise.length - k35) (0, v27_1, es27_1) ?_ ?_
  ·
   exact ⟨_, C34, Le.refl _, (MapR.mono (V := RawV) (fun h k => RawV.mono h k) hfv27_1_0 (Le.or (Le2 B33 B34) _)), hp⟩
  rintro ⟨k35, v35_1, es35_1⟩ w35 K35 H35 ⟨Y35, C35, B35, hfv35_1_0, hp⟩
  refine zz 6 ?_
  refine zt 20 (p := (k35 : Int) < (p0.otherNoise.length : Int)) (fun ht36 => ?_) (fun ht36 => ?_)
  ·
   have hob := get_lt (l := p0.otherNoise) (k := k35) (lt_of_int ht36)
   obtain ⟨x35, hqx35⟩ := hob
   rw [dropC hqx35, dynamics_spread_l35] at hp
   have hzx35 : (0 : Int) ≤ (k35 : Int) := Int.natCast_nonneg _
   refine zz 7 ?_
   have hob := p0a_h5.opn hqx35
   obtain ⟨be37, oe37, rfl, B37, hEe37⟩ := hob
   obtain ⟨e371, e372, e373, e374, e37_at, e37_h0, e37_h1⟩ := hEe37
   refine zi (b := be37) (off := oe37) (len := p0.otherNoise.length) (cap := p0a12) (kd := .i64) (i := (k35 : Int)) 4 (oe37 + k35 * 4) ?_ (h0 := hzx35) (h1 := (ix_b hzx35 B37))
   have hc3_ := ((hc2_.trans B33).trans B34).trans B35
   refine zl ((e37_at.mono hc3_)).cells ?_
   refine zn pn (.cells #[.int .i64 0, .bool false, .slice none 0 0, .slice none 0 0] 76 (0, 0)) C35 ?_
   intro b39 w39 Y39 C39 B39 hu39
   refine zx 0 #[.int .i64 x35.delta, .bool x35.p.neg, .slice e371 x35.p.ln.length e372, .slice e373 x35.p.ld.length e374] C39 ?_
   intro w40 C40 B40
   refine zz 5 ?_
   refine zo 1 C40 ?_
   refine zz 1 ?_
   refine zo 0 C40 ?_
   have hc4_ := (hc3_.trans B39).trans B40
   refine bndk hp fun y42 hy42 hp => ?_
   refine zc C40 (rat_Mul_c _ X0 (X0_lt _) x27.p _ ⟨_, _, _, _, _, _, rfl, ((e31_h0.mono hc4_).mono Le.x0), ((e31_h1.mono hc4_).mono Le.x0)⟩ x35.p _ ⟨_, _, _, _, _, _, rfl, ((e37_h0.mono hc4_).mono Le.x0), ((e37_h1.mono hc4_).mono Le.x0)⟩ y42 hy42) ?_
   rintro v43 w43 C43 B43 hu43 ⟨uu43_0, rfl, ⟨u43_0_1, u43_0_2, u43_0_3, u43_0_4, u43_0_5, u43_0_6, rfl, u43_0__h0, u43_0__h1⟩⟩
   have hob := u43_0__h0.hlen
   subst hob
   have hob := u43_0__h1.hlen
   subst hob
   refine zz 3 ?_
   refine zn pn (.cells #[.bool false, .slice none 0 0, .slice none 0 0] 28 (0, 0)) C43 ?_
   intro b45 w45 Y45 C45 B45 hu45
   refine zx 0 #[.bool y42.1.neg, .slice u43_0_1 y42.1.ln.length u43_0_3, .slice u43_0_4 y42.1.ld.length u43_0_6] C45 ?_
   intro w46 C46 B46
   refine zz 7 ?_
   refine zo 2 C46 ?_
   refine zz 1 ?_
   refine zo 1 C46 ?_
   refine zz 1 ?_
   refine zo 0 C46 ?_
   refine zyld (l := l25) (vs := #[.agg #[.int .i64 x27.delta, .int .i64 x35.delta], .agg #[.bool y42.1.neg, .slice u43_0_1 y42.1.ln.length u43_0_3, .slice u43_0_4 y42.1.ld.length u43_0_6]]) (fun R47 hR47 => ?_)
   refine zround2 3 hr25 hFa25 C46 ?_
   refine zz 2 ?_
   refine zn pn (.cells #[.int .i64 0, .int .i64 0] 132 (0, 0)) C46 ?_
   intro b49 w49 Y49 C49 B49 hu49
   refine zx 0 #[.int .i64 x27.delta, .int .i64 x35.delta] C49 ?_
   intro w50 C50 B50
   refine zz 3 ?_
   refine zn pn (.cells #[.bool false, .slice none 0 0, .slice none 0 0] 28 (0, 0)) C50 ?_
   intro b52 w52 Y52 C52 B52 hu52
   refine zx 0 #[.bool y42.1.neg, .slice u43_0_1 y42.1.ln.length u43_0_3, .slice u43_0_4 y42.1.ld.length u43_0_6] C52 ?_
   intro w53 C53 B53
   refine zz 1 ?_
   refine zbody 5 hr25 C53 (fun w54 C54 B54 => ?_)
   refine zz 2 ?_
   refine zN ⟨.code (at1 [] Tryz.f58 [1, 1, 0, 1, 0, 1, 0, 0]), at2 [] Tryz.f58 [1, 1, 0, 1, 0, 1, 0, 0], [(5, .pointer (some ⟨b3, 0, none⟩)), (6, .pointer (some ⟨b5, 0, none⟩)), (7, .pointer (some ⟨b7, 0, none⟩)), (8, .pointer (some ⟨b9, 0, none⟩)), (9, .pointer (some ⟨b11, 0, none⟩)), (10, .pointer (some ⟨b13, 0, none⟩)), (11, .pointer (some ⟨b15, 0, none⟩)), (12, .pointer (some ⟨b20, 0, none⟩)), (13, .pointer (some ⟨b49, 0, none⟩)), (14, .pointer (some ⟨b52, 0, none⟩))]⟩ ?_
   refine zdraw [0, 1, 2, 3, 4, 7, 8, 10, 11, 12, 13, 14, 15, 16] C54 ?_
   refine gw 0 13 ?_
   refine gw 2 12 ?_
   refine gw 3 10 ?_
   refine gz [4] ?_
   refine gw 5 11 ?_
   refine gz [6] ?_
   refine gw 7 13 ?_
   refine gw 8 11 ?_
   refine gw 9 9 ?_
   refine gH (v := .pointer (some ⟨b49, 0, none⟩)) 11 (fun w => run_indexArr (e := 3) (nn := 2) (b := b49) (off := 0) (kd := .i64) (i := 0) (g := false) (m := 1) (off' := 0) rfl kr kr kr kr (by decide) (by decide) (by decide)) ?_
   refine gw 12 1 ?_
   refine gw 14 10 ?_
   refine gH (v := .pointer (some ⟨b49, 1, none⟩)) 15 (fun w => run_indexArr (e := 3) (nn := 2) (b := b49) (off := 0) (kd := .i64) (i := 1) (g := false) (m := 1) (off' := 1) rfl kr kr kr kr (by decide) (by decide) (by decide)) ?_
   refine gw 16 1 ?_
   refine gz [17] ?_
   have hc5_ := (((((((hc4_.trans B43).trans B45).trans B46).trans B49).trans B50).trans B52).trans B53).trans B54
   refine bndk hp fun y56 hy56 hp => ?_
   refine gC 1 (fun w55 Y55 _ C55 B55 => (dynamics_grid_c _ _ C55.lt p0 _ (hVp0.mono (hc5_.trans B55)) y56 hy56)) ?_
   rintro v57 w55 Y57 w57 C55 B57 ⟨u57_0_1, u57_0_2, rfl, u57_0__h0⟩
   have hc6_ := hc5_.trans B57
   refine bndk hp fun y59 hy59 hp => ?_
   refine gC 10 (fun w58 Y58 _ C58 B58 => (dynamics_respond_c _ X0 (X0_lt _) p0 _ ((hVp0.mono (hc6_.trans B58)).mono Le.x0) (p2) (p4) y59 hy59)) ?_
   rintro v60 w58 Y60 w60 C58 B60 rfl
   refine gz [13] ?_
   refine gp1 (al 18 49 (fun b => .slice (some ⟨b, 0, none⟩) 3 3) (.cells #[.int .i64 (IntKind.i64.wrap ((IntKind.i64.wrap ((p1) + p3)) - p2)), .int .i64 (IntKind.i64.wrap ((y59) + x27.delta)), .int .i64 (IntKind.i64.wrap ((p3) + x35.delta))] 3 (0, 0))) (fun b61 => ?_)
   refine bndk hp fun y63 hy63 hp => ?_
   refine gC 19 (vs := #[.slice u57_0_1 y56.length u57_0_2, .slice (some ⟨b61, 0, none⟩) 3 3]) (fun w62 Y62 _ C62 B62 => (interp_Weights_c _ X0 (X0_lt _) y56 _ ⟨_, _, rfl, ((u57_0__h0.mono (Le2 B60 B62)).mono Le.x0)⟩ ([IntKind.i64.wrap ((IntKind.i64.wrap ((p1) + p3)) - p2), IntKind.i64.wrap ((y59) + x27.delta), IntKind.i64.wrap ((p3) + x35.delta)]) _ ⟨_, _, rfl, (SlR.lit (El := IntAt) (size := 1) (n := 3) [⟨(IntKind.i64.wrap ((IntKind.i64.wrap ((p1) + p3)) - p2) : Int), [.int .i64 (IntKind.i64.wrap ((IntKind.i64.wrap ((p1) + p3)) - p2))]⟩, ⟨(IntKind.i64.wrap ((y59) + x27.delta) : Int), [.int .i64 (IntKind.i64.wrap ((y59) + x27.delta))]⟩, ⟨(IntKind.i64.wrap ((p3) + x35.delta) : Int), [.int .i64 (IntKind.i64.wrap ((p3) + x35.delta))]⟩] (C62.at0 0 rfl rfl) (List.forall_mem_cons.2 ⟨⟨rfl, fun r2 h2 b o h9 => h9⟩, (List.forall_mem_cons.2 ⟨⟨rfl, fun r2 h2 b o h9 => h9⟩, (List.forall_mem_cons.2 ⟨⟨rfl, fun r2 h2 b o h9 => h9⟩, (List.forall_mem_nil _)⟩)⟩)⟩) rfl (by decide))⟩ y63 hy63)) ?_
   rintro v64 w62 Y64 w64 C62 B64 ⟨uu64_0, rfl, ⟨u64_0_1, u64_0_2, rfl, u64_0__h0⟩⟩
   refine gz [20, 21, 22, 23, 24] ?_
   refine gend (fun w65 Y65 C65 B65 => ?_)
   refine zz 8 ?_
   refine zb 54 (b := ((y63.2) != 0)) (fun hc66 => ?_) (fun hc66 => ?_)
   ·
    have hp := ipb hc66 hp
    refine zz 4 ?_
    refine zx 12 #[.slice none 0 0] C65 ?_
    intro w67 C67 B67
    refine zx 11 #[.int .i64 y63.2] C67 ?_
    intro w68 C68 B68
    refine zz 5 ?_
    refine zrret 6 C68 (fun w69 C69 B69 => ?_)
    refine hR47 _ _ ?_
    refine zz 13 ?_
    refine zr' (v := .tuple #[]) ?_
    refine ⟨⟨_, rfl⟩, ?_⟩
    refine zrendR 6 b25 hFa25 C69 (fun w70 C70 B70 => ?_)
    refine zz 2 ?_
    refine zrM1 7 [.cell 10 42, .cell 11 34] (v := .tuple #[.slice none 0 0, .int .i64 y63.2]) C70 (fun w71 C71 B71 => ⟨(Res.cM C71 12 (Res.cM C71 11 Res.nil)), ?_⟩)
    have hob := Option.some.inj hp
    subst hob
    exact ⟨C71.upd, _, rfl, ⟨_, rfl, ⟨_, _, rfl, (show OutsR _ none 0 0 [] from SlR.nil none (by decide))⟩⟩⟩
   have hp := iqb hc66 hp
   refine zz 11 ?_
   have hc7_ := (Le13 B39 B40 B43 B45 B46 B49 B50 B52 B53 B54 B57 B60 B64).trans B65
   have hob := ltd1 hp
   obtain ⟨Jx72, hJx72, hp⟩ := hob
   have hb72 : (y63.1.length : Int) ≤ 9223372036854775807 := lenb ((u64_0__h0.mono (Le.new C62.lt))).hcap ((u64_0__h0.mono (Le.new C62.lt))).hbig
   refine zlp Tryz.f58 [] [1, 1, 0, 1, 0, 1, 0, 1, 1, 1, 0] (fun ((k72, v72_1, es72_1) : Nat × (List (Int × Raw)) × (List (Int × Value))) => [(5, .pointer (some ⟨b3, 0, none⟩)), (9, .pointer (some ⟨b11, 0, none⟩)), (10, .pointer (some ⟨b13, 0, none⟩)), (11, .pointer (some ⟨b15, 0, none⟩)), (12, .pointer (some ⟨b20, 0, none⟩)), (14, .pointer (some ⟨b52, 0, none⟩)), (56, .slice u64_0_1 y63.1.length u64_0_2), (57, .int .i64 (y63.1.length : Int)), (58, .int .i64 (k72 : Int))]) (fun ((k72, v72_1, es72_1) : Nat × (List (Int × Raw)) × (List (Int × Value))) w1 => ∃ Y1 : Hid, St E0 w X w1 Y1 [(b61, .cells #[.int .i64 (IntKind.i64.wrap ((IntKind.i64.wrap ((p1) + p3)) - p2)), .int .i64 (IntKind.i64.wrap ((y59) + x27.delta)), .int .i64 (IntKind.i64.wrap ((p3) + x35.delta))] 3 (0, 0)), (b52, .cells #[.bool y42.1.neg, .slice u43_0_1 y42.1.ln.length u43_0_3, .slice u43_0_4 y42.1.ld.length u43_0_6] 28 (0, 0)), (b49, .cells #[.int .i64 x27.delta, .int .i64 x35.delta] 132 (0, 0)), (b45, .cells #[.bool y42.1.neg, .slice u43_0_1 y42.1.ln.length u43_0_3, .slice u43_0_4 y42.1.ld.length u43_0_6] 28 (0, 0)), (b39, .cells #[.int .i64 x35.delta, .bool x35.p.neg, .slice e371 x35.p.ln.length e372, .slice e373 x35.p.ld.length e374] 76 (0, 0)), (b33, .cells #[.int .i64 x27.delta, .bool x27.p.neg, .slice e311 x27.p.ln.length e312, .slice e313 x27.p.ld.length e314] 76 (0, 0)), (l25, .loop (busyL rec25)), (b25, .deferred (some [])), (b24, .cells #[.slice p0a1 p0.height.length p0a2, .slice p0a3 p0.own.length p0a4, .slice p0a5 p0.other.length p0a6, .slice p0a7 p0.advisories.length p0a8, .int .i64 p0.pull, .int .i64 p0.near, .int .i64 p0.steps, .slice (some ⟨be31, oe31, none⟩) p0.ownNoise.length p0a10, .slice (some ⟨be37, oe37, none⟩) p0.otherNoise.length p0a12, .bool p0.alert.neg, .slice p0a13 p0.alert.ln.length p0a14, .slice p0a15 p0.alert.ld.length p0a16, .bool p0.strengthen.neg, .slice p0a17 p0.strengthen.ln.length p0a18, .slice p0a19 p0.strengthen.ld.length p0a20, .bool p0.reversal.neg, .slice p0a21 p0.reversal.ln.length p0a22, .slice p0a23 p0.reversal.ld.length p0a24] 30 (0, 0)), (b20, .cells #[.map (some b17)] 128 (0, 0)), (b17, mapO es72_1), (b15, .cells #[.int .i64 0] 34 (0, 0)), (b13, .cells #[.slice none 0 0] 42 (0, 0)), (b11, .cells #[.int .i64 p4] 3 (0, 0)), (b9, .cells #[.int .i64 p3] 3 (0, 0)), (b7, .cells #[.int .i64 p2] 3 (0, 0)), (b5, .cells #[.int .i64 p1] 3 (0, 0)), (b3, .cells #[.slice p0a1 p0.height.length p0a2, .slice p0a3 p0.own.length p0a4, .slice p0a5 p0.other.length p0a6, .slice p0a7 p0.advisories.length p0a8, .int .i64 p0.pull, .int .i64 p0.near, .int .i64 p0.steps, .slice (some ⟨be31, oe31, none⟩) p0.ownNoise.length p0a10, .slice (some ⟨be37, oe37, none⟩) p0.otherNoise.length p0a12, .bool p0.alert.neg, .slice p0a13 p0.alert.ln.length p0a14, .slice p0a15 p0.alert.ld.length p0a16, .bool p0.strengthen.neg, .slice p0a17 p0.strengthen.ln.length p0a18, .slice p0a19 p0.strengthen.ld.length p0a20, .bool p0.reversal.neg, .slice p0a21 p0.reversal.ln.length p0a22, .slice p0a23 p0.reversal.ld.length p0a24] 30 (0, 0))] ∧ Le (rd w65 Y65) (rd w1 Y1) ∧ MapR RawV (rd w1 (orN Y1 w.heap.size)) es72_1 v72_1 ∧ dynamics_spread_l72 p0 p4 y42 Jx72 (y63.1.drop k72)  v72_1 = some y) (fun ((k72, v72_1, es72_1) : Nat × (List (Int × Raw)) × (List (Int × Value))) => y63.1.length - k72) (0, v35_1, es35_1) ?_ ?_
   ·
    exact ⟨_, C65, Le.refl _, (MapR.mono (V := RawV) (fun h k => RawV.mono h k) hfv35_1_0 (Le.or hc7_ _)), hp⟩
   rintro ⟨k72, v72_1, es72_1⟩ w72 K72 H72 ⟨Y72, C72, B72, hfv72_1_0, hp⟩
   refine zz 6 ?_
   refine zt 59 (p := (k72 : Int) < (y63.1.length : Int)) (fun ht73 => ?_) (fun ht73 => ?_)
   ·
    have hob := get_lt (l := y63.1) (k := k72) (lt_of_int ht73)
    obtain ⟨x72, hqx72⟩ := hob
    rw [dropC hqx72, dynamics_spread_l72] at hp
    have hzx72 : (0 : Int) ≤ (k72 : Int) := Int.natCast_nonneg _
    refine zz 7 ?_
    have hob := (u64_0__h0.mono (Le.new C62.lt)).opn hqx72
    obtain ⟨be74, oe74, rfl, B74, hEe74⟩ := hob
    obtain ⟨e741, e742, e743, e744, e74_at, e74_h0, e74_h1⟩ := hEe74
    refine zi (b := be74) (off := oe74) (len := y63.1.length) (cap := u64_0_2) (kd := .i64) (i := (k72 : Int)) 4 (oe74 + k72 * 4) ?_ (h0 := hzx72) (h1 := (ix_b hzx72 B74))
    refine zl ((e74_at.mono (Le2 B65 B72))).cells ?_
    refine zn pn (.cells #[.int .i64 0, .bool false, .slice none 0 0, .slice none 0 0] 124 (0, 0)) C72 ?_
    intro b76 w76 Y76 C76 B76 hu76
    refine zx 0 #[.int .i64 x72.vertex, .bool x72.w.neg, .slice e741 x72.w.ln.length e742, .slice e743 x72.w.ld.length e744] C76 ?_
    intro w77 C77 B77
    refine zz 4 ?_
    refine zo 2 C77 ?_
    refine zz 1 ?_
    refine zo 0 C77 ?_
    have hc8_ := (Le13 B45 B46 B49 B50 B52 B53 B54 B57 B60 B64 B65 B72 B76).trans B77
    have hc9_ := (Le3 B65 B72 B76).trans B77
    refine bndk hp fun y79 hy79 hp => ?_
    refine zc C77 (rat_Mul_c _ X0 (X0_lt _) y42.1 _ ⟨_, _, _, _, _, _, rfl, (((u43_0__h0.mono (Le.new C40.lt)).mono hc8_).mono Le.x0), (((u43_0__h1.mono (Le.new C40.lt)).mono hc8_).mono Le.x0)⟩ x72.w _ ⟨_, _, _, _, _, _, rfl, ((e74_h0.mono hc9_).mono Le.x0), ((e74_h1.mono hc9_).mono Le.x0)⟩ y79 hy79) ?_
    rintro v80 w80 C80 B80 hu80 ⟨uu80_0, rfl, ⟨u80_0_1, u80_0_2, u80_0_3, u80_0_4, u80_0_5, u80_0_6, rfl, u80_0__h0, u80_0__h1⟩⟩
    have hob := u80_0__h0.hlen
    subst hob
    have hob := u80_0__h1.hlen
    subst hob
    refine zz 3 ?_
    refine zn pn (.cells #[.bool false, .slice none 0 0, .slice none 0 0] 28 (0, 0)) C80 ?_
    intro b82 w82 Y82 C82 B82 hu82
    refine zx 0 #[.bool y79.1.neg, .slice u80_0_1 y79.1.ln.length u80_0_3, .slice u80_0_4 y79.1.ld.length u80_0_6] C82 ?_
    intro w83 C83 B83
    refine zz 6 ?_
    refine zo 1 C83 ?_
    refine zz 1 ?_
    refine zo 19 C83 ?_
    refine zz 2 ?_
    refine zo 15 C83 ?_
    refine zz 4 ?_
    refine zN ⟨.code (at1 [K72] Tryz.f58 [1, 1, 0, 1, 0, 1, 0, 1, 1, 1, 0, 0, 1, 1, 0, 0, 1, 1, 1]), at2 [K72] Tryz.f58 [1, 1, 0, 1, 0, 1, 0, 1, 1, 1, 0, 0, 1, 1, 0, 0, 1, 1, 1], [(5, .pointer (some ⟨b3, 0, none⟩)), (9, .pointer (some ⟨b11, 0, none⟩)), (10, .pointer (some ⟨b13, 0, none⟩)), (11, .pointer (some ⟨b15, 0, none⟩)), (12, .pointer (some ⟨b20, 0, none⟩)), (14, .pointer (some ⟨b52, 0, none⟩)), (19, .pointer (some ⟨b82, 0, none⟩)), (21, .int .i64 (IntKind.i64.wrap ((IntKind.i64.wrap ((x72.vertex) * (p0.advisories.length : Int))) + p4))), (56, .slice (some ⟨be74, oe74, none⟩) y63.1.length u64_0_2), (57, .int .i64 (y63.1.length : Int)), (58, .int .i64 (k72 : Int))]⟩ ?_
    refine zdraw [0, 1, 2, 3, 4, 5, 6, 7, 10, 11, 13, 14, 15, 16, 17, 18, 19] C83 ?_
    refine gw 0 9 ?_
    refine gz [1] ?_
    refine gw 2 9 ?_
    refine gz [3] ?_
    refine gw 5 0 ?_
    refine gO 4 (fun a84 w84 Y84 G84 C84 B84 => ?_)
    have hc10_ := (Le5 B76 B77 B80 B82 B83).trans B84
    refine op_lookRZ (b := b17) (es := es72_1) (d := 82) 128 3 28 (IntKind.i64.wrap ((IntKind.i64.wrap ((x72.vertex) * (p0.advisories.length : Int))) + p4)) (.agg #[.bool false, .slice none 0 0, .slice none 0 0]) Raw.zero 12 G84 kr C84 kr kr kr kr kr kw (fun _ _ => by kernel_rfl) kr (MapR.mono (V := RawV) (fun h k => RawV.mono h k) hfv72_1_0 (Le.or hc10_ _)) ⟨none, 0, 0, none, 0, 0, rfl, Limbs.nil0, Limbs.nil0⟩ ?_
    refine bndk hp fun x87 hx87 hp => ?_
    intro v85 hv85
    rw [Option.some.inj hx87] at hv85
    obtain ⟨u85_1, u85_2, u85_3, u85_4, u85_5, u85_6, rfl, u85__h0, u85__h1⟩ := hv85
    have hob := u85__h0.hlen
    subst hob
    have hob := u85__h1.hlen
    subst hob
    intro a86 G86
    refine ⟨_, _, _, _, G86, C84, Le.refl _, .inr ⟨fun h => h, B84⟩, ?_⟩
    have hc11_ := (Le2 B82 B83).trans B84
    refine bndk hp fun y89 hy89 hp => ?_
    refine gC 6 (fun w88 Y88 _ C88 B88 => (rat_Add_c _ X0 (X0_lt _) x87 _ ⟨_, _, _, _, _, _, rfl, (((u85__h0.mono Le.orl).mono B88).mono Le.x0), (((u85__h1.mono Le.orl).mono B88).mono Le.x0)⟩ y79.1 _ ⟨_, _, _, _, _, _, rfl, (((u80_0__h0.mono (Le.new C77.lt)).mono (hc11_.trans B88)).mono Le.x0), (((u80_0__h1.mono (Le.new C77.lt)).mono (hc11_.trans B88)).mono Le.x0)⟩ y89 hy89)) ?_
    rintro v90 w88 Y90 w90 C88 B90 ⟨uu90_0, rfl, ⟨u90_0_1, u90_0_2, u90_0_3, u90_0_4, u90_0_5, u90_0_6, rfl, u90_0__h0, u90_0__h1⟩⟩
    have hob := u90_0__h0.hlen
    subst hob
    have hob := u90_0__h1.hlen
    subst hob
    refine gz [7, 8, 9] ?_
    refine gO 10 (fun a91 w91 Y91 G91 C91 B91 => ?_)
    have hob := grdp hp
    obtain ⟨hg93, hp⟩ := hob
    have hc12_ := (hc10_.trans B90).trans B91
    have hmp92 := MapR.put (V := RawV) (z := (IntKind.i64.wrap ((IntKind.i64.wrap ((x72.vertex) * (p0.advisories.length : Int))) + p4))) (v := .agg #[.bool y89.1.neg, .slice u90_0_1 y89.1.ln.length u90_0_3, .slice u90_0_4 y89.1.ld.length u90_0_6]) (x := y89.1) (MapR.mono (V := RawV) (fun h k => RawV.mono h k) hfv72_1_0 (Le.or hc12_ _)) hg93 ⟨_, _, _, _, _, _, rfl, (u90_0__h0.mono (Le.own C88.lt C88.upd.size B91)), (u90_0__h1.mono (Le.own C88.lt C88.upd.size B91))⟩
    refine op_mapUpdRZ (b := b17) 128 3 28 es72_1 (IntKind.i64.wrap ((IntKind.i64.wrap ((x72.vertex) * (p0.advisories.length : Int))) + p4)) (.agg #[.bool y89.1.neg, .slice u90_0_1 y89.1.ln.length u90_0_3, .slice u90_0_4 y89.1.ld.length u90_0_6]) 12 G91 kr C91 kr kr kr kr kr kr (fun _ _ => by kernel_rfl) kr ?_
    intro es94 hes94 w94 hSx94 B94
    have C94 : St E0 w X w94 Y91 [(b82, .cells #[.bool y79.1.neg, .slice u80_0_1 y79.1.ln.length u80_0_3, .slice u80_0_4 y79.1.ld.length u80_0_6] 28 (0, 0)), (b76, .cells #[.int .i64 x72.vertex, .bool x72.w.neg, .slice e741 x72.w.ln.length e742, .slice e743 x72.w.ld.length e744] 124 (0, 0)), (b61, .cells #[.int .i64 (IntKind.i64.wrap ((IntKind.i64.wrap ((p1) + p3)) - p2)), .int .i64 (IntKind.i64.wrap ((y59) + x27.delta)), .int .i64 (IntKind.i64.wrap ((p3) + x35.delta))] 3 (0, 0)), (b52, .cells #[.bool y42.1.neg, .slice u43_0_1 y42.1.ln.length u43_0_3, .slice u43_0_4 y42.1.ld.length u43_0_6] 28 (0, 0)), (b49, .cells #[.int .i64 x27.delta, .int .i64 x35.delta] 132 (0, 0)), (b45, .cells #[.bool y42.1.neg, .slice u43_0_1 y42.1.ln.length u43_0_3, .slice u43_0_4 y42.1.ld.length u43_0_6] 28 (0, 0)), (b39, .cells #[.int .i64 x35.delta, .bool x35.p.neg, .slice e371 x35.p.ln.length e372, .slice e373 x35.p.ld.length e374] 76 (0, 0)), (b33, .cells #[.int .i64 x27.delta, .bool x27.p.neg, .slice e311 x27.p.ln.length e312, .slice e313 x27.p.ld.length e314] 76 (0, 0)), (l25, .loop (busyL rec25)), (b25, .deferred (some [])), (b24, .cells #[.slice p0a1 p0.height.length p0a2, .slice p0a3 p0.own.length p0a4, .slice p0a5 p0.other.length p0a6, .slice p0a7 p0.advisories.length p0a8, .int .i64 p0.pull, .int .i64 p0.near, .int .i64 p0.steps, .slice (some ⟨be31, oe31, none⟩) p0.ownNoise.length p0a10, .slice (some ⟨be37, oe37, none⟩) p0.otherNoise.length p0a12, .bool p0.alert.neg, .slice p0a13 p0.alert.ln.length p0a14, .slice p0a15 p0.alert.ld.length p0a16, .bool p0.strengthen.neg, .slice p0a17 p0.strengthen.ln.length p0a18, .slice p0a19 p0.strengthen.ld.length p0a20, .bool p0.reversal.neg, .slice p0a21 p0.reversal.ln.length p0a22, .slice p0a23 p0.reversal.ld.length p0a24] 30 (0, 0)), (b20, .cells #[.map (some b17)] 128 (0, 0)), (b17, mapO es94), (b15, .cells #[.int .i64 0] 34 (0, 0)), (b13, .cells #[.slice none 0 0] 42 (0, 0)), (b11, .cells #[.int .i64 p4] 3 (0, 0)), (b9, .cells #[.int .i64 p3] 3 (0, 0)), (b7, .cells #[.int .i64 p2] 3 (0, 0)), (b5, .cells #[.int .i64 p1] 3 (0, 0)), (b3, .cells #[.slice p0a1 p0.height.length p0a2, .slice p0a3 p0.own.length p0a4, .slice p0a5 p0.other.length p0a6, .slice p0a7 p0.advisories.length p0a8, .int .i64 p0.pull, .int .i64 p0.near, .int .i64 p0.steps, .slice (some ⟨be31, oe31, none⟩) p0.ownNoise.length p0a10, .slice (some ⟨be37, oe37, none⟩) p0.otherNoise.length p0a12, .bool p0.alert.neg, .slice p0a13 p0.alert.ln.length p0a14, .slice p0a15 p0.alert.ld.length p0a16, .bool p0.strengthen.neg, .slice p0a17 p0.strengthen.ln.length p0a18, .slice p0a19 p0.strengthen.ld.length p0a20, .bool p0.reversal.neg, .slice p0a21 p0.reversal.ln.length p0a22, .slice p0a23 p0.reversal.ld.length p0a24] 30 (0, 0))] := hSx94
    rw [← hes94] at hmp92
    have hmr94 := MapR.mono (V := RawV) (fun h k => RawV.mono h k) hmp92 (Le.or B94 _)
    refine ⟨_, _, _, _, G91, C94, Le.refl _, .inr ⟨fun _ => selm [0, 1, 2, 3, 4, 5, 6, 7, 10, 11, 13, 14, 15, 16, 17, 18, 19], (Le2 B91 B94)⟩, ?_⟩
    refine gend (fun w95 Y95 C95 B95 => ?_)
    refine zz 4 ?_
    refine zs 87 (v := .int .i64 (IntKind.i64.wrap ((k72 : Int) + 1))) (v' := .int .i64 ((k72 : Int) + 1)) (vint (wi64 (wk0 k72) (wk1 ht73 hb72))) ?_
    refine zz 2 ?_
    have hc13_ := (Le10 B72 B76 B77 B80 B82 B83 B84 B90 B91 B94).trans B95
    refine znext (fun a h => H72 (k72 + 1, (putP (IntKind.i64.wrap ((IntKind.i64.wrap ((x72.vertex) * (p0.advisories.length : Int))) + p4)) y89.1 v72_1), es94) _ a h ⟨_, C95.tail.tail, hc13_, (MapR.mono (V := RawV) (fun h k => RawV.mono h k) hmr94 (Le.or B95 _)), hp⟩ ?_)
    exact mu_lt ht73
   rw [List.drop_eq_nil_of_le (nlt_of_int ht73), dynamics_spread_l72] at hp
   have hp := (hJx72 _).symm.trans hp
   refine zz 6 ?_
   refine zrnext 6 hr25 C72 (fun w96 C96 B96 => ?_)
   refine hR47 _ _ ?_
   refine zz 9 ?_
   refine zs 40 (v := .int .i64 (IntKind.i64.wrap ((k35 : Int) + 1))) (v' := .int .i64 ((k35 : Int) + 1)) (vint (wi64 (wk0 k35) (wk1 ht36 hb35))) ?_
   refine zz 2 ?_
   have hc14_ := (Le16 B35 B39 B40 B43 B45 B46 B49 B50 B52 B53 B54 B57 B60 B64 B65 B72).trans B96
   refine znext (fun a h => H35 (k35 + 1, v72_1, es72_1) _ a h ⟨_, C96.tail.tail.tail.tail.tail, hc14_, (MapR.mono (V := RawV) (fun h k => RawV.mono h k) hfv72_1_0 (Le.or B96 _)), hp⟩ ?_)
   exact mu_lt ht36
  rw [List.drop_eq_nil_of_le (nlt_of_int ht36), dynamics_spread_l35] at hp
  refine zz 6 ?_
  exact znext (fun a h => H30 (v35_1, es35_1) _ a h ⟨_, C35.tail, (Le3 B33 B34 B35), hfv35_1_0, hp⟩)
 rw [List.drop_eq_nil_of_le (nlt_of_int ht28), dynamics_spread_l27] at hp
 refine zz 5 ?_
 refine zr' (v := .tuple #[]) ?_
 refine ⟨⟨_, rfl⟩, ?_⟩
 refine zrend 0 b25 hr25 hFa25 C27 (fun w97 C97 B97 => ?_)
 refine zz 5 ?_
 refine zo 3 C97 ?_
 refine zop (at1 [] Tryz.f58 [1, 1, 1, 0, 0]) 1 (fun a98 _ G98 hz98 => op_lenMZ (b := b17) (d := 89) 128 3 28 es27_1 4 G98 kr C97 kr kr kr kr ?_)
 rw [MapR.len hfv27_1_0]
 intro a99 G99
 refine hz98 G99 ?_
 refine zz 3 ?_
 refine zt 90 (p := (v27_1.length : Int) > 64) (fun ht100 => ?_) (fun ht100 => ?_)
 ·
  have hp := ip ht100 hp
  refine zz 3 ?_
  refine zx 6 #[.slice none 0 0] C97 ?_
  intro w101 C101 B101
  refine zx 5 #[.int .i64 10] C101 ?_
  intro w102 C102 B102
  refine zz 4 ?_
  refine zrM1 1 [.cell 10 42, .cell 11 34] (v := .tuple #[.slice none 0 0, .int .i64 10]) C102 (fun w103 C103 B103 => ⟨(Res.cM C103 6 (Res.cM C103 5 Res.nil)), ?_⟩)
  have hob := Option.some.inj hp
  subst hob
  exact ⟨C103.upd, _, rfl, ⟨_, rfl, ⟨_, _, rfl, (show OutsR _ none 0 0 [] from SlR.nil none (by decide))⟩⟩⟩
 have hp := iq ht100 hp
 refine zz 8 ?_
 have hob := ltd1 hp
 obtain ⟨J104, hJ104, hp⟩ := hob
 refine zjoin (fun ((v104_0, rb104_0, ad104_0, m104_0, cap104_0) : (List Out) × (List (Nat × Obj)) × (Option Addr) × Nat × Nat) => [(22, .slice ad104_0 m104_0 cap104_0), (10, .pointer (some ⟨b13, 0, none⟩)), (11, .pointer (some ⟨b15, 0, none⟩))]) (fun ((v104_0, rb104_0, ad104_0, m104_0, cap104_0) : (List Out) × (List (Nat × Obj)) × (Option Addr) × Nat × Nat) w1 => ∃ Y1 : Hid, St E0 w X w1 Y1 ((l25, .loop (exhL rec25)) :: (b25, .deferred (some [])) :: (b24, .cells #[.slice p0a1 p0.height.length p0a2, .slice p0a3 p0.own.length p0a4, .slice p0a5 p0.other.length p0a6, .slice p0a7 p0.advisories.length p0a8, .int .i64 p0.pull, .int .i64 p0.near, .int .i64 p0.steps, .slice p0a9 p0.ownNoise.length p0a10, .slice p0a11 p0.otherNoise.length p0a12, .bool p0.alert.neg, .slice p0a13 p0.alert.ln.length p0a14, .slice p0a15 p0.alert.ld.length p0a16, .bool p0.strengthen.neg, .slice p0a17 p0.strengthen.ln.length p0a18, .slice p0a19 p0.strengthen.ld.length p0a20, .bool p0.reversal.neg, .slice p0a21 p0.reversal.ln.length p0a22, .slice p0a23 p0.reversal.ld.length p0a24] 30 (0, 0)) :: (b20, .cells #[.map (some b17)] 128 (0, 0)) :: (b17, mapO es27_1) :: (b15, .cells #[.int .i64 0] 34 (0, 0)) :: (b13, .cells #[.slice none 0 0] 42 (0, 0)) :: (b11, .cells #[.int .i64 p4] 3 (0, 0)) :: (b9, .cells #[.int .i64 p3] 3 (0, 0)) :: (b7, .cells #[.int .i64 p2] 3 (0, 0)) :: (b5, .cells #[.int .i64 p1] 3 (0, 0)) :: (b3, .cells #[.slice p0a1 p0.height.length p0a2, .slice p0a3 p0.own.length p0a4, .slice p0a5 p0.other.length p0a6, .slice p0a7 p0.advisories.length p0a8, .int .i64 p0.pull, .int .i64 p0.near, .int .i64 p0.steps, .slice p0a9 p0.ownNoise.length p0a10, .slice p0a11 p0.otherNoise.length p0a12, .bool p0.alert.neg, .slice p0a13 p0.alert.ln.length p0a14, .slice p0a15 p0.alert.ld.length p0a16, .bool p0.strengthen.neg, .slice p0a17 p0.strengthen.ln.length p0a18, .slice p0a19 p0.strengthen.ld.length p0a20, .bool p0.reversal.neg, .slice p0a21 p0.reversal.ln.length p0a22, .slice p0a23 p0.reversal.ld.length p0a24] 30 (0, 0)) :: rb104_0) ∧ Le (rd w97 Y27) (rd w1 Y1) ∧ GRow OutCs 80 4 (rd w1 (orN Y1 w.heap.size)) rb104_0 ad104_0 m104_0 cap104_0 v104_0 ∧ J104 v104_0 = some y) ?_ ?_
 ·
  rintro ⟨v104_0, rb104_0, ad104_0, m104_0, cap104_0⟩ w104 ⟨Y104, C104, B104, hfv104_0_0, hp⟩
  have hp := (hJ104 _).symm.trans hp
  refine zz 3 ?_
  refine zx 6 #[.slice ad104_0 m104_0 cap104_0] C104 ?_
  intro w105 C105 B105
  refine zx 5 #[.int .i64 0] C105 ?_
  intro w106 C106 B106
  refine zz 3 ?_
  refine zrM1 1 [.cell 10 42, .cell 11 34] (v := .tuple #[.slice ad104_0 m104_0 cap104_0, .int .i64 0]) C106 (fun w107 C107 B107 => ⟨(Res.cM C107 6 (Res.cM C107 5 Res.nil)), ?_⟩)
  have hob := St.pubGRN (A := [(l25, .loop (exhL rec25)), (b25, .deferred none), (b24, .cells #[.slice p0a1 p0.height.length p0a2, .slice p0a3 p0.own.length p0a4, .slice p0a5 p0.other.length p0a6, .slice p0a7 p0.advisories.length p0a8, .int .i64 p0.pull, .int .i64 p0.near, .int .i64 p0.steps, .slice p0a9 p0.ownNoise.length p0a10, .slice p0a11 p0.otherNoise.length p0a12, .bool p0.alert.neg, .slice p0a13 p0.alert.ln.length p0a14, .slice p0a15 p0.alert.ld.length p0a16, .bool p0.strengthen.neg, .slice p0a17 p0.strengthen.ln.length p0a18, .slice p0a19 p0.strengthen.ld.length p0a20, .bool p0.reversal.neg, .slice p0a21 p0.reversal.ln.length p0a22, .slice p0a23 p0.reversal.ld.length p0a24] 30 (0, 0)), (b20, .cells #[.map (some b17)] 128 (0, 0)), (b17, mapO es27_1), (b15, .cells #[.int .i64 0] 34 (0, 0)), (b13, .cells #[.slice ad104_0 m104_0 cap104_0] 42 (0, 0)), (b11, .cells #[.int .i64 p4] 3 (0, 0)), (b9, .cells #[.int .i64 p3] 3 (0, 0)), (b7, .cells #[.int .i64 p2] 3 (0, 0)), (b5, .cells #[.int .i64 p1] 3 (0, 0)), (b3, .cells #[.slice p0a1 p0.height.length p0a2, .slice p0a3 p0.own.length p0a4, .slice p0a5 p0.other.length p0a6, .slice p0a7 p0.advisories.length p0a8, .int .i64 p0.pull, .int .i64 p0.near, .int .i64 p0.steps, .slice p0a9 p0.ownNoise.length p0a10, .slice p0a11 p0.otherNoise.length p0a12, .bool p0.alert.neg, .slice p0a13 p0.alert.ln.length p0a14, .slice p0a15 p0.alert.ld.length p0a16, .bool p0.strengthen.neg, .slice p0a17 p0.strengthen.ln.length p0a18, .slice p0a19 p0.strengthen.ld.length p0a20, .bool p0.reversal.neg, .slice p0a21 p0.reversal.ln.length p0a22, .slice p0a23 p0.reversal.ld.length p0a24] 30 (0, 0))]) (B := []) (fun rb => ((l25, .loop (exhL rec25)) :: (b25, .deferred none) :: (b24, .cells #[.slice p0a1 p0.height.length p0a2, .slice p0a3 p0.own.length p0a4, .slice p0a5 p0.other.length p0a6, .slice p0a7 p0.advisories.length p0a8, .int .i64 p0.pull, .int .i64 p0.near, .int .i64 p0.steps, .slice p0a9 p0.ownNoise.length p0a10, .slice p0a11 p0.otherNoise.length p0a12, .bool p0.alert.neg, .slice p0a13 p0.alert.ln.length p0a14, .slice p0a15 p0.alert.ld.length p0a16, .bool p0.strengthen.neg, .slice p0a17 p0.strengthen.ln.length p0a18, .slice p0a19 p0.strengthen.ld.length p0a20, .bool p0.reversal.neg, .slice p0a21 p0.reversal.ln.length p0a22, .slice p0a23 p0.reversal.ld.length p0a24] 30 (0, 0)) :: (b20, .cells #[.map (some b17)] 128 (0, 0)) :: (b17, mapO es27_1) :: (b15, .cells #[.int .i64 0] 34 (0, 0)) :: (b13, .cells #[.slice ad104_0 m104_0 cap104_0] 42 (0, 0)) :: (b11, .cells #[.int .i64 p4] 3 (0, 0)) :: (b9, .cells #[.int .i64 p3] 3 (0, 0)) :: (b7, .cells #[.int .i64 p2] 3 (0, 0)) :: (b5, .cells #[.int .i64 p1] 3 (0, 0)) :: (b3, .cells #[.slice p0a1 p0.height.length p0a2, .slice p0a3 p0.own.length p0a4, .slice p0a5 p0.other.length p0a6, .slice p0a7 p0.advisories.length p0a8, .int .i64 p0.pull, .int .i64 p0.near, .int .i64 p0.steps, .slice p0a9 p0.ownNoise.length p0a10, .slice p0a11 p0.otherNoise.length p0a12, .bool p0.alert.neg, .slice p0a13 p0.alert.ln.length p0a14, .slice p0a15 p0.alert.ld.length p0a16, .bool p0.strengthen.neg, .slice p0a17 p0.strengthen.ln.length p0a18, .slice p0a19 p0.strengthen.ld.length p0a20, .bool p0.reversal.neg, .slice p0a21 p0.reversal.ln.length p0a22, .slice p0a23 p0.reversal.ld.length p0a24] 30 (0, 0)) :: rb)) C107 (fun _ => by simp only [List.append_assoc, List.cons_append, List.nil_append, List.append_nil]) (hfv104_0_0.mono (Le.or (Le3 B105 B106 B107) _)) (Nat.le_refl _) OutCs.at
  obtain ⟨Y108, hSx108, B108, hRx108⟩ := hob
  have C108 : St E0 w X w107 Y108 [(l25, .loop (exhL rec25)), (b25, .deferred none), (b24, .cells #[.slice p0a1 p0.height.length p0a2, .slice p0a3 p0.own.length p0a4, .slice p0a5 p0.other.length p0a6, .slice p0a7 p0.advisories.length p0a8, .int .i64 p0.pull, .int .i64 p0.near, .int .i64 p0.steps, .slice p0a9 p0.ownNoise.length p0a10, .slice p0a11 p0.otherNoise.length p0a12, .bool p0.alert.neg, .slice p0a13 p0.alert.ln.length p0a14, .slice p0a15 p0.alert.ld.length p0a16, .bool p0.strengthen.neg, .slice p0a17 p0.strengthen.ln.length p0a18, .slice p0a19 p0.strengthen.ld.length p0a20, .bool p0.reversal.neg, .slice p0a21 p0.reversal.ln.length p0a22, .slice p0a23 p0.reversal.ld.length p0a24] 30 (0, 0)), (b20, .cells #[.map (some b17)] 128 (0, 0)), (b17, mapO es27_1), (b15, .cells #[.int .i64 0] 34 (0, 0)), (b13, .cells #[.slice ad104_0 m104_0 cap104_0] 42 (0, 0)), (b11, .cells #[.int .i64 p4] 3 (0, 0)), (b9, .cells #[.int .i64 p3] 3 (0, 0)), (b7, .cells #[.int .i64 p2] 3 (0, 0)), (b5, .cells #[.int .i64 p1] 3 (0, 0)), (b3, .cells #[.slice p0a1 p0.height.length p0a2, .slice p0a3 p0.own.length p0a4, .slice p0a5 p0.other.length p0a6, .slice p0a7 p0.advisories.length p0a8, .int .i64 p0.pull, .int .i64 p0.near, .int .i64 p0.steps, .slice p0a9 p0.ownNoise.length p0a10, .slice p0a11 p0.otherNoise.length p0a12, .bool p0.alert.neg, .slice p0a13 p0.alert.ln.length p0a14, .slice p0a15 p0.alert.ld.length p0a16, .bool p0.strengthen.neg, .slice p0a17 p0.strengthen.ln.length p0a18, .slice p0a19 p0.strengthen.ld.length p0a20, .bool p0.reversal.neg, .slice p0a21 p0.reversal.ln.length p0a22, .slice p0a23 p0.reversal.ld.length p0a24] 30 (0, 0))] := hSx108
  have hob := hRx108.hlen
  subst hob
  have hR108 : OutsR (rd w107 (orN Y108 w.heap.size)) ad104_0 v104_0.length cap104_0 v104_0 := hRx108
  have hob := Option.some.inj hp
  subst hob
  exact ⟨C108.upd, _, rfl, ⟨_, rfl, ⟨_, _, rfl, ((hR108.mono (Le.or (Le.refl _) _))).mono Le.orr⟩⟩⟩
 intro K109 H109
 refine zz 2 ?_
 refine zo 3 C97 ?_
 refine zci (vs := #[.map (some b17)]) Tryz.func97 (fun R110 hR110 => ?_)
 refine zz 2 ?_
 refine zn pn (.cells #[.map (some b17)] 128 (0, 0)) C97 ?_
 intro b112 w112 Y112 C112 B112 hu112
 refine zz 10 ?_
 refine zr' (v := .func (.func 137) #[] #[.pointer (some ⟨b112, 0, none⟩)]) ?_
 refine hR110 _ _ ?_
 have hob := grdp hp
 obtain ⟨hg114, hp⟩ := hob
 refine bndk hp fun y115 hy115 hp => ?_
 refine zc C112 (sortedKeys_c _ (C112.get 5 rfl) (C112.get 0 rfl) (MapR.mono (V := RawV) (fun h k => RawV.mono h k) hfv27_1_0 (Le.or (Le2 B97 B112) _)) hg114 y115 hy115) ?_
 rintro v116 w116 C116 B116 hu116 ⟨u116_0_1, u116_0_2, rfl, u116_0__h0⟩
 refine zz 5 ?_
 have hb117 : (y115.length : Int) ≤ 9223372036854775807 := lenb ((u116_0__h0.mono (Le.new C112.lt))).hcap ((u116_0__h0.mono (Le.new C112.lt))).hbig
 refine zlp Tryz.f58 [K109] [1, 1, 1, 1, 1, 9, 1, 0] (fun ((v117_0, k117, rb117_0, ad117_0, m117_0, cap117_0) : (List Out) × Nat × (List (Nat × Obj)) × (Option Addr) × Nat × Nat) => [(10, .pointer (some ⟨b13, 0, none⟩)), (11, .pointer (some ⟨b15, 0, none⟩)), (12, .pointer (some ⟨b20, 0, none⟩)), (22, .slice ad117_0 m117_0 cap117_0), (93, .slice u116_0_1 y115.length u116_0_2), (94, .int .i64 (y115.length : Int)), (95, .int .i64 (k117 : Int))]) (fun ((v117_0, k117, rb117_0, ad117_0, m117_0, cap117_0) : (List Out) × Nat × (List (Nat × Obj)) × (Option Addr) × Nat × Nat) w1 => ∃ Y1 : Hid, St E0 w X w1 Y1 ((b112, .cells #[.map (some b17)] 128 (0, 0)) :: (l25, .loop (exhL rec25)) :: (b25, .deferred (some [])) :: (b24, .cells #[.slice p0a1 p0.height.length p0a2, .slice p0a3 p0.own.length p0a4, .slice p0a5 p0.other.length p0a6, .slice p0a7 p0.advisories.length p0a8, .int .i64 p0.pull, .int .i64 p0.near, .int .i64 p0.steps, .slice p0a9 p0.ownNoise.length p0a10, .slice p0a11 p0.otherNoise.length p0a12, .bool p0.alert.neg, .slice p0a13 p0.alert.ln.length p0a14, .slice p0a15 p0.alert.ld.length p0a16, .bool p0.strengthen.neg, .slice p0a17 p0.strengthen.ln.length p0a18, .slice p0a19 p0.strengthen.ld.length p0a20, .bool p0.reversal.neg, .slice p0a21 p0.reversal.ln.length p0a22, .slice p0a23 p0.reversal.ld.length p0a24] 30 (0, 0)) :: (b20, .cells #[.map (some b17)] 128 (0, 0)) :: (b17, mapO es27_1) :: (b15, .cells #[.int .i64 0] 34 (0, 0)) :: (b13, .cells #[.slice none 0 0] 42 (0, 0)) :: (b11, .cells #[.int .i64 p4] 3 (0, 0)) :: (b9, .cells #[.int .i64 p3] 3 (0, 0)) :: (b7, .cells #[.int .i64 p2] 3 (0, 0)) :: (b5, .cells #[.int .i64 p1] 3 (0, 0)) :: (b3, .cells #[.slice p0a1 p0.height.length p0a2, .slice p0a3 p0.own.length p0a4, .slice p0a5 p0.other.length p0a6, .slice p0a7 p0.advisories.length p0a8, .int .i64 p0.pull, .int .i64 p0.near, .int .i64 p0.steps, .slice p0a9 p0.ownNoise.length p0a10, .slice p0a11 p0.otherNoise.length p0a12, .bool p0.alert.neg, .slice p0a13 p0.alert.ln.length p0a14, .slice p0a15 p0.alert.ld.length p0a16, .bool p0.strengthen.neg, .slice p0a17 p0.strengthen.ln.length p0a18, .slice p0a19 p0.strengthen.ld.length p0a20, .bool p0.reversal.neg, .slice p0a21 p0.reversal.ln.length p0a22, .slice p0a23 p0.reversal.ld.length p0a24] 30 (0, 0)) :: rb117_0) ∧ Le (rd w116 Y112) (rd w1 Y1) ∧ GRow OutCs 80 4 (rd w1 (orN Y1 w.heap.size)) rb117_0 ad117_0 m117_0 cap117_0 v117_0 ∧ dynamics_spread_l117 v27_1 J104 (y115.drop k117)  v117_0 = some y) (fun ((v117_0, k117, rb117_0, ad117_0, m117_0, cap117_0) : (List Out) × Nat × (List (Nat × Obj)) × (Option Addr) × Nat × Nat) => y115.length - k117) (([] : List Out), 0, [], none, 0, 0) ?_ ?_
 ·
  exact ⟨_, C116, Le.refl _, GRow.nil, hp⟩
 rintro ⟨v117_0, k117, rb117_0, ad117_0, m117_0, cap117_0⟩ w117 K117 H117 ⟨Y117, C117, B117, hfv117_0_0, hp⟩
 refine zz 6 ?_
 refine zt 96 (p := (k117 : Int) < (y115.length : Int)) (fun ht118 => ?_) (fun ht118 => ?_)
 ·
  have hob := get_lt (l := y115) (k := k117) (lt_of_int ht118)
  obtain ⟨x117, hqx117⟩ := hob
  rw [dropC hqx117, dynamics_spread_l117] at hp
  have hzx117 : (0 : Int) ≤ (k117 : Int) := Int.natCast_nonneg _
  refine zz 7 ?_
  have hob := (u116_0__h0.mono (Le.new C112.lt)).opn hqx117
  obtain ⟨be119, oe119, rfl, B119, hEe119⟩ := hob
  have hAe119 : At (rd w116 Y112) ⟨be119, oe119 + k117 * 1, none⟩ [.int .i64 x117] := hEe119
  refine zi (b := be119) (off := oe119) (len := y115.length) (cap := u116_0_2) (kd := .i64) (i := (k117 : Int)) 1 (oe119 + k117 * 1) ?_ (h0 := hzx117) (h1 := (ix_b hzx117 B119))
  refine zl ((hAe119.mono B117)).cells ?_
  refine zz 6 ?_
  refine zo 4 C117 ?_
  refine zz 1 ?_
  have hc15_ := (Le3 B97 B112 B116).trans B117
  refine zop (at1 [K109, K117] Tryz.f58 [1, 1, 1, 1, 1, 9, 1, 0, 0, 1, 1, 0, 0, 1]) 4 (fun a120 _ G120 hz120 => op_lookRZ (b := b17) (es := es27_1) (d := 103) 128 3 28 (x117) (.agg #[.bool false, .slice none 0 0, .slice none 0 0]) Raw.zero 5 G120 kr C117 kr kr kr kr kr kw (fun _ _ => by kernel_rfl) kr (MapR.mono (V := RawV) (fun h k => RawV.mono h k) hfv27_1_0 (Le.or hc15_ _)) ⟨none, 0, 0, none, 0, 0, rfl, Limbs.nil0, Limbs.nil0⟩ ?_)
  refine bndk hp fun x123 hx123 hp => ?_
  intro v121 hv121
  rw [Option.some.inj hx123] at hv121
  obtain ⟨u121_1, u121_2, u121_3, u121_4, u121_5, u121_6, rfl, u121__h0, u121__h1⟩ := hv121
  have hob := u121__h0.hlen
  subst hob
  have hob := u121__h1.hlen
  subst hob
  intro a122 G122
  refine hz120 G122 ?_
  refine zz 1 ?_
  refine zn (fun b => .slice (some ⟨b, 0, none⟩) 1 1) (.cells #[.int .i64 x117, .bool x123.neg, .slice u121_1 x123.ln.length u121_3, .slice u121_4 x123.ld.length u121_6] 80 (0, 0)) C117 ?_
  intro b125 w125 Y125 C125 B125 hu125
  have hob := grdp hp
  obtain ⟨hg127, hp⟩ := hob
  have hln128 : m117_0 = v117_0.length := GRow.len hfv117_0_0
  have hob := (hfv117_0_0.mono (Le.or B125 _))
  obtain ⟨es128, hr128, hq128, hk128, hm128⟩ := hob
  refine zop (at1 [K109, K117] Tryz.f58 [1, 1, 1, 1, 1, 9, 1, 0, 0, 1, 1, 0, 0, 1]) 7 (fun a126 _ G126 hz126 => op_appEZ (b := 64) (m := 1) (c := 1) (ad := ⟨b125, 0, none⟩) (news := [.int .i64 x117, .bool x123.neg, .slice u121_1 x123.ln.length u121_3, .slice u121_4 x123.ld.length u121_6]) (i0 := Tryz.t80) (rb := rb117_0) (R1 := []) 14 G126 C125 rfl hr128 (C125.cells 0 rfl rfl) (app_b1 hg127 hln128 rfl) (app_b2 hg127 hln128) ?_)
  intro rb129 ad129 cap129 w129 Y129 hrow129 C129 B129 a130 G130
  have hg129 : GRow OutCs 80 4 (rd w129 (orN Y129 w.heap.size)) rb129 ad129 (m117_0 + 1) cap129 (v117_0 ++ [(Out.mk x117 x123)]) := GRow.snoc hrow129 hq128 hk128 hm128 (Le.or B129 _) ⟨rfl, fun r2 h2 => ⟨_, _, _, _, _, _, rfl, ((u121__h0.mono (Le.or (Le2 B125 B129) _)).mono h2), ((u121__h1.mono (Le.or (Le2 B125 B129) _)).mono h2)⟩⟩
  refine hz126 G130 ?_
  refine zz 6 ?_
  refine zs 107 (v := .int .i64 (IntKind.i64.wrap ((k117 : Int) + 1))) (v' := .int .i64 ((k117 : Int) + 1)) (vint (wi64 (wk0 k117) (wk1 ht118 hb117))) ?_
  refine zz 2 ?_
  refine znext (fun a h => H117 ((v117_0 ++ [(Out.mk x117 x123)]), k117 + 1, rb129, ad129, (m117_0 + 1), cap129) _ a h ⟨_, C129.tail, (Le3 B117 B125 B129), hg129, hp⟩ ?_)
  exact mu_lt ht118
 rw [List.drop_eq_nil_of_le (nlt_of_int ht118), dynamics_spread_l117] at hp
 refine zz 5 ?_
 exact znext (fun a h => H109 (v117_0, rb117_0, ad117_0, m117_0, cap117_0) _ a h ⟨_, C117.tail, (Le3 B112 B116 B117), hfv117_0_0, hp⟩)
noncomputable def dynamics_Spread_p (p0 : ModelD) (p1 : Int) (p2 : Int) (p3 : Int) (p4 : Int) : Option ((List Out) × Int) :=
  (dynamics_Check_p p0).bind fun y5 => if ((y5) != 0) = true then (some (([] : List Out), y5)) else ((dynamics_within_p (100000 : Int)).bind fun y9 => (dynamics_within_1_p ([p1]) y9).bind fun y14 => if (!y14) = true then (some (([] : List Out), 1)) else ((dynamics_within_p (100 : Int)).bind fun y18 => (dynamics_within_1_p ([p2, p3]) y18).bind fun y23 => if (!y23) = true then (some (([] : List Out), 1)) else ((dynamics_known_p p0 ([p4])).bind fun y29 => if ((y29) != 0) = true then (some (([] : List Out), y29)) else ((dynamics_spread_p p0 (p1) (p2) (p3) (p4)).bind fun y33 => some (y33.1, y33.2)))))
theorem dynamics_Spread_c (w : World) (X : Hid) (hX : ∀ k o, X k o → k < w.heap.size) (p0 : ModelD) (vp0 : Value) (hp0 : ModelDV (rd w X) vp0 p0) (p1 : Int) (p2 : Int) (p3 : Int) (p4 : Int) (y : (List Out) × Int) (hp : dynamics_Spread_p p0 p1 p2 p3 p4 = some y) : Calls Tryz.prog 20 #[vp0, .int .i64 p1, .int .i64 p2, .int .i64 p3, .int .i64 p4] w (Ret E0 w fun w' v => ∃ uu0, v = .tuple #[uu0, .int .i64 y.2] ∧ SV OutsR (rd w' (old w)) uu0 y.1) := by
 have hVp0 := hp0
 refine ModelDV.op hp0 fun p0a1 p0a2 p0a3 p0a4 p0a5 p0a6 p0a7 p0a8 p0a9 p0a10 p0a11 p0a12 p0a13 p0a14 p0a15 p0a16 p0a17 p0a18 p0a19 p0a20 p0a21 p0a22 p0a23 p0a24 hv9 p0a_h0 p0a_h1 p0a_h2 p0a_h3 p0a_h4 p0a_h5 p0a_h6 p0a_h7 p0a_h8 p0a_h9 p0a_h10 p0a_h11 => ?_
 subst hv9
 unfold dynamics_Spread_p at hp
 refine zen Tryz.func20 ?_
 have C0 : St E0 w X w X [] := St.start hX
 refine zz 2 ?_
 refine zn pn (.cells #[.slice p0a1 p0.height.length p0a2, .slice p0a3 p0.own.length p0a4, .slice p0a5 p0.other.length p0a6, .slice p0a7 p0.advisories.length p0a8, .int .i64 p0.pull, .int .i64 p0.near, .int .i64 p0.steps, .slice p0a9 p0.ownNoise.length p0a10, .slice p0a11 p0.otherNoise.length p0a12, .bool p0.alert.neg, .slice p0a13 p0.alert.ln.length p0a14, .slice p0a15 p0.alert.ld.length p0a16, .bool p0.strengthen.neg, .slice p0a17 p0.strengthen.ln.length p0a18, .slice p0a19 p0.strengthen.ld.length p0a20, .bool p0.reversal.neg, .slice p0a21 p0.reversal.ln.length p0a22, .slice p0a23 p0.reversal.ld.length p0a24] 30 (0, 0)) C0 ?_
 intro b3 w3 Y3 C3 B3 hu3
 refine zz 7 ?_
 refine zo 0 C3 ?_
 refine bndk hp fun y5 hy5 hp => ?_
 refine zc C3 (dynamics_Check_c _ X0 (X0_lt _) p0 _ ((hVp0.mono B3).mono Le.x0) y5 hy5) ?_
 rintro v6 w6 C6 B6 hu6 rfl
 refine zz 11 ?_
 refine zb 16 (b := ((y5) != 0)) (fun hc7 => ?_) (fun hc7 => ?_)
 ·
  have hp := ipb hc7 hp
  refine zz 11 ?_
  refine zr' (v := .tuple #[.slice none 0 0, .int .i64 y5]) ?_
  have hob := Option.some.inj hp
  subst hob
  exact ⟨C6.upd, _, rfl, ⟨_, rfl, ⟨_, _, rfl, (show OutsR _ none 0 0 [] from SlR.nil none (by decide))⟩⟩⟩
 have hp := iqb hc7 hp
 refine zz 3 ?_
 refine bndk hp fun y9 hy9 hp => ?_
 refine zc C6 (dynamics_within_c _ X0 (X0_lt _) (100000 : Int) y9 hy9) ?_
 rintro v10 w10 C10 B10 hu10 ⟨u10_0_b0, u10_0_b1, rfl, u10_0_h0, u10_0_h1⟩
 have hAu10_0_b0 : At (rd w10 Y3) ⟨u10_0_b0, 0, none⟩ [.func (.func 61) #[] #[]] := (At.mono (Le.new C6.lt) u10_0_h0)
 have hAu10_0_b1 : At (rd w10 Y3) ⟨u10_0_b1, 0, none⟩ [.int .i64 y9] := (At.mono (Le.new C6.lt) u10_0_h1)
 refine zz 1 ?_
 refine zn (fun b => .slice (some ⟨b, 0, none⟩) 1 1) (.cells #[.int .i64 p1] 3 (0, 0)) C10 ?_
 intro b12 w12 Y12 C12 B12 hu12
 refine bndk hp fun y14 hy14 hp => ?_
 refine zc C12 (dynamics_within_1_c _ X0 (X0_lt _) ([p1]) _ ⟨_, _, rfl, (SlR.lit (El := IntAt) (size := 1) (n := 1) [⟨(p1 : Int), [.int .i64 p1]⟩] (C12.at0 0 rfl rfl) (List.forall_mem_cons.2 ⟨⟨rfl, fun r2 h2 b o h9 => h9⟩, (List.forall_mem_nil _)⟩) rfl (by decide))⟩ _ ((hAu10_0_b0.mono B12).mono Le.x0) y9 _ ((hAu10_0_b1.mono B12).mono Le.x0) y14 hy14) ?_ (vs := #[.slice (some ⟨b12, 0, none⟩) 1 1, .pointer (some ⟨u10_0_b0, 0, none⟩), .pointer (some ⟨u10_0_b1, 0, none⟩)])
 rintro v15 w15 C15 B15 hu15 rfl
 refine zz 2 ?_
 refine zb 26 (b := !y14) (fun hc16 => ?_) (fun hc16 => ?_)
 ·
  have hp := ipb hc16 hp
  refine zz 20 ?_
  refine zr' (v := .tuple #[.slice none 0 0, .int .i64 1]) ?_
  have hob := Option.some.inj hp
  subst hob
  exact ⟨C15.upd, _, rfl, ⟨_, rfl, ⟨_, _, rfl, (show OutsR _ none 0 0 [] from SlR.nil none (by decide))⟩⟩⟩
 have hp := iqb hc16 hp
 refine bndk hp fun y18 hy18 hp => ?_
 refine zc C15 (dynamics_within_c _ X0 (X0_lt _) (100 : Int) y18 hy18) ?_
 rintro v19 w19 C19 B19 hu19 ⟨u19_0_b0, u19_0_b1, rfl, u19_0_h0, u19_0_h1⟩
 have hAu19_0_b0 : At (rd w19 Y12) ⟨u19_0_b0, 0, none⟩ [.func (.func 61) #[] #[]] := (At.mono (Le.new C15.lt) u19_0_h0)
 have hAu19_0_b1 : At (rd w19 Y12) ⟨u19_0_b1, 0, none⟩ [.int .i64 y18] := (At.mono (Le.new C15.lt) u19_0_h1)
 refine zz 2 ?_
 refine zn (fun b => .slice (some ⟨b, 0, none⟩) 2 2) (.cells #[.int .i64 p2, .int .i64 p3] 3 (0, 0)) C19 ?_
 intro b21 w21 Y21 C21 B21 hu21
 refine bndk hp fun y23 hy23 hp => ?_
 refine zc C21 (dynamics_within_1_c _ X0 (X0_lt _) ([p2, p3]) _ ⟨_, _, rfl, (SlR.lit (El := IntAt) (size := 1) (n := 2) [⟨(p2 : Int), [.int .i64 p2]⟩, ⟨(p3 : Int), [.int .i64 p3]⟩] (C21.at0 0 rfl rfl) (List.forall_mem_cons.2 ⟨⟨rfl, fun r2 h2 b o h9 => h9⟩, (List.forall_mem_cons.2 ⟨⟨rfl, fun r2 h2 b o h9 => h9⟩, (List.forall_mem_nil _)⟩)⟩) rfl (by decide))⟩ _ ((hAu19_0_b0.mono B21).mono Le.x0) y18 _ ((hAu19_0_b1.mono B21).mono Le.x0) y23 hy23) ?_ (vs := #[.slice (some ⟨b21, 0, none⟩) 2 2, .pointer (some ⟨u19_0_b0, 0, none⟩), .pointer (some ⟨u19_0_b1, 0, none⟩)])
 rintro v24 w24 C24 B24 hu24 rfl
 refine zz 5 ?_
 refine zb 20 (b := !y23) (fun hc25 => ?_) (fun hc25 => ?_)
 ·
  have hp := ipb hc25 hp
  refine zz 10 ?_
  refine zr' (v := .tuple #[.slice none 0 0, .int .i64 1]) ?_
  have hob := Option.some.inj hp
  subst hob
  exact ⟨C24.upd, _, rfl, ⟨_, rfl, ⟨_, _, rfl, (show OutsR _ none 0 0 [] from SlR.nil none (by decide))⟩⟩⟩
 have hp := iqb hc25 hp
 refine zz 7 ?_
 refine zo 2 C24 ?_
 refine zz 1 ?_
 refine zn (fun b => .slice (some ⟨b, 0, none⟩) 1 1) (.cells #[.int .i64 p4] 3 (0, 0)) C24 ?_
 intro b27 w27 Y27 C27 B27 hu27
 have hc1_ := (Le8 B3 B6 B10 B12 B15 B19 B21 B24).trans B27
 refine bndk hp fun y29 hy29 hp => ?_
 refine zc C27 (dynamics_known_c _ X0 (X0_lt _) p0 _ ((hVp0.mono hc1_).mono Le.x0) ([p4]) _ ⟨_, _, rfl, (SlR.lit (El := IntAt) (size := 1) (n := 1) [⟨(p4 : Int), [.int .i64 p4]⟩] (C27.at0 0 rfl rfl) (List.forall_mem_cons.2 ⟨⟨rfl, fun r2 h2 b o h9 => h9⟩, (List.forall_mem_nil _)⟩) rfl (by decide))⟩ y29 hy29) ?_ (vs := #[.agg #[.slice p0a1 p0.height.length p0a2, .slice p0a3 p0.own.length p0a4, .slice p0a5 p0.other.length p0a6, .slice p0a7 p0.advisories.length p0a8, .int .i64 p0.pull, .int .i64 p0.near, .int .i64 p0.steps, .slice p0a9 p0.ownNoise.length p0a10, .slice p0a11 p0.otherNoise.length p0a12, .bool p0.alert.neg, .slice p0a13 p0.alert.ln.length p0a14, .slice p0a15 p0.alert.ld.length p0a16, .bool p0.strengthen.neg, .slice p0a17 p0.strengthen.ln.length p0a18, .slice p0a19 p0.strengthen.ld.length p0a20, .bool p0.reversal.neg, .slice p0a21 p0.reversal.ln.length p0a22, .slice p0a23 p0.reversal.ld.length p0a24], .slice (some ⟨b27, 0, none⟩) 1 1])
 rintro v30 w30 C30 B30 hu30 rfl
 refine zz 9 ?_
 refine zb 39 (b := ((y29) != 0)) (fun hc31 => ?_) (fun hc31 => ?_)
 ·
  have hp := ipb hc31 hp
  refine zz 10 ?_
  refine zr' (v := .tuple #[.slice none 0 0, .int .i64 y29]) ?_
  have hob := Option.some.inj hp
  subst hob
  exact ⟨C30.upd, _, rfl, ⟨_, rfl, ⟨_, _, rfl, (show OutsR _ none 0 0 [] from SlR.nil none (by decide))⟩⟩⟩
 have hp := iqb hc31 hp
 refine zz 5 ?_
 refine zo 3 C30 ?_
 refine zz 4 ?_
 have hc2_ := hc1_.trans B30
 refine bndk hp fun y33 hy33 hp => ?_
 refine zc C30 (dynamics_spread_c _ X0 (X0_lt _) p0 _ ((hVp0.mono hc2_).mono Le.x0) (p1) (p2) (p3) (p4) y33 hy33) ?_
 rintro v34 w34 C34 B34 hu34 ⟨uu34_0, rfl, ⟨u34_0_1, u34_0_2, rfl, u34_0__h0⟩⟩
 refine zz 7 ?_
 refine zr' (v := .tuple #[.slice u34_0_1 y33.1.length u34_0_2, .int .i64 y33.2]) ?_
 have hob := Option.some.inj hp
 subst hob
 exact ⟨C34.upd, _, rfl, ⟨_, rfl, ⟨_, _, rfl, ((u34_0__h0.mono (Le.own C30.lt C30.upd.size (Le.refl _)))).mono Le.orr⟩⟩⟩
noncomputable def dynamics_Terminal_l21 (p0 : ModelD) (x11 : Int) (J13 : (List Raw) → Option ((List Raw) × Int)) : Nat → (List Raw) → Option ((List Raw) × Int)
  | 0, v21_0 => J13 v21_0
  | r21 + 1, v21_0 => (some (if (IntKind.i64.wrap ((0 : Int) - x11)) > x11 then IntKind.i64.wrap ((0 : Int) - x11) else x11)).bind fun z26 => if (z26) < p0.near then ((rat_From_p (1 : Int)).bind fun y29 => grd ((v21_0.length + 1) * 56 ≤ 140737488355328) <| dynamics_Terminal_l21 p0 x11 J13 r21 (v21_0 ++ [y29])) else (grd ((v21_0.length + 1) * 56 ≤ 140737488355328) <| dynamics_Terminal_l21 p0 x11 J13 r21 (v21_0 ++ [Raw.zero]))
noncomputable def dynamics_Terminal_l11 (p0 : ModelD) (J8 : (List Raw) → Option ((List Raw) × Int)) : List Int → (List Raw) → Option ((List Raw) × Int)
  | [], v11_0 => J8 v11_0
  | x11 :: r11, v11_0 => lt (fun (v13_0 : List Raw) => dynamics_Terminal_l11 p0 J8 r11 v13_0) fun J13 => (dynamics_size_p p0).bind fun y17 => grd ((p0.height.length : Int) ≠ 0) <| dynamics_Terminal_l21 p0 x11 J13 ((IntKind.i64.wrap (Int.tdiv y17 (p0.height.length : Int))).toNat - 0) v11_0
noncomputable def dynamics_Terminal_p (p0 : ModelD) : Option ((List Raw) × Int) :=
  (dynamics_Check_p p0).bind fun y5 => if ((y5) != 0) = true then (some (([] : List Raw), y5)) else (lt (fun (v8_0 : List Raw) => some (v8_0, 0)) fun J8 => dynamics_Terminal_l11 p0 J8 (p0.height.drop 0)  ([] : List Raw))
theorem dynamics_Terminal_c (w : World) (X : Hid) (hX : ∀ k o, X k o → k < w.heap.size) (p0 : ModelD) (vp0 : Value) (hp0 : ModelDV (rd w X) vp0 p0) (y : (List Raw) × Int) (hp : dynamics_Terminal_p p0 = some y) : Calls Tryz.prog 31 #[vp0] w (Ret E0 w fun w' v => ∃ uu0, v = .tuple #[uu0, .int .i64 y.2] ∧ SV Rats (rd w' (old w)) uu0 y.1) := by
 have hVp0 := hp0
 refine ModelDV.op hp0 fun p0a1 p0a2 p0a3 p0a4 p0a5 p0a6 p0a7 p0a8 p0a9 p0a10 p0a11 p0a12 p0a13 p0a14 p0a15 p0a16 p0a17 p0a18 p0a19 p0a20 p0a21 p0a22 p0a23 p0a24 hv9 p0a_h0 p0a_h1 p0a_h2 p0a_h3 p0a_h4 p0a_h5 p0a_h6 p0a_h7 p0a_h8 p0a_h9 p0a_h10 p0a_h11 => ?_
 subst hv9
 unfold dynamics_Terminal_p at hp
 refine zen Tryz.func31 ?_
 have C0 : St E0 w X w X [] := St.start hX
 refine zz 2 ?_
 refine zn pn (.cells #[.slice p0a1 p0.height.length p0a2, .slice p0a3 p0.own.length p0a4, .slice p0a5 p0.other.length p0a6, .slice p0a7 p0.advisories.length p0a8, .int .i64 p0.pull, .int .i64 p0.near, .int .i64 p0.steps, .slice p0a9 p0.ownNoise.length p0a10, .slice p0a11 p0.otherNoise.length p0a12, .bool p0.alert.neg, .slice p0a13 p0.alert.ln.length p0a14, .slice p0a15 p0.alert.ld.length p0a16, .bool p0.strengthen.neg, .slice p0a17 p0.strengthen.ln.length p0a18, .slice p0a19 p0.strengthen.ld.length p0a20, .bool p0.reversal.neg, .slice p0a21 p0.reversal.ln.length p0a22, .slice p0a23 p0.reversal.ld.length p0a24] 30 (0, 0)) C0 ?_
 intro b3 w3 Y3 C3 B3 hu3
 refine zz 7 ?_
 refine zo 0 C3 ?_
 refine bndk hp fun y5 hy5 hp => ?_
 refine zc C3 (dynamics_Check_c _ X0 (X0_lt _) p0 _ ((hVp0.mono B3).mono Le.x0) y5 hy5) ?_
 rintro v6 w6 C6 B6 hu6 rfl
 refine zz 9 ?_
 refine zb 11 (b := ((y5) != 0)) (fun hc7 => ?_) (fun hc7 => ?_)
 ·
  have hp := ipb hc7 hp
  refine zz 10 ?_
  refine zr' (v := .tuple #[.slice none 0 0, .int .i64 y5]) ?_
  have hob := Option.some.inj hp
  subst hob
  exact ⟨C6.upd, _, rfl, ⟨_, rfl, ⟨_, _, rfl, Rats.nil0⟩⟩⟩
 have hp := iqb hc7 hp
 refine zz 3 ?_
 have hob := ltd1 hp
 obtain ⟨J8, hJ8, hp⟩ := hob
 refine zjoin (fun ((v8_0, rb8_0, ad8_0, m8_0, cap8_0) : (List Raw) × (List (Nat × Obj)) × (Option Addr) × Nat × Nat) => [(2, .slice ad8_0 m8_0 cap8_0)]) (fun ((v8_0, rb8_0, ad8_0, m8_0, cap8_0) : (List Raw) × (List (Nat × Obj)) × (Option Addr) × Nat × Nat) w1 => ∃ Y1 : Hid, St E0 w X w1 Y1 ((b3, .cells #[.slice p0a1 p0.height.length p0a2, .slice p0a3 p0.own.length p0a4, .slice p0a5 p0.other.length p0a6, .slice p0a7 p0.advisories.length p0a8, .int .i64 p0.pull, .int .i64 p0.near, .int .i64 p0.steps, .slice p0a9 p0.ownNoise.length p0a10, .slice p0a11 p0.otherNoise.length p0a12, .bool p0.alert.neg, .slice p0a13 p0.alert.ln.length p0a14, .slice p0a15 p0.alert.ld.length p0a16, .bool p0.strengthen.neg, .slice p0a17 p0.strengthen.ln.length p0a18, .slice p0a19 p0.strengthen.ld.length p0a20, .bool p0.reversal.neg, .slice p0a21 p0.reversal.ln.length p0a22, .slice p0a23 p0.reversal.ld.length p0a24] 30 (0, 0)) :: rb8_0) ∧ Le (rd w6 Y3) (rd w1 Y1) ∧ GRow RatCs 28 3 (rd w1 (orN Y1 w.heap.size)) rb8_0 ad8_0 m8_0 cap8_0 v8_0 ∧ J8 v8_0 = some y) ?_ ?_
 ·
  rintro ⟨v8_0, rb8_0, ad8_0, m8_0, cap8_0⟩ w8 ⟨Y8, C8, B8, hfv8_0_0, hp⟩
  have hp := (hJ8 _).symm.trans hp
  refine zz 8 ?_
  refine zr' (v := .tuple #[.slice ad8_0 m8_0 cap8_0, .int .i64 0]) ?_
  have hob := St.pubGRN (A := [(b3, .cells #[.slice p0a1 p0.height.length p0a2, .slice p0a3 p0.own.length p0a4, .slice p0a5 p0.other.length p0a6, .slice p0a7 p0.advisories.length p0a8, .int .i64 p0.pull, .int .i64 p0.near, .int .i64 p0.steps, .slice p0a9 p0.ownNoise.length p0a10, .slice p0a11 p0.otherNoise.length p0a12, .bool p0.alert.neg, .slice p0a13 p0.alert.ln.length p0a14, .slice p0a15 p0.alert.ld.length p0a16, .bool p0.strengthen.neg, .slice p0a17 p0.strengthen.ln.length p0a18, .slice p0a19 p0.strengthen.ld.length p0a20, .bool p0.reversal.neg, .slice p0a21 p0.reversal.ln.length p0a22, .slice p0a23 p0.reversal.ld.length p0a24] 30 (0, 0))]) (B := []) (fun rb => ((b3, .cells #[.slice p0a1 p0.height.length p0a2, .slice p0a3 p0.own.length p0a4, .slice p0a5 p0.other.length p0a6, .slice p0a7 p0.advisories.length p0a8, .int .i64 p0.pull, .int .i64 p0.near, .int .i64 p0.steps, .slice p0a9 p0.ownNoise.length p0a10, .slice p0a11 p0.otherNoise.length p0a12, .bool p0.alert.neg, .slice p0a13 p0.alert.ln.length p0a14, .slice p0a15 p0.alert.ld.length p0a16, .bool p0.strengthen.neg, .slice p0a17 p0.strengthen.ln.length p0a18, .slice p0a19 p0.strengthen.ld.length p0a20, .bool p0.reversal.neg, .slice p0a21 p0.reversal.ln.length p0a22, .slice p0a23 p0.reversal.ld.length p0a24] 30 (0, 0)) :: rb)) C8 (fun _ => by simp only [List.append_assoc, List.cons_append, List.nil_append, List.append_nil]) hfv8_0_0 (Nat.le_refl _) RatCs.at
  obtain ⟨Y9, hSx9, B9, hRx9⟩ := hob
  have C9 : St E0 w X w8 Y9 [(b3, .cells #[.slice p0a1 p0.height.length p0a2, .slice p0a3 p0.own.length p0a4, .slice p0a5 p0.other.length p0a6, .slice p0a7 p0.advisories.length p0a8, .int .i64 p0.pull, .int .i64 p0.near, .int .i64 p0.steps, .slice p0a9 p0.ownNoise.length p0a10, .slice p0a11 p0.otherNoise.length p0a12, .bool p0.alert.neg, .slice p0a13 p0.alert.ln.length p0a14, .slice p0a15 p0.alert.ld.length p0a16, .bool p0.strengthen.neg, .slice p0a17 p0.strengthen.ln.length p0a18, .slice p0a19 p0.strengthen.ld.length p0a20, .bool p0.reversal.neg, .slice p0a21 p0.reversal.ln.length p0a22, .slice p0a23 p0.reversal.ld.length p0a24] 30 (0, 0))] := hSx9
  have hob := hRx9.hlen
  subst hob
  have hR9 : Rats (rd w8 (orN Y9 w.heap.size)) ad8_0 v8_0.length cap8_0 v8_0 := Rats.ofSl hRx9
  have hob := Option.some.inj hp
  subst hob
  exact ⟨C9.upd, _, rfl, ⟨_, rfl, ⟨_, _, rfl, ((hR9.mono (Le.or (Le.refl _) _))).mono Le.orr⟩⟩⟩
 intro K10 H10
 refine zz 3 ?_
 refine zo 0 C6 ?_
 refine zz 5 ?_
 have hb11 : (p0.height.length : Int) ≤ 9223372036854775807 := lenb (p0a_h0).hcap (p0a_h0).hbig
 refine zlp Tryz.f31 [K10] [1, 1, 9, 1, 0] (fun ((v11_0, k11, rb11_0, ad11_0, m11_0, cap11_0) : (List Raw) × Nat × (List (Nat × Obj)) × (Option Addr) × Nat × Nat) => [(1, .pointer (some ⟨b3, 0, none⟩)), (2, .slice ad11_0 m11_0 cap11_0), (14, .slice p0a1 p0.height.length p0a2), (15, .int .i64 (p0.height.length : Int)), (16, .int .i64 (k11 : Int))]) (fun ((v11_0, k11, rb11_0, ad11_0, m11_0, cap11_0) : (List Raw) × Nat × (List (Nat × Obj)) × (Option Addr) × Nat × Nat) w1 => ∃ Y1 : Hid, St E0 w X w1 Y1 ((b3, .cells #[.slice p0a1 p0.height.length p0a2, .slice p0a3 p0.own.length p0a4, .slice p0a5 p0.other.length p0a6, .slice p0a7 p0.advisories.length p0a8, .int .i64 p0.pull, .int .i64 p0.near, .int .i64 p0.steps, .slice p0a9 p0.ownNoise.length p0a10, .slice p0a11 p0.otherNoise.length p0a12, .bool p0.alert.neg, .slice p0a13 p0.alert.ln.length p0a14, .slice p0a15 p0.alert.ld.length p0a16, .bool p0.strengthen.neg, .slice p0a17 p0.strengthen.ln.length p0a18, .slice p0a19 p0.strengthen.ld.length p0a20, .bool p0.reversal.neg, .slice p0a21 p0.reversal.ln.length p0a22, .slice p0a23 p0.reversal.ld.length p0a24] 30 (0, 0)) :: rb11_0) ∧ Le (rd w6 Y3) (rd w1 Y1) ∧ GRow RatCs 28 3 (rd w1 (orN Y1 w.heap.size)) rb11_0 ad11_0 m11_0 cap11_0 v11_0 ∧ dynamics_Terminal_l11 p0 J8 (p0.height.drop k11)  v11_0 = some y) (fun ((v11_0, k11, rb11_0, ad11_0, m11_0, cap11_0) : (List Raw) × Nat × (List (Nat × Obj)) × (Option Addr) × Nat × Nat) => p0.height.length - k11) (([] : List Raw), 0, [], none, 0, 0) ?_ ?_
 ·
  exact ⟨_, C6, Le.refl _, GRow.nil, hp⟩
 rintro ⟨v11_0, k11, rb11_0, ad11_0, m11_0, cap11_0⟩ w11 K11 H11 ⟨Y11, C11, B11, hfv11_0_0, hp⟩
 refine zz 6 ?_
 refine zt 17 (p := (k11 : Int) < (p0.height.length : Int)) (fun ht12 => ?_) (fun ht12 => ?_)
 ·
  have hob := get_lt (l := p0.height) (k := k11) (lt_of_int ht12)
  obtain ⟨x11, hqx11⟩ := hob
  rw [dropC hqx11, dynamics_Terminal_l11] at hp
  have hzx11 : (0 : Int) ≤ (k11 : Int) := Int.natCast_nonneg _
  refine zz 3 ?_
  have hob := ltd1 hp
  obtain ⟨J13, hJ13, hp⟩ := hob
  refine zjoin (fun ((v13_0, rb13_0, ad13_0, m13_0, cap13_0) : (List Raw) × (List (Nat × Obj)) × (Option Addr) × Nat × Nat) => [(2, .slice ad13_0 m13_0 cap13_0), (1, .pointer (some ⟨b3, 0, none⟩)), (14, .slice p0a1 p0.height.length p0a2), (15, .int .i64 (p0.height.length : Int)), (16, .int .i64 (k11 : Int))]) (fun ((v13_0, rb13_0, ad13_0, m13_0, cap13_0) : (List Raw) × (List (Nat × Obj)) × (Option Addr) × Nat × Nat) w1 => ∃ Y1 : Hid, St E0 w X w1 Y1 ((b3, .cells #[.slice p0a1 p0.height.length p0a2, .slice p0a3 p0.own.length p0a4, .slice p0a5 p0.other.length p0a6, .slice p0a7 p0.advisories.length p0a8, .int .i64 p0.pull, .int .i64 p0.near, .int .i64 p0.steps, .slice p0a9 p0.ownNoise.length p0a10, .slice p0a11 p0.otherNoise.length p0a12, .bool p0.alert.neg, .slice p0a13 p0.alert.ln.length p0a14, .slice p0a15 p0.alert.ld.length p0a16, .bool p0.strengthen.neg, .slice p0a17 p0.strengthen.ln.length p0a18, .slice p0a19 p0.strengthen.ld.length p0a20, .bool p0.reversal.neg, .slice p0a21 p0.reversal.ln.length p0a22, .slice p0a23 p0.reversal.ld.length p0a24] 30 (0, 0)) :: rb13_0) ∧ Le (rd w11 Y11) (rd w1 Y1) ∧ GRow RatCs 28 3 (rd w1 (orN Y1 w.heap.size)) rb13_0 ad13_0 m13_0 cap13_0 v13_0 ∧ J13 v13_0 = some y) ?_ ?_
  ·
   rintro ⟨v13_0, rb13_0, ad13_0, m13_0, cap13_0⟩ w13 ⟨Y13, C13, B13, hfv13_0_0, hp⟩
   have hp := (hJ13 _).symm.trans hp
   refine zz 2 ?_
   refine zs 42 (v := .int .i64 (IntKind.i64.wrap ((k11 : Int) + 1))) (v' := .int .i64 ((k11 : Int) + 1)) (vint (wi64 (wk0 k11) (wk1 ht12 hb11))) ?_
   refine zz 2 ?_
   refine znext (fun a h => H11 (v13_0, k11 + 1, rb13_0, ad13_0, m13_0, cap13_0) _ a h ⟨_, C13, (Le2 B11 B13), hfv13_0_0, hp⟩ ?_)
   exact mu_lt ht12
  intro K14 H14
  refine zz 3 ?_
  have hob := p0a_h0.opn hqx11
  obtain ⟨be15, oe15, rfl, B15, hEe15⟩ := hob
  have hAe15 : At (rd w X) ⟨be15, oe15 + k11 * 1, none⟩ [.int .i64 x11] := hEe15
  refine zi (b := be15) (off := oe15) (len := p0.height.length) (cap := p0a2) (kd := .i64) (i := (k11 : Int)) 1 (oe15 + k11 * 1) ?_ (h0 := hzx11) (h1 := (ix_b hzx11 B15))
  refine zl ((hAe15.mono (Le3 B3 B6 B11))).cells ?_
  refine zz 4 ?_
  refine zdraw [0] C11 ?_
  refine gw 0 0 ?_
  refine gz [2] ?_
  refine gw 3 0 ?_
  refine gz [4, 6] ?_
  have hc1_ := (Le2 B3 B6).trans B11
  refine bndk hp fun y17 hy17 hp => ?_
  refine gC 1 (fun w16 Y16 _ C16 B16 => (dynamics_size_c _ X0 (X0_lt _) p0 _ ((hVp0.mono (hc1_.trans B16)).mono Le.x0) y17 hy17)) ?_
  rintro v18 w16 Y18 w18 C16 B18 rfl
  have hob := grdp hp
  obtain ⟨hg19, hp⟩ := hob
  refine gH (v := .int .i64 (IntKind.i64.wrap (Int.tdiv y17 (p0.height.length : Int)))) 5 (fun w => run_quoV (a := y17) (b := (p0.height.length : Int)) rfl kr kr hg19 _) ?_
  refine gend (fun w20 Y20 C20 B20 => ?_)
  refine zz 2 ?_
  have hb21 : (IntKind.i64.wrap (Int.tdiv y17 (p0.height.length : Int))) ≤ 9223372036854775807 := by first | exact wrap_le _ | omega
  refine zlp Tryz.f31 [K10, K11, K14] [1, 1, 9, 1, 0, 0, 1, 1, 9, 0, 1, 1, 0] (fun ((v21_0, k21, rb21_0, ad21_0, m21_0, cap21_0) : (List Raw) × Nat × (List (Nat × Obj)) × (Option Addr) × Nat × Nat) => [(1, .pointer (some ⟨b3, 0, none⟩)), (2, .slice ad21_0 m21_0 cap21_0), (6, .int .i64 x11), (14, .slice (some ⟨be15, oe15, none⟩) p0.height.length p0a2), (15, .int .i64 (p0.height.length : Int)), (16, .int .i64 (k11 : Int)), (25, .int .i64 (IntKind.i64.wrap (Int.tdiv y17 (p0.height.length : Int)))), (26, .int .i64 (k21 : Int))]) (fun ((v21_0, k21, rb21_0, ad21_0, m21_0, cap21_0) : (List Raw) × Nat × (List (Nat × Obj)) × (Option Addr) × Nat × Nat) w1 => ∃ Y1 : Hid, St E0 w X w1 Y1 ((b3, .cells #[.slice (some ⟨be15, oe15, none⟩) p0.height.length p0a2, .slice p0a3 p0.own.length p0a4, .slice p0a5 p0.other.length p0a6, .slice p0a7 p0.advisories.length p0a8, .int .i64 p0.pull, .int .i64 p0.near, .int .i64 p0.steps, .slice p0a9 p0.ownNoise.length p0a10, .slice p0a11 p0.otherNoise.length p0a12, .bool p0.alert.neg, .slice p0a13 p0.alert.ln.length p0a14, .slice p0a15 p0.alert.ld.length p0a16, .bool p0.strengthen.neg, .slice p0a17 p0.strengthen.ln.length p0a18, .slice p0a19 p0.strengthen.ld.length p0a20, .bool p0.reversal.neg, .slice p0a21 p0.reversal.ln.length p0a22, .slice p0a23 p0.reversal.ld.length p0a24] 30 (0, 0)) :: rb21_0) ∧ Le (rd w20 Y20) (rd w1 Y1) ∧ GRow RatCs 28 3 (rd w1 (orN Y1 w.heap.size)) rb21_0 ad21_0 m21_0 cap21_0 v21_0 ∧ dynamics_Terminal_l21 p0 x11 J13 ((IntKind.i64.wrap (Int.tdiv y17 (p0.height.length : Int))).toNat - k21)  v21_0 = some y) (fun ((v21_0, k21, rb21_0, ad21_0, m21_0, cap21_0) : (List Raw) × Nat × (List (Nat × Obj)) × (Option Addr) × Nat × Nat) => (IntKind.i64.wrap (Int.tdiv y17 (p0.height.length : Int))).toNat - k21) (v11_0, 0, rb11_0, ad11_0, m11_0, cap11_0) ?_ ?_
  ·
   exact ⟨_, C20, Le.refl _, (hfv11_0_0.mono (Le.or (Le2 B18 B20) _)), hp⟩
  rintro ⟨v21_0, k21, rb21_0, ad21_0, m21_0, cap21_0⟩ w21 K21 H21 ⟨Y21, C21, B21, hfv21_0_0, hp⟩
  refine zz 6 ?_
  refine zt 27 (p := (k21 : Int) < (IntKind.i64.wrap (Int.tdiv y17 (p0.height.length : Int)))) (fun ht22 => ?_) (fun ht22 => ?_)
  ·
   have hob := cnt_ltI (N := (IntKind.i64.wrap (Int.tdiv y17 (p0.height.length : Int)))) (k := k21) ht22
   obtain ⟨r21, hm21, hn21⟩ := hob
   rw [hm21, dynamics_Terminal_l21] at hp
   refine zz 8 ?_
   refine zn pn (.cells #[.bool false, .slice none 0 0, .slice none 0 0] 28 (0, 0)) C21 ?_
   intro b24 w24 Y24 C24 B24 hu24
   refine zx 0 #[.bool false, .slice none 0 0, .slice none 0 0] C24 ?_
   intro w25 C25 B25
   refine bndk hp fun z26 hz26 hp => ?_
   refine zz 9 ?_
   refine zs 32 (v := .int .i64 (if (IntKind.i64.wrap ((0 : Int) - x11)) > x11 then IntKind.i64.wrap ((0 : Int) - x11) else x11)) (v' := .int .i64 z26) (vint (Option.some.inj hz26)) ?_
   refine zz 1 ?_
   refine zo 1 C25 ?_
   refine zz 3 ?_
   refine zt 35 (p := (z26) < p0.near) (fun ht27 => ?_) (fun ht27 => ?_)
   ·
    have hp := ip ht27 hp
    refine zz 2 ?_
    refine bndk hp fun y29 hy29 hp => ?_
    refine zc C25 (rat_From_c _ X0 (X0_lt _) (1 : Int) y29 hy29) ?_
    rintro v30 w30 C30 B30 hu30 ⟨u30_0_1, u30_0_2, u30_0_3, u30_0_4, u30_0_5, u30_0_6, rfl, u30_0__h0, u30_0__h1⟩
    have hob := u30_0__h0.hlen
    subst hob
    have hob := u30_0__h1.hlen
    subst hob
    refine zx 0 #[.bool y29.neg, .slice u30_0_1 y29.ln.length u30_0_3, .slice u30_0_4 y29.ld.length u30_0_6] C30 ?_
    intro w31 C31 B31
    refine zz 4 ?_
    refine zo 0 C31 ?_
    refine zn (fun b => .slice (some ⟨b, 0, none⟩) 1 1) (.cells #[.bool y29.neg, .slice u30_0_1 y29.ln.length u30_0_3, .slice u30_0_4 y29.ld.length u30_0_6] 28 (0, 0)) C31 ?_
    intro b33 w33 Y33 C33 B33 hu33
    have hob := grdp hp
    obtain ⟨hg35, hp⟩ := hob
    have hln36 : m21_0 = v21_0.length := GRow.len hfv21_0_0
    have hc2_ := (Le4 B24 B25 B30 B31).trans B33
    have hob := (hfv21_0_0.mono (Le.or hc2_ _))
    obtain ⟨es36, hr36, hq36, hk36, hm36⟩ := hob
    refine zop (at1 [K10, K11, K14, K21] Tryz.f31 [1, 1, 9, 1, 0, 0, 1, 1, 9, 0, 1, 1, 0, 0, 1, 1, 0, 0, 1, 1]) 3 (fun a34 _ G34 hz34 => op_appEZ (b := 56) (m := 1) (c := 1) (ad := ⟨b33, 0, none⟩) (news := [.bool y29.neg, .slice u30_0_1 y29.ln.length u30_0_3, .slice u30_0_4 y29.ld.length u30_0_6]) (i0 := Tryz.t28) (rb := rb21_0) (R1 := []) 3 G34 C33 rfl hr36 (C33.cells 0 rfl rfl) (app_b1 hg35 hln36 rfl) (app_b2 hg35 hln36) ?_)
    intro rb37 ad37 cap37 w37 Y37 hrow37 C37 B37 a38 G38
    have hg37 : GRow RatCs 28 3 (rd w37 (orN Y37 w.heap.size)) rb37 ad37 (m21_0 + 1) cap37 (v21_0 ++ [y29]) := GRow.snoc hrow37 hq36 hk36 hm36 (Le.or B37 _) ⟨rfl, fun r2 h2 => ⟨_, _, _, _, _, _, rfl, ((u30_0__h0.mono (Le.own C25.lt C25.upd.size (Le3 B31 B33 B37))).mono h2), ((u30_0__h1.mono (Le.own C25.lt C25.upd.size (Le3 B31 B33 B37))).mono h2)⟩⟩
    refine hz34 G38 ?_
    refine zz 6 ?_
    refine zs 41 (v := .int .i64 (IntKind.i64.wrap ((k21 : Int) + 1))) (v' := .int .i64 ((k21 : Int) + 1)) (vint (wi64 (wk0 k21) (wk1 ht22 hb21))) ?_
    refine zz 2 ?_
    have hc3_ := (Le6 B21 B24 B25 B30 B31 B33).trans B37
    refine znext (fun a h => H21 ((v21_0 ++ [y29]), k21 + 1, rb37, ad37, (m21_0 + 1), cap37) _ a h ⟨_, C37.tail.tail, hc3_, hg37, (by rw [hn21]; exact hp)⟩ ?_)
    exact mu_ltN ht22
   have hp := iq ht27 hp
   refine zz 5 ?_
   refine zo 0 C25 ?_
   refine zn (fun b => .slice (some ⟨b, 0, none⟩) 1 1) (.cells #[.bool false, .slice none 0 0, .slice none 0 0] 28 (0, 0)) C25 ?_
   intro b40 w40 Y40 C40 B40 hu40
   have hob := grdp hp
   obtain ⟨hg42, hp⟩ := hob
   have hln43 : m21_0 = v21_0.length := GRow.len hfv21_0_0
   have hob := (hfv21_0_0.mono (Le.or (Le3 B24 B25 B40) _))
   obtain ⟨es43, hr43, hq43, hk43, hm43⟩ := hob
   refine zop (at1 [K10, K11, K14, K21] Tryz.f31 [1, 1, 9, 1, 0, 0, 1, 1, 9, 0, 1, 1, 0, 0, 1, 1, 0, 0, 1, 1]) 3 (fun a41 _ G41 hz41 => op_appEZ (b := 56) (m := 1) (c := 1) (ad := ⟨b40, 0, none⟩) (news := [.bool false, .slice none 0 0, .slice none 0 0]) (i0 := Tryz.t28) (rb := rb21_0) (R1 := []) 3 G41 C40 rfl hr43 (C40.cells 0 rfl rfl) (app_b1 hg42 hln43 rfl) (app_b2 hg42 hln43) ?_)
   intro rb44 ad44 cap44 w44 Y44 hrow44 C44 B44 a45 G45
   have hg44 : GRow RatCs 28 3 (rd w44 (orN Y44 w.heap.size)) rb44 ad44 (m21_0 + 1) cap44 (v21_0 ++ [Raw.zero]) := GRow.snoc hrow44 hq43 hk43 hm43 (Le.or B44 _) ⟨rfl, fun r2 h2 => ⟨_, _, _, _, _, _, rfl, (Limbs.nil0.mono h2), (Limbs.nil0.mono h2)⟩⟩
   refine hz41 G45 ?_
   refine zz 6 ?_
   refine zs 41 (v := .int .i64 (IntKind.i64.wrap ((k21 : Int) + 1))) (v' := .int .i64 ((k21 : Int) + 1)) (vint (wi64 (wk0 k21) (wk1 ht22 hb21))) ?_
   refine zz 2 ?_
   have hc4_ := (Le4 B21 B24 B25 B40).trans B44
   refine znext (fun a h => H21 ((v21_0 ++ [Raw.zero]), k21 + 1, rb44, ad44, (m21_0 + 1), cap44) _ a h ⟨_, C44.tail.tail, hc4_, hg44, (by rw [hn21]; exact hp)⟩ ?_)
   exact mu_ltN ht22
  rw [cnt_end (N := (IntKind.i64.wrap (Int.tdiv y17 (p0.height.length : Int)))) ht22, dynamics_Terminal_l21] at hp
  refine zz 6 ?_
  exact znext (fun a h => H14 (v21_0, rb21_0, ad21_0, m21_0, cap21_0) _ a h ⟨_, C21, (Le3 B18 B20 B21), hfv21_0_0, hp⟩)
 rw [List.drop_eq_nil_of_le (nlt_of_int ht12), dynamics_Terminal_l11] at hp
 refine zz 5 ?_
 exact znext (fun a h => H10 (v11_0, rb11_0, ad11_0, m11_0, cap11_0) _ a h ⟨_, C11, B11, hfv11_0_0, hp⟩)
end Go.Proofs.YtjnbipmlmafahaaGreat
namespace Go.Proofs.YtjnbipmlmafahaaGreat
open Go Go.Gv Go.RowKit
set_option maxRecDepth 100000
set_option maxHeartbeats 1000000
noncomputable def clearwaykit_EqualOutcome_p (p0 : Out) (p1 : Out) : Option (Bool) :=
  if ((p0.to) == p1.to) = true then ((clearwaykit_EqualRat_p p0.p p1.p).bind fun y8 => some y8) else (some false)
theorem clearwaykit_EqualOutcome_c (w : World) (X : Hid) (hX : ∀ k o, X k o → k < w.heap.size) (p0 : Out) (vp0 : Value) (hp0 : OutV (rd w X) vp0 p0) (p1 : Out) (vp1 : Value) (hp1 : OutV (rd w X) vp1 p1) (y : Bool) (hp : clearwaykit_EqualOutcome_p p0 p1 = some y) : Calls Tryz.prog 69 #[vp0, vp1] w (Ret E0 w fun _ v => v = .bool y) := by
 have hVp0 := hp0
 obtain ⟨p0a1, p0a2, p0a3, p0a4, p0a5, p0a6, rfl, p0a_h0, p0a_h1⟩ := hp0
 have hob := p0a_h0.hlen
 subst hob
 have hob := p0a_h1.hlen
 subst hob
 have hVp1 := hp1
 obtain ⟨p1a1, p1a2, p1a3, p1a4, p1a5, p1a6, rfl, p1a_h0, p1a_h1⟩ := hp1
 have hob := p1a_h0.hlen
 subst hob
 have hob := p1a_h1.hlen
 subst hob
 unfold clearwaykit_EqualOutcome_p at hp
 refine zen Tryz.func69 ?_
 have C0 : St E0 w X w X [] := St.start hX
 refine zz 2 ?_
 refine zn pn (.cells #[.int .i64 p0.to, .bool p0.p.neg, .slice p0a1 p0.p.ln.length p0a3, .slice p0a4 p0.p.ld.length p0a6] 80 (0, 0)) C0 ?_
 intro b3 w3 Y3 C3 B3 hu3
 refine zn pn (.cells #[.int .i64 p1.to, .bool p1.p.neg, .slice p1a1 p1.p.ln.length p1a3, .slice p1a4 p1.p.ld.length p1a6] 80 (0, 0)) C3 ?_
 intro b5 w5 Y5 C5 B5 hu5
 refine zz 6 ?_
 refine zo 1 C5 ?_
 refine zz 1 ?_
 refine zo 0 C5 ?_
 refine zz 2 ?_
 refine zb 10 (b := ((p0.to) == p1.to)) (fun hc6 => ?_) (fun hc6 => ?_)
 ·
  have hp := ipb hc6 hp
  refine zz 1 ?_
  refine zo 1 C5 ?_
  refine zz 1 ?_
  refine zo 0 C5 ?_
  refine bndk hp fun y8 hy8 hp => ?_
  refine zc C5 (clearwaykit_EqualRat_c _ X0 (X0_lt _) p0.p _ ⟨_, _, _, _, _, _, rfl, ((p0a_h0.mono (Le2 B3 B5)).mono Le.x0), ((p0a_h1.mono (Le2 B3 B5)).mono Le.x0)⟩ p1.p _ ⟨_, _, _, _, _, _, rfl, ((p1a_h0.mono (Le2 B3 B5)).mono Le.x0), ((p1a_h1.mono (Le2 B3 B5)).mono Le.x0)⟩ y8 hy8) ?_
  rintro v9 w9 C9 B9 hu9 rfl
  refine zz 5 ?_
  refine zr' (v := .bool y8) ?_
  have hob := Option.some.inj hp
  subst hob
  exact ⟨C9.upd, _, rfl, rfl⟩
 have hp := iqb hc6 hp
 refine zz 10 ?_
 refine zr' (v := .bool false) ?_
 have hob := Option.some.inj hp
 subst hob
 exact ⟨C5.upd, _, rfl, rfl⟩
noncomputable def clearwaykit_EqualOutcomes_l5 (p1 : List Out) (J3 : Option (Bool)) : List Out → Nat → Option (Bool)
  | [], k5 => J3
  | x5 :: r5, k5 => (ix p1 (k5 : Int)).bind fun x8 => (clearwaykit_EqualOutcome_p x5 x8).bind fun y11 => if (!y11) = true then (some false) else (clearwaykit_EqualOutcomes_l5 p1 J3 r5 (k5 + 1))
noncomputable def clearwaykit_EqualOutcomes_p (p0 : List Out) (p1 : List Out) : Option (Bool) :=
  if ((p0.length : Int) != (p1.length : Int)) = true then (some false) else (lt (some true) fun J3 => clearwaykit_EqualOutcomes_l5 p1 J3 (p0.drop 0) 0)
theorem clearwaykit_EqualOutcomes_c (w : World) (X : Hid) (hX : ∀ k o, X k o → k < w.heap.size) (p0 : List Out) (vp0 : Value) (hp0 : SV OutsR (rd w X) vp0 p0) (p1 : List Out) (vp1 : Value) (hp1 : SV OutsR (rd w X) vp1 p1) (y : Bool) (hp : clearwaykit_EqualOutcomes_p p0 p1 = some y) : Calls Tryz.prog 24 #[vp0, vp1] w (Ret E0 w fun _ v => v = .bool y) := by
 obtain ⟨p0a1, p0a2, rfl, p0a_h0⟩ := hp0
 obtain ⟨p1a1, p1a2, rfl, p1a_h0⟩ := hp1
 unfold clearwaykit_EqualOutcomes_p at hp
 refine zen Tryz.func24 ?_
 have C0 : St E0 w X w X [] := St.start hX
 refine zz 15 ?_
 refine zb 10 (b := ((p0.length : Int) != (p1.length : Int))) (fun hc2 => ?_) (fun hc2 => ?_)
 ·
  have hp := ipb hc2 hp
  refine zz 8 ?_
  refine zr' (v := .bool false) ?_
  have hob := Option.some.inj hp
  subst hob
  exact ⟨C0.upd, _, rfl, rfl⟩
 have hp := iqb hc2 hp
 refine zz 3 ?_
 have hob := ltd0 hp
 obtain ⟨J3, hJ3, hp⟩ := hob
 refine zjoin (fun (_ : Unit) => []) (fun (_ : Unit) w1 => ∃ Y1 : Hid, St E0 w X w1 Y1 [] ∧ Le (rd w X) (rd w1 Y1) ∧ J3 = some y) ?_ ?_
 ·
  rintro _ w3 ⟨Y3, C3, B3, hp⟩
  have hp := hJ3.symm.trans hp
  refine zz 6 ?_
  refine zr' (v := .bool true) ?_
  have hob := Option.some.inj hp
  subst hob
  exact ⟨C3.upd, _, rfl, rfl⟩
 intro K4 H4
 refine zz 6 ?_
 have hb5 : (p0.length : Int) ≤ 9223372036854775807 := lenb (p0a_h0).hcap (p0a_h0).hbig
 refine zlp Tryz.f24 [K4] [1, 1, 9, 1, 0] (fun (k5 : Nat) => [(0, .slice p0a1 p0.length p0a2), (1, .slice p1a1 p1.length p1a2), (5, .int .i64 (k5 : Int))]) (fun (k5 : Nat) w1 => ∃ Y1 : Hid, St E0 w X w1 Y1 [] ∧ Le (rd w X) (rd w1 Y1) ∧ clearwaykit_EqualOutcomes_l5 p1 J3 (p0.drop k5) k5 = some y) (fun (k5 : Nat) => p0.length - k5) 0 ?_ ?_
 ·
  exact ⟨_, C0, Le.refl _, hp⟩
 rintro k5 w5 K5 H5 ⟨Y5, C5, B5, hp⟩
 refine zz 9 ?_
 refine zt 14 (p := (k5 : Int) < (p0.length : Int)) (fun ht6 => ?_) (fun ht6 => ?_)
 ·
  have hob := get_lt (l := p0) (k := k5) (lt_of_int ht6)
  obtain ⟨x5, hqx5⟩ := hob
  rw [dropC hqx5, clearwaykit_EqualOutcomes_l5] at hp
  have hzx5 : (0 : Int) ≤ (k5 : Int) := Int.natCast_nonneg _
  refine zz 6 ?_
  refine zdr C5 ?_
  have hob := p0a_h0.opn hqx5
  obtain ⟨be7, oe7, rfl, B7, hEe7⟩ := hob
  obtain ⟨e71, e72, e73, e74, e75, e76, e7_at, e7_h0, e7_h1⟩ := hEe7
  have hob := e7_h0.hlen
  subst hob
  have hob := e7_h1.hlen
  subst hob
  refine gz [0, 1] ?_
  refine gi 2 (b := be7) (off := oe7) (len := p0.length) (cap := p0a2) (kd := .i64) (i := (k5 : Int)) 4 (oe7 + k5 * 4) ?_ (h0 := hzx5) (h1 := (ix_b hzx5 B7))
  refine gl 3 ((e7_at.mono B5)) ?_
  refine bndk hp fun x8 hx8 hp => ?_
  have hob := ix_some hx8
  obtain ⟨hzx8, hqx8⟩ := hob
  have hwx8 : p1[k5]? = some x8 := hqx8
  have hob := p1a_h0.opn hwx8
  obtain ⟨be9, oe9, rfl, B9, hEe9⟩ := hob
  obtain ⟨e91, e92, e93, e94, e95, e96, e9_at, e9_h0, e9_h1⟩ := hEe9
  have hob := e9_h0.hlen
  subst hob
  have hob := e9_h1.hlen
  subst hob
  refine gz [4, 5] ?_
  refine gi 6 (b := be9) (off := oe9) (len := p1.length) (cap := p1a2) (kd := .i64) (i := (k5 : Int)) 4 (oe9 + k5 * 4) ?_ (h0 := hzx8) (h1 := (ix_b hzx8 B9))
  refine gl 7 ((e9_at.mono B5)) ?_
  refine bndk hp fun y11 hy11 hp => ?_
  refine gC 8 (fun w10 Y10 _ C10 B10 => (clearwaykit_EqualOutcome_c _ X0 (X0_lt _) x5 _ ⟨_, _, _, _, _, _, rfl, ((e7_h0.mono (Le2 B5 B10)).mono Le.x0), ((e7_h1.mono (Le2 B5 B10)).mono Le.x0)⟩ x8 _ ⟨_, _, _, _, _, _, rfl, ((e9_h0.mono (Le2 B5 B10)).mono Le.x0), ((e9_h1.mono (Le2 B5 B10)).mono Le.x0)⟩ y11 hy11)) ?_
  rintro v12 w10 Y12 w12 C10 B12 rfl
  refine gz [9] ?_
  refine gend (fun w13 Y13 C13 B13 => ?_)
  refine zz 1 ?_
  refine zb 26 (b := !y11) (fun hc14 => ?_) (fun hc14 => ?_)
  ·
   have hp := ipb hc14 hp
   refine zz 12 ?_
   refine zr' (v := .bool false) ?_
   have hob := Option.some.inj hp
   subst hob
   exact ⟨C13.upd, _, rfl, rfl⟩
  have hp := iqb hc14 hp
  refine zz 7 ?_
  refine zs 16 (v := .int .i64 (IntKind.i64.wrap ((k5 : Int) + 1))) (v' := .int .i64 ((k5 : Int) + 1)) (vint (wi64 (wk0 k5) (wk1 ht6 hb5))) ?_
  refine zz 2 ?_
  refine znext (fun a h => H5 (k5 + 1) _ a h ⟨_, C13, (Le3 B5 B12 B13), hp⟩ ?_)
  exact mu_lt ht6
 rw [List.drop_eq_nil_of_le (nlt_of_int ht6), clearwaykit_EqualOutcomes_l5] at hp
 refine zz 5 ?_
 exact znext (fun a h => H4 () _ a h ⟨_, C5, B5, hp⟩)
noncomputable def clearwaylaw24_awake_l101 (y30 : (List Raw) × Int) (J60 : Option (Bool)) : Nat → Nat → Option (Bool)
  | 0, k101 => J60
  | r101 + 1, k101 => if (k101 : Int) ≥ 4 then ((ix y30.1 (k101 : Int)).bind fun x104 => (rat_From_p (1 : Int)).bind fun y107 => (clearwaykit_EqualRat_p x104 y107).bind fun y110 => if (!((decide ((k101 : Int) ≤ 7)) == y110)) = true then (some false) else (if (k101 : Int) < 4 then ((clearwaykit_EqualRat_p x104 Raw.zero).bind fun y116 => if (!(true == y116)) = true then (some false) else (clearwaylaw24_awake_l101 y30 J60 r101 (k101 + 1))) else ((clearwaykit_EqualRat_p x104 Raw.zero).bind fun y121 => if (!((decide ((k101 : Int) > 7)) == y121)) = true then (some false) else (clearwaylaw24_awake_l101 y30 J60 r101 (k101 + 1))))) else ((ix y30.1 (k101 : Int)).bind fun x125 => (rat_From_p (1 : Int)).bind fun y128 => (clearwaykit_EqualRat_p x125 y128).bind fun y131 => if (!(false == y131)) = true then (some false) else (if (k101 : Int) < 4 then ((clearwaykit_EqualRat_p x125 Raw.zero).bind fun y137 => if (!(true == y137)) = true then (some false) else (clearwaylaw24_awake_l101 y30 J60 r101 (k101 + 1))) else ((clearwaykit_EqualRat_p x125 Raw.zero).bind fun y142 => if (!((decide ((k101 : Int) > 7)) == y142)) = true then (some false) else (clearwaylaw24_awake_l101 y30 J60 r101 (k101 + 1)))))
noncomputable def clearwaylaw24_awake_p : Option (Bool) :=
  (clearwaylaw24_small_p).bind fun y3 => (dynamics_Size_p y3).bind fun y6 => (clearwaylaw24_small_p).bind fun y9 => (dynamics_Respond_p y9 (0 : Int) (1 : Int)).bind fun y12 => (clearwaylaw24_small_p).bind fun y15 => (dynamics_Spread_p y15 (100 : Int) (10 : Int) (0 : Int) (0 : Int)).bind fun y18 => (clearwaylaw24_small_p).bind fun y21 => (dynamics_Spread_p y21 (0 : Int) (0 : Int) (0 : Int) (1 : Int)).bind fun y24 => (clearwaylaw24_small_p).bind fun y27 => (dynamics_Terminal_p y27).bind fun y30 => (clearwaylaw24_small_p).bind fun y33 => (dynamics_Cost_p y33 (0 : Int) (1 : Int)).bind fun y36 => (clearwaylaw24_small_p).bind fun y42 => (dynamics_Cost_p y42 (1 : Int) (1 : Int)).bind fun y45 => if ((y6.1) != 12) = true then (some false) else (if ((y6.2) != 0) = true then (some false) else (if ((y12.1) != 5) = true then (some false) else (if ((y12.2) != 0) = true then (some false) else (if ((y18.2) != 0) = true then (some false) else (if ((y24.2) != 0) = true then (some false) else (if ((y30.2) != 0) = true then (some false) else (if ((y36.2) != 0) = true then (some false) else (if ((y45.2) != 0) = true then (some false) else (if ((y30.1.length : Int) != 12) = true then (some false) else (lt ((clearwaylaw24_of_p (1 : Int) (10 : Int)).bind fun y62 => (clearwaylaw24_of_p (9 : Int) (10 : Int)).bind fun y65 => (clearwaykit_EqualOutcomes_p y18.1 ([(Out.mk 6 y62), (Out.mk 10 y65)])).bind fun y69 => if y69 = true then ((clearwaylaw24_of_p (1 : Int) (2 : Int)).bind fun y73 => (clearwaylaw24_of_p (1 : Int) (2 : Int)).bind fun y76 => (clearwaykit_EqualOutcomes_p y24.1 ([(Out.mk 5 y73), (Out.mk 7 y76)])).bind fun y80 => if y80 = true then ((clearwaylaw24_of_p (1 : Int) (10 : Int)).bind fun y84 => (clearwaykit_EqualRat_p y36.1 y84).bind fun y87 => if y87 = true then ((clearwaylaw24_of_p (1 : Int) (10 : Int)).bind fun y91 => (clearwaykit_EqualRat_p y45.1 y91).bind fun y94 => some y94) else (some false)) else (some false)) else (some false)) fun J60 => clearwaylaw24_awake_l101 y30 J60 ((12 : Int).toNat - 0) 0))))))))))
theorem clearwaylaw24_awake_c (w : World) (X : Hid) (hX : ∀ k o, X k o → k < w.heap.size)  (y : Bool) (hp : clearwaylaw24_awake_p = some y) : Calls Tryz.prog 7 #[] w (Ret E0 w fun _ v => v = .bool y) := by
 unfold clearwaylaw24_awake_p at hp
 refine zen Tryz.func7 ?_
 have C0 : St E0 w X w X [] := St.start hX
 refine zz 7 ?_
 refine bndk hp fun y3 hy3 hp => ?_
 refine zc C0 (clearwaylaw24_small_c _ X0 (X0_lt _)  y3 hy3) ?_
 rintro v4 w4 C4 B4 hu4 u4_0_o
 refine ModelDV.op u4_0_o fun u4_0_1 u4_0_2 u4_0_3 u4_0_4 u4_0_5 u4_0_6 u4_0_7 u4_0_8 u4_0_9 u4_0_10 u4_0_11 u4_0_12 u4_0_13 u4_0_14 u4_0_15 u4_0_16 u4_0_17 u4_0_18 u4_0_19 u4_0_20 u4_0_21 u4_0_22 u4_0_23 u4_0_24 hv9 u4_0__h0 u4_0__h1 u4_0__h2 u4_0__h3 u4_0__h4 u4_0__h5 u4_0__h6 u4_0__h7 u4_0__h8 u4_0__h9 u4_0__h10 u4_0__h11 => ?_
 subst hv9
 refine bndk hp fun y6 hy6 hp => ?_
 refine zc C4 (dynamics_Size_c _ X0 (X0_lt _) y3 _ ⟨_, _, _, _, _, _, _, _, _, _, _, _, _, _, _, _, _, _, _, _, _, _, _, _, rfl, ((u4_0__h0.mono (Le.new C0.lt)).mono Le.x0), ((u4_0__h1.mono (Le.new C0.lt)).mono Le.x0), ((u4_0__h2.mono (Le.new C0.lt)).mono Le.x0), ((u4_0__h3.mono (Le.new C0.lt)).mono Le.x0), ((u4_0__h4.mono (Le.new C0.lt)).mono Le.x0), ((u4_0__h5.mono (Le.new C0.lt)).mono Le.x0), ((u4_0__h6.mono (Le.new C0.lt)).mono Le.x0), ((u4_0__h7.mono (Le.new C0.lt)).mono Le.x0), ((u4_0__h8.mono (Le.new C0.lt)).mono Le.x0), ((u4_0__h9.mono (Le.new C0.lt)).mono Le.x0), ((u4_0__h10.mono (Le.new C0.lt)).mono Le.x0), ((u4_0__h11.mono (Le.new C0.lt)).mono Le.x0)⟩ y6 hy6) ?_
 rintro v7 w7 C7 B7 hu7 rfl
 refine zz 9 ?_
 refine bndk hp fun y9 hy9 hp => ?_
 refine zc C7 (clearwaylaw24_small_c _ X0 (X0_lt _)  y9 hy9) ?_
 rintro v10 w10 C10 B10 hu10 u10_0_o
 refine ModelDV.op u10_0_o fun u10_0_1 u10_0_2 u10_0_3 u10_0_4 u10_0_5 u10_0_6 u10_0_7 u10_0_8 u10_0_9 u10_0_10 u10_0_11 u10_0_12 u10_0_13 u10_0_14 u10_0_15 u10_0_16 u10_0_17 u10_0_18 u10_0_19 u10_0_20 u10_0_21 u10_0_22 u10_0_23 u10_0_24 hv9 u10_0__h0 u10_0__h1 u10_0__h2 u10_0__h3 u10_0__h4 u10_0__h5 u10_0__h6 u10_0__h7 u10_0__h8 u10_0__h9 u10_0__h10 u10_0__h11 => ?_
 subst hv9
 refine bndk hp fun y12 hy12 hp => ?_
 refine zc C10 (dynamics_Respond_c _ X0 (X0_lt _) y9 _ ⟨_, _, _, _, _, _, _, _, _, _, _, _, _, _, _, _, _, _, _, _, _, _, _, _, rfl, ((u10_0__h0.mono (Le.new C7.lt)).mono Le.x0), ((u10_0__h1.mono (Le.new C7.lt)).mono Le.x0), ((u10_0__h2.mono (Le.new C7.lt)).mono Le.x0), ((u10_0__h3.mono (Le.new C7.lt)).mono Le.x0), ((u10_0__h4.mono (Le.new C7.lt)).mono Le.x0), ((u10_0__h5.mono (Le.new C7.lt)).mono Le.x0), ((u10_0__h6.mono (Le.new C7.lt)).mono Le.x0), ((u10_0__h7.mono (Le.new C7.lt)).mono Le.x0), ((u10_0__h8.mono (Le.new C7.lt)).mono Le.x0), ((u10_0__h9.mono (Le.new C7.lt)).mono Le.x0), ((u10_0__h10.mono (Le.new C7.lt)).mono Le.x0), ((u10_0__h11.mono (Le.new C7.lt)).mono Le.x0)⟩ (0 : Int) (1 : Int) y12 hy12) ?_
 rintro v13 w13 C13 B13 hu13 rfl
 refine zz 9 ?_
 refine bndk hp fun y15 hy15 hp => ?_
 refine zc C13 (clearwaylaw24_small_c _ X0 (X0_lt _)  y15 hy15) ?_
 rintro v16 w16 C16 B16 hu16 u16_0_o
 refine ModelDV.op u16_0_o fun u16_0_1 u16_0_2 u16_0_3 u16_0_4 u16_0_5 u16_0_6 u16_0_7 u16_0_8 u16_0_9 u16_0_10 u16_0_11 u16_0_12 u16_0_13 u16_0_14 u16_0_15 u16_0_16 u16_0_17 u16_0_18 u16_0_19 u16_0_20 u16_0_21 u16_0_22 u16_0_23 u16_0_24 hv9 u16_0__h0 u16_0__h1 u16_0__h2 u16_0__h3 u16_0__h4 u16_0__h5 u16_0__h6 u16_0__h7 u16_0__h8 u16_0__h9 u16_0__h10 u16_0__h11 => ?_
 subst hv9
 refine bndk hp fun y18 hy18 hp => ?_
 refine zc C16 (dynamics_Spread_c _ X0 (X0_lt _) y15 _ ⟨_, _, _, _, _, _, _, _, _, _, _, _, _, _, _, _, _, _, _, _, _, _, _, _, rfl, ((u16_0__h0.mono (Le.new C13.lt)).mono Le.x0), ((u16_0__h1.mono (Le.new C13.lt)).mono Le.x0), ((u16_0__h2.mono (Le.new C13.lt)).mono Le.x0), ((u16_0__h3.mono (Le.new C13.lt)).mono Le.x0), ((u16_0__h4.mono (Le.new C13.lt)).mono Le.x0), ((u16_0__h5.mono (Le.new C13.lt)).mono Le.x0), ((u16_0__h6.mono (Le.new C13.lt)).mono Le.x0), ((u16_0__h7.mono (Le.new C13.lt)).mono Le.x0), ((u16_0__h8.mono (Le.new C13.lt)).mono Le.x0), ((u16_0__h9.mono (Le.new C13.lt)).mono Le.x0), ((u16_0__h10.mono (Le.new C13.lt)).mono Le.x0), ((u16_0__h11.mono (Le.new C13.lt)).mono Le.x0)⟩ (100 : Int) (10 : Int) (0 : Int) (0 : Int) y18 hy18) ?_
 rintro v19 w19 C19 B19 hu19 ⟨uu19_0, rfl, ⟨u19_0_1, u19_0_2, rfl, u19_0__h0⟩⟩
 refine zz 9 ?_
 refine bndk hp fun y21 hy21 hp => ?_
 refine zc C19 (clearwaylaw24_small_c _ X0 (X0_lt _)  y21 hy21) ?_
 rintro v22 w22 C22 B22 hu22 u22_0_o
 refine ModelDV.op u22_0_o fun u22_0_1 u22_0_2 u22_0_3 u22_0_4 u22_0_5 u22_0_6 u22_0_7 u22_0_8 u22_0_9 u22_0_10 u22_0_11 u22_0_12 u22_0_13 u22_0_14 u22_0_15 u22_0_16 u22_0_17 u22_0_18 u22_0_19 u22_0_20 u22_0_21 u22_0_22 u22_0_23 u22_0_24 hv9 u22_0__h0 u22_0__h1 u22_0__h2 u22_0__h3 u22_0__h4 u22_0__h5 u22_0__h6 u22_0__h7 u22_0__h8 u22_0__h9 u22_0__h10 u22_0__h11 => ?_
 subst hv9
 refine bndk hp fun y24 hy24 hp => ?_
 refine zc C22 (dynamics_Spread_c _ X0 (X0_lt _) y21 _ ⟨_, _, _, _, _, _, _, _, _, _, _, _, _, _, _, _, _, _, _, _, _, _, _, _, rfl, ((u22_0__h0.mono (Le.new C19.lt)).mono Le.x0), ((u22_0__h1.mono (Le.new C19.lt)).mono Le.x0), ((u22_0__h2.mono (Le.new C19.lt)).mono Le.x0), ((u22_0__h3.mono (Le.new C19.lt)).mono Le.x0), ((u22_0__h4.mono (Le.new C19.lt)).mono Le.x0), ((u22_0__h5.mono (Le.new C19.lt)).mono Le.x0), ((u22_0__h6.mono (Le.new C19.lt)).mono Le.x0), ((u22_0__h7.mono (Le.new C19.lt)).mono Le.x0), ((u22_0__h8.mono (Le.new C19.lt)).mono Le.x0), ((u22_0__h9.mono (Le.new C19.lt)).mono Le.x0), ((u22_0__h10.mono (Le.new C19.lt)).mono Le.x0), ((u22_0__h11.mono (Le.new C19.lt)).mono Le.x0)⟩ (0 : Int) (0 : Int) (0 : Int) (1 : Int) y24 hy24) ?_
 rintro v25 w25 C25 B25 hu25 ⟨uu25_0, rfl, ⟨u25_0_1, u25_0_2, rfl, u25_0__h0⟩⟩
 refine zz 9 ?_
 refine bndk hp fun y27 hy27 hp => ?_
 refine zc C25 (clearwaylaw24_small_c _ X0 (X0_lt _)  y27 hy27) ?_
 rintro v28 w28 C28 B28 hu28 u28_0_o
 refine ModelDV.op u28_0_o fun u28_0_1 u28_0_2 u28_0_3 u28_0_4 u28_0_5 u28_0_6 u28_0_7 u28_0_8 u28_0_9 u28_0_10 u28_0_11 u28_0_12 u28_0_13 u28_0_14 u28_0_15 u28_0_16 u28_0_17 u28_0_18 u28_0_19 u28_0_20 u28_0_21 u28_0_22 u28_0_23 u28_0_24 hv9 u28_0__h0 u28_0__h1 u28_0__h2 u28_0__h3 u28_0__h4 u28_0__h5 u28_0__h6 u28_0__h7 u28_0__h8 u28_0__h9 u28_0__h10 u28_0__h11 => ?_
 subst hv9
 refine bndk hp fun y30 hy30 hp => ?_
 refine zc C28 (dynamics_Terminal_c _ X0 (X0_lt _) y27 _ ⟨_, _, _, _, _, _, _, _, _, _, _, _, _, _, _, _, _, _, _, _, _, _, _, _, rfl, ((u28_0__h0.mono (Le.new C25.lt)).mono Le.x0), ((u28_0__h1.mono (Le.new C25.lt)).mono Le.x0), ((u28_0__h2.mono (Le.new C25.lt)).mono Le.x0), ((u28_0__h3.mono (Le.new C25.lt)).mono Le.x0), ((u28_0__h4.mono (Le.new C25.lt)).mono Le.x0), ((u28_0__h5.mono (Le.new C25.lt)).mono Le.x0), ((u28_0__h6.mono (Le.new C25.lt)).mono Le.x0), ((u28_0__h7.mono (Le.new C25.lt)).mono Le.x0), ((u28_0__h8.mono (Le.new C25.lt)).mono Le.x0), ((u28_0__h9.mono (Le.new C25.lt)).mono Le.x0), ((u28_0__h10.mono (Le.new C25.lt)).mono Le.x0), ((u28_0__h11.mono (Le.new C25.lt)).mono Le.x0)⟩ y30 hy30) ?_
 rintro v31 w31 C31 B31 hu31 ⟨uu31_0, rfl, ⟨u31_0_1, u31_0_2, rfl, u31_0__h0⟩⟩
 refine zz 9 ?_
 refine bndk hp fun y33 hy33 hp => ?_
 refine zc C31 (clearwaylaw24_small_c _ X0 (X0_lt _)  y33 hy33) ?_
 rintro v34 w34 C34 B34 hu34 u34_0_o
 refine ModelDV.op u34_0_o fun u34_0_1 u34_0_2 u34_0_3 u34_0_4 u34_0_5 u34_0_6 u34_0_7 u34_0_8 u34_0_9 u34_0_10 u34_0_11 u34_0_12 u34_0_13 u34_0_14 u34_0_15 u34_0_16 u34_0_17 u34_0_18 u34_0_19 u34_0_20 u34_0_21 u34_0_22 u34_0_23 u34_0_24 hv9 u34_0__h0 u34_0__h1 u34_0__h2 u34_0__h3 u34_0__h4 u34_0__h5 u34_0__h6 u34_0__h7 u34_0__h8 u34_0__h9 u34_0__h10 u34_0__h11 => ?_
 subst hv9
 refine bndk hp fun y36 hy36 hp => ?_
 refine zc C34 (dynamics_Cost_c _ X0 (X0_lt _) y33 _ ⟨_, _, _, _, _, _, _, _, _, _, _, _, _, _, _, _, _, _, _, _, _, _, _, _, rfl, ((u34_0__h0.mono (Le.new C31.lt)).mono Le.x0), ((u34_0__h1.mono (Le.new C31.lt)).mono Le.x0), ((u34_0__h2.mono (Le.new C31.lt)).mono Le.x0), ((u34_0__h3.mono (Le.new C31.lt)).mono Le.x0), ((u34_0__h4.mono (Le.new C31.lt)).mono Le.x0), ((u34_0__h5.mono (Le.new C31.lt)).mono Le.x0), ((u34_0__h6.mono (Le.new C31.lt)).mono Le.x0), ((u34_0__h7.mono (Le.new C31.lt)).mono Le.x0), ((u34_0__h8.mono (Le.new C31.lt)).mono Le.x0), ((u34_0__h9.mono (Le.new C31.lt)).mono Le.x0), ((u34_0__h10.mono (Le.new C31.lt)).mono Le.x0), ((u34_0__h11.mono (Le.new C31.lt)).mono Le.x0)⟩ (0 : Int) (1 : Int) y36 hy36) ?_
 rintro v37 w37 C37 B37 hu37 ⟨uu37_0, rfl, ⟨u37_0_1, u37_0_2, u37_0_3, u37_0_4, u37_0_5, u37_0_6, rfl, u37_0__h0, u37_0__h1⟩⟩
 have hob := u37_0__h0.hlen
 subst hob
 have hob := u37_0__h1.hlen
 subst hob
 refine zz 3 ?_
 refine zn pn (.cells #[.bool false, .slice none 0 0, .slice none 0 0] 28 (0, 0)) C37 ?_
 intro b39 w39 Y39 C39 B39 hu39
 refine zx 0 #[.bool y36.1.neg, .slice u37_0_1 y36.1.ln.length u37_0_3, .slice u37_0_4 y36.1.ld.length u37_0_6] C39 ?_
 intro w40 C40 B40
 refine zz 5 ?_
 refine bndk hp fun y42 hy42 hp => ?_
 refine zc C40 (clearwaylaw24_small_c _ X0 (X0_lt _)  y42 hy42) ?_
 rintro v43 w43 C43 B43 hu43 u43_0_o
 refine ModelDV.op u43_0_o fun u43_0_1 u43_0_2 u43_0_3 u43_0_4 u43_0_5 u43_0_6 u43_0_7 u43_0_8 u43_0_9 u43_0_10 u43_0_11 u43_0_12 u43_0_13 u43_0_14 u43_0_15 u43_0_16 u43_0_17 u43_0_18 u43_0_19 u43_0_20 u43_0_21 u43_0_22 u43_0_23 u43_0_24 hv9 u43_0__h0 u43_0__h1 u43_0__h2 u43_0__h3 u43_0__h4 u43_0__h5 u43_0__h6 u43_0__h7 u43_0__h8 u43_0__h9 u43_0__h10 u43_0__h11 => ?_
 subst hv9
 refine bndk hp fun y45 hy45 hp => ?_
 refine zc C43 (dynamics_Cost_c _ X0 (X0_lt _) y42 _ ⟨_, _, _, _, _, _, _, _, _, _, _, _, _, _, _, _, _, _, _, _, _, _, _, _, rfl, ((u43_0__h0.mono (Le.new C40.lt)).mono Le.x0), ((u43_0__h1.mono (Le.new C40.lt)).mono Le.x0), ((u43_0__h2.mono (Le.new C40.lt)).mono Le.x0), ((u43_0__h3.mono (Le.new C40.lt)).mono Le.x0), ((u43_0__h4.mono (Le.new C40.lt)).mono Le.x0), ((u43_0__h5.mono (Le.new C40.lt)).mono Le.x0), ((u43_0__h6.mono (Le.new C40.lt)).mono Le.x0), ((u43_0__h7.mono (Le.new C40.lt)).mono Le.x0), ((u43_0__h8.mono (Le.new C40.lt)).mono Le.x0), ((u43_0__h9.mono (Le.new C40.lt)).mono Le.x0), ((u43_0__h10.mono (Le.new C40.lt)).mono Le.x0), ((u43_0__h11.mono (Le.new C40.lt)).mono Le.x0)⟩ (1 : Int) (1 : Int) y45 hy45) ?_
 rintro v46 w46 C46 B46 hu46 ⟨uu46_0, rfl, ⟨u46_0_1, u46_0_2, u46_0_3, u46_0_4, u46_0_5, u46_0_6, rfl, u46_0__h0, u46_0__h1⟩⟩
 have hob := u46_0__h0.hlen
 subst hob
 have hob := u46_0__h1.hlen
 subst hob
 refine zz 3 ?_
 refine zn pn (.cells #[.bool false, .slice none 0 0, .slice none 0 0] 28 (0, 0)) C46 ?_
 intro b48 w48 Y48 C48 B48 hu48
 refine zx 0 #[.bool y45.1.neg, .slice u46_0_1 y45.1.ln.length u46_0_3, .slice u46_0_4 y45.1.ld.length u46_0_6] C48 ?_
 intro w49 C49 B49
 refine zz 9 ?_
 refine zb 53 (b := ((y6.1) != 12)) (fun hc50 => ?_) (fun hc50 => ?_)
 ·
  have hp := ipb hc50 hp
  refine zz 46 ?_
  refine zr' (v := .bool false) ?_
  have hob := Option.some.inj hp
  subst hob
  exact ⟨C49.upd, _, rfl, rfl⟩
 have hp := iqb hc50 hp
 refine zz 4 ?_
 refine zb 57 (b := ((y6.2) != 0)) (fun hc51 => ?_) (fun hc51 => ?_)
 ·
  have hp := ipb hc51 hp
  refine zz 42 ?_
  refine zr' (v := .bool false) ?_
  have hob := Option.some.inj hp
  subst hob
  exact ⟨C49.upd, _, rfl, rfl⟩
 have hp := iqb hc51 hp
 refine zz 4 ?_
 refine zb 61 (b := ((y12.1) != 5)) (fun hc52 => ?_) (fun hc52 => ?_)
 ·
  have hp := ipb hc52 hp
  refine zz 38 ?_
  refine zr' (v := .bool false) ?_
  have hob := Option.some.inj hp
  subst hob
  exact ⟨C49.upd, _, rfl, rfl⟩
 have hp := iqb hc52 hp
 refine zz 4 ?_
 refine zb 65 (b := ((y12.2) != 0)) (fun hc53 => ?_) (fun hc53 => ?_)
 ·
  have hp := ipb hc53 hp
  refine zz 34 ?_
  refine zr' (v := .bool false) ?_
  have hob := Option.some.inj hp
  subst hob
  exact ⟨C49.upd, _, rfl, rfl⟩
 have hp := iqb hc53 hp
 refine zz 4 ?_
 refine zb 69 (b := ((y18.2) != 0)) (fun hc54 => ?_) (fun hc54 => ?_)
 ·
  have hp := ipb hc54 hp
  refine zz 30 ?_
  refine zr' (v := .bool false) ?_
  have hob := Option.some.inj hp
  subst hob
  exact ⟨C49.upd, _, rfl, rfl⟩
 have hp := iqb hc54 hp
 refine zz 4 ?_
 refine zb 73 (b := ((y24.2) != 0)) (fun hc55 => ?_) (fun hc55 => ?_)
 ·
  have hp := ipb hc55 hp
  refine zz 26 ?_
  refine zr' (v := .bool false) ?_
  have hob := Option.some.inj hp
  subst hob
  exact ⟨C49.upd, _, rfl, rfl⟩
 have hp := iqb hc55 hp
 refine zz 4 ?_
 refine zb 77 (b := ((y30.2) != 0)) (fun hc56 => ?_) (fun hc56 => ?_)
 ·
  have hp := ipb hc56 hp
  refine zz 22 ?_
  refine zr' (v := .bool false) ?_
  have hob := Option.some.inj hp
  subst hob
  exact ⟨C49.upd, _, rfl, rfl⟩
 have hp := iqb hc56 hp
 refine zz 4 ?_
 refine zb 81 (b := ((y36.2) != 0)) (fun hc57 => ?_) (fun hc57 => ?_)
 ·
  have hp := ipb hc57 hp
  refine zz 18 ?_
  refine zr' (v := .bool false) ?_
  have hob := Option.some.inj hp
  subst hob
  exact ⟨C49.upd, _, rfl, rfl⟩
 have hp := iqb hc57 hp
 refine zz 4 ?_
 refine zb 85 (b := ((y45.2) != 0)) (fun hc58 => ?_) (fun hc58 => ?_)
 ·
  have hp := ipb hc58 hp
  refine zz 14 ?_
  refine zr' (v := .bool false) ?_
  have hob := Option.some.inj hp
  subst hob
  exact ⟨C49.upd, _, rfl, rfl⟩
 have hp := iqb hc58 hp
 refine zz 6 ?_
 refine zb 89 (b := ((y30.1.length : Int) != 12)) (fun hc59 => ?_) (fun hc59 => ?_)
 ·
  have hp := ipb hc59 hp
  refine zz 8 ?_
  refine zr' (v := .bool false) ?_
  have hob := Option.some.inj hp
  subst hob
  exact ⟨C49.upd, _, rfl, rfl⟩
 have hp := iqb hc59 hp
 refine zz 3 ?_
 have hob := ltd0 hp
 obtain ⟨J60, hJ60, hp⟩ := hob
 refine zjoin (fun (_ : Unit) => [(5, .slice u19_0_1 y18.1.length u19_0_2), (7, .slice u25_0_1 y24.1.length u25_0_2), (11, .pointer (some ⟨b39, 0, none⟩)), (13, .pointer (some ⟨b48, 0, none⟩))]) (fun (_ : Unit) w1 => ∃ Y1 : Hid, St E0 w X w1 Y1 [(b48, .cells #[.bool y45.1.neg, .slice u46_0_1 y45.1.ln.length u46_0_3, .slice u46_0_4 y45.1.ld.length u46_0_6] 28 (0, 0)), (b39, .cells #[.bool y36.1.neg, .slice u37_0_1 y36.1.ln.length u37_0_3, .slice u37_0_4 y36.1.ld.length u37_0_6] 28 (0, 0))] ∧ Le (rd w49 Y48) (rd w1 Y1) ∧ J60 = some y) ?_ ?_
 ·
  rintro _ w60 ⟨Y60, C60, B60, hp⟩
  have hp := hJ60.symm.trans hp
  refine zz 1 ?_
  refine zdr C60 ?_
  refine gz [0] ?_
  refine bndk hp fun y62 hy62 hp => ?_
  refine gC 1 (fun w61 Y61 _ C61 B61 => (clearwaylaw24_of_c _ X0 (X0_lt _) (1 : Int) (10 : Int) y62 hy62)) ?_
  rintro v63 w61 Y63 w63 C61 B63 ⟨u63_0_1, u63_0_2, u63_0_3, u63_0_4, u63_0_5, u63_0_6, rfl, u63_0__h0, u63_0__h1⟩
  have hob := u63_0__h0.hlen
  subst hob
  have hob := u63_0__h1.hlen
  subst hob
  refine gz [2] ?_
  refine bndk hp fun y65 hy65 hp => ?_
  refine gC 3 (fun w64 Y64 _ C64 B64 => (clearwaylaw24_of_c _ X0 (X0_lt _) (9 : Int) (10 : Int) y65 hy65)) ?_
  rintro v66 w64 Y66 w66 C64 B66 ⟨u66_0_1, u66_0_2, u66_0_3, u66_0_4, u66_0_5, u66_0_6, rfl, u66_0__h0, u66_0__h1⟩
  have hob := u66_0__h0.hlen
  subst hob
  have hob := u66_0__h1.hlen
  subst hob
  refine gz [4] ?_
  refine gp1 (al 5 127 (fun b => .slice (some ⟨b, 0, none⟩) 2 2) (.cells #[.int .i64 6, .bool y62.neg, .slice u63_0_1 y62.ln.length u63_0_3, .slice u63_0_4 y62.ld.length u63_0_6, .int .i64 10, .bool y65.neg, .slice u66_0_1 y65.ln.length u66_0_3, .slice u66_0_4 y65.ld.length u66_0_6] 80 (0, 0))) (fun b67 => ?_)
  have hc1_ := (Le14 B22 B25 B28 B31 B34 B37 B39 B40 B43 B46 B48 B49 B60 B63).trans B66
  refine bndk hp fun y69 hy69 hp => ?_
  refine gC 6 (vs := #[.slice u19_0_1 y18.1.length u19_0_2, .slice (some ⟨b67, 0, none⟩) 2 2]) (fun w68 Y68 _ C68 B68 => (clearwaykit_EqualOutcomes_c _ X0 (X0_lt _) y18.1 _ ⟨_, _, rfl, (((u19_0__h0.mono (Le.new C16.lt)).mono (hc1_.trans B68)).mono Le.x0)⟩ ([(Out.mk 6 y62), (Out.mk 10 y65)]) _ ⟨_, _, rfl, (SlR.lit (El := OutAt) (size := 4) (n := 2) [⟨(Out.mk 6 y62), [.int .i64 6, .bool y62.neg, .slice u63_0_1 y62.ln.length u63_0_3, .slice u63_0_4 y62.ld.length u63_0_6]⟩, ⟨(Out.mk 10 y65), [.int .i64 10, .bool y65.neg, .slice u66_0_1 y65.ln.length u66_0_3, .slice u66_0_4 y65.ld.length u66_0_6]⟩] (C68.at0 0 rfl rfl) (List.forall_mem_cons.2 ⟨⟨rfl, fun r2 h2 b o h9 => ⟨_, _, _, _, _, _, h9, ((((u63_0__h0.mono (Le.new C61.lt)).mono (Le2 B66 B68)).mono Le.x0).mono h2), ((((u63_0__h1.mono (Le.new C61.lt)).mono (Le2 B66 B68)).mono Le.x0).mono h2)⟩⟩, (List.forall_mem_cons.2 ⟨⟨rfl, fun r2 h2 b o h9 => ⟨_, _, _, _, _, _, h9, ((((u66_0__h0.mono (Le.new C64.lt)).mono B68).mono Le.x0).mono h2), ((((u66_0__h1.mono (Le.new C64.lt)).mono B68).mono Le.x0).mono h2)⟩⟩, (List.forall_mem_nil _)⟩)⟩) rfl (by decide))⟩ y69 hy69)) ?_
  rintro v70 w68 Y70 w70 C68 B70 rfl
  refine gz [7] ?_
  refine gb 129 (b := y69) (fun hc71 => ?_) (fun hc71 => ?_)
  ·
   have hp := ipb hc71 hp
   refine gz [8] ?_
   refine bndk hp fun y73 hy73 hp => ?_
   refine gC 9 (fun w72 Y72 _ C72 B72 => (clearwaylaw24_of_c _ X0 (X0_lt _) (1 : Int) (2 : Int) y73 hy73)) ?_
   rintro v74 w72 Y74 w74 C72 B74 ⟨u74_0_1, u74_0_2, u74_0_3, u74_0_4, u74_0_5, u74_0_6, rfl, u74_0__h0, u74_0__h1⟩
   have hob := u74_0__h0.hlen
   subst hob
   have hob := u74_0__h1.hlen
   subst hob
   refine gz [10] ?_
   refine bndk hp fun y76 hy76 hp => ?_
   refine gC 11 (fun w75 Y75 _ C75 B75 => (clearwaylaw24_of_c _ X0 (X0_lt _) (1 : Int) (2 : Int) y76 hy76)) ?_
   rintro v77 w75 Y77 w77 C75 B77 ⟨u77_0_1, u77_0_2, u77_0_3, u77_0_4, u77_0_5, u77_0_6, rfl, u77_0__h0, u77_0__h1⟩
   have hob := u77_0__h0.hlen
   subst hob
   have hob := u77_0__h1.hlen
   subst hob
   refine gz [12] ?_
   refine gp1 (al 13 135 (fun b => .slice (some ⟨b, 0, none⟩) 2 2) (.cells #[.int .i64 5, .bool y73.neg, .slice u74_0_1 y73.ln.length u74_0_3, .slice u74_0_4 y73.ld.length u74_0_6, .int .i64 7, .bool y76.neg, .slice u77_0_1 y76.ln.length u77_0_3, .slice u77_0_4 y76.ld.length u77_0_6] 80 (0, 0))) (fun b78 => ?_)
   have hc2_ := (Le15 B28 B31 B34 B37 B39 B40 B43 B46 B48 B49 B60 B63 B66 B70 B74).trans B77
   refine bndk hp fun y80 hy80 hp => ?_
   refine gC 14 (vs := #[.slice u25_0_1 y24.1.length u25_0_2, .slice (some ⟨b78, 0, none⟩) 2 2]) (fun w79 Y79 _ C79 B79 => (clearwaykit_EqualOutcomes_c _ X0 (X0_lt _) y24.1 _ ⟨_, _, rfl, (((u25_0__h0.mono (Le.new C22.lt)).mono (hc2_.trans B79)).mono Le.x0)⟩ ([(Out.mk 5 y73), (Out.mk 7 y76)]) _ ⟨_, _, rfl, (SlR.lit (El := OutAt) (size := 4) (n := 2) [⟨(Out.mk 5 y73), [.int .i64 5, .bool y73.neg, .slice u74_0_1 y73.ln.length u74_0_3, .slice u74_0_4 y73.ld.length u74_0_6]⟩, ⟨(Out.mk 7 y76), [.int .i64 7, .bool y76.neg, .slice u77_0_1 y76.ln.length u77_0_3, .slice u77_0_4 y76.ld.length u77_0_6]⟩] (C79.at0 0 rfl rfl) (List.forall_mem_cons.2 ⟨⟨rfl, fun r2 h2 b o h9 => ⟨_, _, _, _, _, _, h9, ((((u74_0__h0.mono (Le.new C72.lt)).mono (Le2 B77 B79)).mono Le.x0).mono h2), ((((u74_0__h1.mono (Le.new C72.lt)).mono (Le2 B77 B79)).mono Le.x0).mono h2)⟩⟩, (List.forall_mem_cons.2 ⟨⟨rfl, fun r2 h2 b o h9 => ⟨_, _, _, _, _, _, h9, ((((u77_0__h0.mono (Le.new C75.lt)).mono B79).mono Le.x0).mono h2), ((((u77_0__h1.mono (Le.new C75.lt)).mono B79).mono Le.x0).mono h2)⟩⟩, (List.forall_mem_nil _)⟩)⟩) rfl (by decide))⟩ y80 hy80)) ?_
   rintro v81 w79 Y81 w81 C79 B81 rfl
   refine gz [15, 16] ?_
   refine gb 138 (b := y80) (fun hc82 => ?_) (fun hc82 => ?_)
   ·
    have hp := ipb hc82 hp
    refine gw 17 1 ?_
    refine bndk hp fun y84 hy84 hp => ?_
    refine gC 18 (fun w83 Y83 _ C83 B83 => (clearwaylaw24_of_c _ X0 (X0_lt _) (1 : Int) (10 : Int) y84 hy84)) ?_
    rintro v85 w83 Y85 w85 C83 B85 ⟨u85_0_1, u85_0_2, u85_0_3, u85_0_4, u85_0_5, u85_0_6, rfl, u85_0__h0, u85_0__h1⟩
    have hob := u85_0__h0.hlen
    subst hob
    have hob := u85_0__h1.hlen
    subst hob
    have hc3_ := (Le13 B39 B40 B43 B46 B48 B49 B60 B63 B66 B70 B74 B77 B81).trans B85
    refine bndk hp fun y87 hy87 hp => ?_
    refine gC 19 (fun w86 Y86 _ C86 B86 => (clearwaykit_EqualRat_c _ X0 (X0_lt _) y36.1 _ ⟨_, _, _, _, _, _, rfl, (((u37_0__h0.mono (Le.new C34.lt)).mono (hc3_.trans B86)).mono Le.x0), (((u37_0__h1.mono (Le.new C34.lt)).mono (hc3_.trans B86)).mono Le.x0)⟩ y84 _ ⟨_, _, _, _, _, _, rfl, (((u85_0__h0.mono (Le.new C83.lt)).mono B86).mono Le.x0), (((u85_0__h1.mono (Le.new C83.lt)).mono B86).mono Le.x0)⟩ y87 hy87)) ?_
    rintro v88 w86 Y88 w88 C86 B88 rfl
    refine gz [20, 21] ?_
    refine gb 143 (b := y87) (fun hc89 => ?_) (fun hc89 => ?_)
    ·
     have hp := ipb hc89 hp
     refine gw 22 0 ?_
     refine bndk hp fun y91 hy91 hp => ?_
     refine gC 23 (fun w90 Y90 _ C90 B90 => (clearwaylaw24_of_c _ X0 (X0_lt _) (1 : Int) (10 : Int) y91 hy91)) ?_
     rintro v92 w90 Y92 w92 C90 B92 ⟨u92_0_1, u92_0_2, u92_0_3, u92_0_4, u92_0_5, u92_0_6, rfl, u92_0__h0, u92_0__h1⟩
     have hob := u92_0__h0.hlen
     subst hob
     have hob := u92_0__h1.hlen
     subst hob
     have hc4_ := (Le11 B48 B49 B60 B63 B66 B70 B74 B77 B81 B85 B88).trans B92
     refine bndk hp fun y94 hy94 hp => ?_
     refine gC 24 (fun w93 Y93 _ C93 B93 => (clearwaykit_EqualRat_c _ X0 (X0_lt _) y45.1 _ ⟨_, _, _, _, _, _, rfl, (((u46_0__h0.mono (Le.new C43.lt)).mono (hc4_.trans B93)).mono Le.x0), (((u46_0__h1.mono (Le.new C43.lt)).mono (hc4_.trans B93)).mono Le.x0)⟩ y91 _ ⟨_, _, _, _, _, _, rfl, (((u92_0__h0.mono (Le.new C90.lt)).mono B93).mono Le.x0), (((u92_0__h1.mono (Le.new C90.lt)).mono B93).mono Le.x0)⟩ y94 hy94)) ?_
     rintro v95 w93 Y95 w95 C93 B95 rfl
     refine gz [25, 26] ?_
     refine gend (fun w96 Y96 C96 B96 => ?_)
     refine zz 2 ?_
     refine zr' (v := .bool y94) ?_
     have hob := Option.some.inj hp
     subst hob
     exact ⟨C96.upd, _, rfl, rfl⟩
    have hp := iqb hc89 hp
    refine gz [22, 23, 24, 25, 26] ?_
    refine gend (fun w97 Y97 C97 B97 => ?_)
    refine zz 2 ?_
    refine zr' (v := .bool false) ?_
    have hob := Option.some.inj hp
    subst hob
    exact ⟨C97.upd, _, rfl, rfl⟩
   have hp := iqb hc82 hp
   refine gz [17, 18, 19, 20, 21, 22, 23, 24, 25, 26] ?_
   refine gend (fun w98 Y98 C98 B98 => ?_)
   refine zz 2 ?_
   refine zr' (v := .bool false) ?_
   have hob := Option.some.inj hp
   subst hob
   exact ⟨C98.upd, _, rfl, rfl⟩
  have hp := iqb hc71 hp
  refine gz [8, 9, 10, 11, 12, 13, 14, 15, 16, 17, 18, 19, 20, 21, 22, 23, 24, 25, 26] ?_
  refine gend (fun w99 Y99 C99 B99 => ?_)
  refine zz 2 ?_
  refine zr' (v := .bool false) ?_
  have hob := Option.some.inj hp
  subst hob
  exact ⟨C99.upd, _, rfl, rfl⟩
 intro K100 H100
 refine zz 6 ?_
 refine zlp Tryz.f7 [K100] [1, 1, 1, 1, 1, 1, 1, 1, 1, 9, 1, 0] (fun (k101 : Nat) => [(5, .slice u19_0_1 y18.1.length u19_0_2), (7, .slice u25_0_1 y24.1.length u25_0_2), (9, .slice u31_0_1 y30.1.length u31_0_2), (11, .pointer (some ⟨b39, 0, none⟩)), (13, .pointer (some ⟨b48, 0, none⟩)), (15, .int .i64 (k101 : Int))]) (fun (k101 : Nat) w1 => ∃ Y1 : Hid, St E0 w X w1 Y1 [(b48, .cells #[.bool y45.1.neg, .slice u46_0_1 y45.1.ln.length u46_0_3, .slice u46_0_4 y45.1.ld.length u46_0_6] 28 (0, 0)), (b39, .cells #[.bool y36.1.neg, .slice u37_0_1 y36.1.ln.length u37_0_3, .slice u37_0_4 y36.1.ld.length u37_0_6] 28 (0, 0))] ∧ Le (rd w49 Y48) (rd w1 Y1) ∧ clearwaylaw24_awake_l101 y30 J60 ((12 : Int).toNat - k101) k101 = some y) (fun (k101 : Nat) => (12 : Int).toNat - k101) 0 ?_ ?_
 ·
  exact ⟨_, C49, Le.refl _, hp⟩
 rintro k101 w101 K101 H101 ⟨Y101, C101, B101, hp⟩
 refine zz 7 ?_
 refine zt 91 (p := (k101 : Int) < 12) (fun ht102 => ?_) (fun ht102 => ?_)
 ·
  have hob := cnt_ltI (N := (12 : Int)) (k := k101) ht102
  obtain ⟨r101, hm101, hn101⟩ := hob
  rw [hm101, clearwaylaw24_awake_l101] at hp
  refine zz 6 ?_
  refine zdr C101 ?_
  refine gz [0, 1, 2] ?_
  refine gt 96 (p := (k101 : Int) ≥ 4) (fun ht103 => ?_) (fun ht103 => ?_)
  ·
   have hp := ip ht103 hp
   refine bndk hp fun x104 hx104 hp => ?_
   have hob := ix_some hx104
   obtain ⟨hzx104, hqx104⟩ := hob
   have hwx104 : y30.1[k101]? = some x104 := hqx104
   have hob := (u31_0__h0.mono (Le.new C28.lt)).sl.opn hwx104
   obtain ⟨be105, oe105, rfl, B105, hEe105⟩ := hob
   obtain ⟨e1051, e1052, e1053, e1054, e1055, e1056, e105_at, e105_h0, e105_h1⟩ := hEe105
   have hob := e105_h0.hlen
   subst hob
   have hob := e105_h1.hlen
   subst hob
   refine gz [3, 4, 5, 6, 7] ?_
   refine gi 8 (b := be105) (off := oe105) (len := y30.1.length) (cap := u31_0_2) (kd := .i64) (i := (k101 : Int)) 3 (oe105 + k101 * 3) ?_ (h0 := hzx104) (h1 := (ix_b hzx104 B105))
   have hc5_ := (Le8 B34 B37 B39 B40 B43 B46 B48 B49).trans B101
   refine gl 9 ((e105_at.mono hc5_)) ?_
   refine bndk hp fun y107 hy107 hp => ?_
   refine gC 10 (fun w106 Y106 _ C106 B106 => (rat_From_c _ X0 (X0_lt _) (1 : Int) y107 hy107)) ?_
   rintro v108 w106 Y108 w108 C106 B108 ⟨u108_0_1, u108_0_2, u108_0_3, u108_0_4, u108_0_5, u108_0_6, rfl, u108_0__h0, u108_0__h1⟩
   have hob := u108_0__h0.hlen
   subst hob
   have hob := u108_0__h1.hlen
   subst hob
   have hc6_ := (Le9 B34 B37 B39 B40 B43 B46 B48 B49 B101).trans B108
   refine bndk hp fun y110 hy110 hp => ?_
   refine gC 11 (fun w109 Y109 _ C109 B109 => (clearwaykit_EqualRat_c _ X0 (X0_lt _) x104 _ ⟨_, _, _, _, _, _, rfl, ((e105_h0.mono (hc6_.trans B109)).mono Le.x0), ((e105_h1.mono (hc6_.trans B109)).mono Le.x0)⟩ y107 _ ⟨_, _, _, _, _, _, rfl, (((u108_0__h0.mono (Le.new C106.lt)).mono B109).mono Le.x0), (((u108_0__h1.mono (Le.new C106.lt)).mono B109).mono Le.x0)⟩ y110 hy110)) ?_
   rintro v111 w109 Y111 w111 C109 B111 rfl
   refine gz [12, 13] ?_
   refine gb 107 (b := !((decide ((k101 : Int) ≤ 7)) == y110)) (fun hc112 => ?_) (fun hc112 => ?_)
   ·
    have hp := ipb hc112 hp
    refine gz [14, 15, 16, 17, 18, 19, 20, 21, 22, 23, 24, 25, 26, 27] ?_
    refine gend (fun w113 Y113 C113 B113 => ?_)
    refine zz 13 ?_
    refine zr' (v := .bool false) ?_
    have hob := Option.some.inj hp
    subst hob
    exact ⟨C113.upd, _, rfl, rfl⟩
   have hp := iqb hc112 hp
   refine gz [14, 15, 16] ?_
   refine gt 110 (p := (k101 : Int) < 4) (fun ht114 => ?_) (fun ht114 => ?_)
   ·
    have hp := ip ht114 hp
    refine gz [17, 18, 19, 20, 21] ?_
    refine gi 22 (b := be105) (off := oe105) (len := y30.1.length) (cap := u31_0_2) (kd := .i64) (i := (k101 : Int)) 3 (oe105 + k101 * 3) ?_ (h0 := hzx104) (h1 := (ix_b hzx104 B105))
    have hc7_ := (Le8 B34 B37 B39 B40 B43 B46 B48 B49).trans B101
    refine gl 23 ((e105_at.mono hc7_)) ?_
    refine gz [24] ?_
    have hc8_ := hc6_.trans B111
    refine bndk hp fun y116 hy116 hp => ?_
    refine gC 25 (vs := #[.agg #[.bool x104.neg, .slice e1051 x104.ln.length e1053, .slice e1054 x104.ld.length e1056], .agg #[.bool false, .slice none 0 0, .slice none 0 0]]) (fun w115 Y115 _ C115 B115 => (clearwaykit_EqualRat_c _ X0 (X0_lt _) x104 _ ⟨_, _, _, _, _, _, rfl, ((e105_h0.mono (hc8_.trans B115)).mono Le.x0), ((e105_h1.mono (hc8_.trans B115)).mono Le.x0)⟩ Raw.zero _ ⟨_, _, _, _, _, _, rfl, Limbs.nil0, Limbs.nil0⟩ y116 hy116)) ?_
    rintro v117 w115 Y117 w117 C115 B117 rfl
    refine gz [26, 27] ?_
    refine gend (fun w118 Y118 C118 B118 => ?_)
    refine zz 1 ?_
    refine zb 121 (b := !(true == y116)) (fun hc119 => ?_) (fun hc119 => ?_)
    ·
     have hp := ipb hc119 hp
     refine zz 12 ?_
     refine zr' (v := .bool false) ?_
     have hob := Option.some.inj hp
     subst hob
     exact ⟨C118.upd, _, rfl, rfl⟩
    have hp := iqb hc119 hp
    refine zz 7 ?_
    refine zs 93 (v := .int .i64 (IntKind.i64.wrap ((k101 : Int) + 1))) (v' := .int .i64 ((k101 : Int) + 1)) (vint (wi64 (wk0 k101) (wk1 ht102 (by decide)))) ?_
    refine zz 2 ?_
    have hc9_ := (Le4 B101 B108 B111 B117).trans B118
    refine znext (fun a h => H101 (k101 + 1) _ a h ⟨_, C118, hc9_, (by rw [hn101]; exact hp)⟩ ?_)
    exact mu_ltN ht102
   have hp := iq ht114 hp
   refine gz [17, 18, 19, 20, 21] ?_
   refine gi 22 (b := be105) (off := oe105) (len := y30.1.length) (cap := u31_0_2) (kd := .i64) (i := (k101 : Int)) 3 (oe105 + k101 * 3) ?_ (h0 := hzx104) (h1 := (ix_b hzx104 B105))
   have hc10_ := (Le8 B34 B37 B39 B40 B43 B46 B48 B49).trans B101
   refine gl 23 ((e105_at.mono hc10_)) ?_
   refine gz [24] ?_
   have hc11_ := hc6_.trans B111
   refine bndk hp fun y121 hy121 hp => ?_
   refine gC 25 (vs := #[.agg #[.bool x104.neg, .slice e1051 x104.ln.length e1053, .slice e1054 x104.ld.length e1056], .agg #[.bool false, .slice none 0 0, .slice none 0 0]]) (fun w120 Y120 _ C120 B120 => (clearwaykit_EqualRat_c _ X0 (X0_lt _) x104 _ ⟨_, _, _, _, _, _, rfl, ((e105_h0.mono (hc11_.trans B120)).mono Le.x0), ((e105_h1.mono (hc11_.trans B120)).mono Le.x0)⟩ Raw.zero _ ⟨_, _, _, _, _, _, rfl, Limbs.nil0, Limbs.nil0⟩ y121 hy121)) ?_
   rintro v122 w120 Y122 w122 C120 B122 rfl
   refine gz [26, 27] ?_
   refine gend (fun w123 Y123 C123 B123 => ?_)
   refine zz 1 ?_
   refine zb 121 (b := !((decide ((k101 : Int) > 7)) == y121)) (fun hc124 => ?_) (fun hc124 => ?_)
   ·
    have hp := ipb hc124 hp
    refine zz 12 ?_
    refine zr' (v := .bool false) ?_
    have hob := Option.some.inj hp
    subst hob
    exact ⟨C123.upd, _, rfl, rfl⟩
   have hp := iqb hc124 hp
   refine zz 7 ?_
   refine zs 93 (v := .int .i64 (IntKind.i64.wrap ((k101 : Int) + 1))) (v' := .int .i64 ((k101 : Int) + 1)) (vint (wi64 (wk0 k101) (wk1 ht102 (by decide)))) ?_
   refine zz 2 ?_
   have hc12_ := (Le4 B101 B108 B111 B122).trans B123
   refine znext (fun a h => H101 (k101 + 1) _ a h ⟨_, C123, hc12_, (by rw [hn101]; exact hp)⟩ ?_)
   exact mu_ltN ht102
  have hp := iq ht103 hp
  refine bndk hp fun x125 hx125 hp => ?_
  have hob := ix_some hx125
  obtain ⟨hzx125, hqx125⟩ := hob
  have hwx125 : y30.1[k101]? = some x125 := hqx125
  have hob := (u31_0__h0.mono (Le.new C28.lt)).sl.opn hwx125
  obtain ⟨be126, oe126, rfl, B126, hEe126⟩ := hob
  obtain ⟨e1261, e1262, e1263, e1264, e1265, e1266, e126_at, e126_h0, e126_h1⟩ := hEe126
  have hob := e126_h0.hlen
  subst hob
  have hob := e126_h1.hlen
  subst hob
  refine gz [3, 4, 5, 6, 7] ?_
  refine gi 8 (b := be126) (off := oe126) (len := y30.1.length) (cap := u31_0_2) (kd := .i64) (i := (k101 : Int)) 3 (oe126 + k101 * 3) ?_ (h0 := hzx125) (h1 := (ix_b hzx125 B126))
  have hc13_ := (Le8 B34 B37 B39 B40 B43 B46 B48 B49).trans B101
  refine gl 9 ((e126_at.mono hc13_)) ?_
  refine bndk hp fun y128 hy128 hp => ?_
  refine gC 10 (fun w127 Y127 _ C127 B127 => (rat_From_c _ X0 (X0_lt _) (1 : Int) y128 hy128)) ?_
  rintro v129 w127 Y129 w129 C127 B129 ⟨u129_0_1, u129_0_2, u129_0_3, u129_0_4, u129_0_5, u129_0_6, rfl, u129_0__h0, u129_0__h1⟩
  have hob := u129_0__h0.hlen
  subst hob
  have hob := u129_0__h1.hlen
  subst hob
  have hc14_ := (Le9 B34 B37 B39 B40 B43 B46 B48 B49 B101).trans B129
  refine bndk hp fun y131 hy131 hp => ?_
  refine gC 11 (fun w130 Y130 _ C130 B130 => (clearwaykit_EqualRat_c _ X0 (X0_lt _) x125 _ ⟨_, _, _, _, _, _, rfl, ((e126_h0.mono (hc14_.trans B130)).mono Le.x0), ((e126_h1.mono (hc14_.trans B130)).mono Le.x0)⟩ y128 _ ⟨_, _, _, _, _, _, rfl, (((u129_0__h0.mono (Le.new C127.lt)).mono B130).mono Le.x0), (((u129_0__h1.mono (Le.new C127.lt)).mono B130).mono Le.x0)⟩ y131 hy131)) ?_
  rintro v132 w130 Y132 w132 C130 B132 rfl
  refine gz [12, 13] ?_
  refine gb 107 (b := !(false == y131)) (fun hc133 => ?_) (fun hc133 => ?_)
  ·
   have hp := ipb hc133 hp
   refine gz [14, 15, 16, 17, 18, 19, 20, 21, 22, 23, 24, 25, 26, 27] ?_
   refine gend (fun w134 Y134 C134 B134 => ?_)
   refine zz 13 ?_
   refine zr' (v := .bool false) ?_
   have hob := Option.some.inj hp
   subst hob
   exact ⟨C134.upd, _, rfl, rfl⟩
  have hp := iqb hc133 hp
  refine gz [14, 15, 16] ?_
  refine gt 110 (p := (k101 : Int) < 4) (fun ht135 => ?_) (fun ht135 => ?_)
  ·
   have hp := ip ht135 hp
   refine gz [17, 18, 19, 20, 21] ?_
   refine gi 22 (b := be126) (off := oe126) (len := y30.1.length) (cap := u31_0_2) (kd := .i64) (i := (k101 : Int)) 3 (oe126 + k101 * 3) ?_ (h0 := hzx125) (h1 := (ix_b hzx125 B126))
   have hc15_ := (Le8 B34 B37 B39 B40 B43 B46 B48 B49).trans B101
   refine gl 23 ((e126_at.mono hc15_)) ?_
   refine gz [24] ?_
   have hc16_ := hc14_.trans B132
   refine bndk hp fun y137 hy137 hp => ?_
   refine gC 25 (vs := #[.agg #[.bool x125.neg, .slice e1261 x125.ln.length e1263, .slice e1264 x125.ld.length e1266], .agg #[.bool false, .slice none 0 0, .slice none 0 0]]) (fun w136 Y136 _ C136 B136 => (clearwaykit_EqualRat_c _ X0 (X0_lt _) x125 _ ⟨_, _, _, _, _, _, rfl, ((e126_h0.mono (hc16_.trans B136)).mono Le.x0), ((e126_h1.mono (hc16_.trans B136)).mono Le.x0)⟩ Raw.zero _ ⟨_, _, _, _, _, _, rfl, Limbs.nil0, Limbs.nil0⟩ y137 hy137)) ?_
   rintro v138 w136 Y138 w138 C136 B138 rfl
   refine gz [26, 27] ?_
   refine gend (fun w139 Y139 C139 B139 => ?_)
   refine zz 1 ?_
   refine zb 121 (b := !(true == y137)) (fun hc140 => ?_) (fun hc140 => ?_)
   ·
    have hp := ipb hc140 hp
    refine zz 12 ?_
    refine zr' (v := .bool false) ?_
    have hob := Option.some.inj hp
    subst hob
    exact ⟨C139.upd, _, rfl, rfl⟩
   have hp := iqb hc140 hp
   refine zz 7 ?_
   refine zs 93 (v := .int .i64 (IntKind.i64.wrap ((k101 : Int) + 1))) (v' := .int .i64 ((k101 : Int) + 1)) (vint (wi64 (wk0 k101) (wk1 ht102 (by decide)))) ?_
   refine zz 2 ?_
   have hc17_ := (Le4 B101 B129 B132 B138).trans B139
   refine znext (fun a h => H101 (k101 + 1) _ a h ⟨_, C139, hc17_, (by rw [hn101]; exact hp)⟩ ?_)
   exact mu_ltN ht102
  have hp := iq ht135 hp
  refine gz [17, 18, 19, 20, 21] ?_
  refine gi 22 (b := be126) (off := oe126) (len := y30.1.length) (cap := u31_0_2) (kd := .i64) (i := (k101 : Int)) 3 (oe126 + k101 * 3) ?_ (h0 := hzx125) (h1 := (ix_b hzx125 B126))
  have hc18_ := (Le8 B34 B37 B39 B40 B43 B46 B48 B49).trans B101
  refine gl 23 ((e126_at.mono hc18_)) ?_
  refine gz [24] ?_
  have hc19_ := hc14_.trans B132
  refine bndk hp fun y142 hy142 hp => ?_
  refine gC 25 (vs := #[.agg #[.bool x125.neg, .slice e1261 x125.ln.length e1263, .slice e1264 x125.ld.length e1266], .agg #[.bool false, .slice none 0 0, .slice none 0 0]]) (fun w141 Y141 _ C141 B141 => (clearwaykit_EqualRat_c _ X0 (X0_lt _) x125 _ ⟨_, _, _, _, _, _, rfl, ((e126_h0.mono (hc19_.trans B141)).mono Le.x0), ((e126_h1.mono (hc19_.trans B141)).mono Le.x0)⟩ Raw.zero _ ⟨_, _, _, _, _, _, rfl, Limbs.nil0, Limbs.nil0⟩ y142 hy142)) ?_
  rintro v143 w141 Y143 w143 C141 B143 rfl
  refine gz [26, 27] ?_
  refine gend (fun w144 Y144 C144 B144 => ?_)
  refine zz 1 ?_
  refine zb 121 (b := !((decide ((k101 : Int) > 7)) == y142)) (fun hc145 => ?_) (fun hc145 => ?_)
  ·
   have hp := ipb hc145 hp
   refine zz 12 ?_
   refine zr' (v := .bool false) ?_
   have hob := Option.some.inj hp
   subst hob
   exact ⟨C144.upd, _, rfl, rfl⟩
  have hp := iqb hc145 hp
  refine zz 7 ?_
  refine zs 93 (v := .int .i64 (IntKind.i64.wrap ((k101 : Int) + 1))) (v' := .int .i64 ((k101 : Int) + 1)) (vint (wi64 (wk0 k101) (wk1 ht102 (by decide)))) ?_
  refine zz 2 ?_
  have hc20_ := (Le4 B101 B129 B132 B143).trans B144
  refine znext (fun a h => H101 (k101 + 1) _ a h ⟨_, C144, hc20_, (by rw [hn101]; exact hp)⟩ ?_)
  exact mu_ltN ht102
 rw [cnt_end (N := (12 : Int)) ht102, clearwaylaw24_awake_l101] at hp
 refine zz 5 ?_
 exact znext (fun a h => H100 () _ a h ⟨_, C101, B101, hp⟩)
end Go.Proofs.YtjnbipmlmafahaaGreat
namespace Go.Proofs.YtjnbipmlmafahaaGreat
open Go Go.Gv Go.RowKit
set_option maxRecDepth 100000
set_option maxHeartbeats 1000000
open Go.ChangeShapes
section
variable {H : Type} {enc : TypeId × Value → H} {w : World} {spare : Nat → Bool} {held : Bool}
theorem lo18 {cs : List Value} (h : cs.length = 18) : ∃ c0 c1 c2 c3 c4 c5 c6 c7 c8 c9 c10 c11 c12 c13 c14 c15 c16 c17, cs = [c0, c1, c2, c3, c4, c5, c6, c7, c8, c9, c10, c11, c12, c13, c14, c15, c16, c17] := by
  match cs, h with
  | [c0, c1, c2, c3, c4, c5, c6, c7, c8, c9, c10, c11, c12, c13, c14, c15, c16, c17], _ => exact ⟨c0, c1, c2, c3, c4, c5, c6, c7, c8, c9, c10, c11, c12, c13, c14, c15, c16, c17, rfl⟩
theorem osl22 {n : Nat} {cs : List Value} {y : DataW H × List MemPlace} (h : TrodZ enc Tryz.prog w spare held n 22 cs y) : ∃ (ad : Option Addr) (cap : Nat) (l : List Int), cs = [.slice ad l.length cap] ∧ Ints (rd w X0) ad l.length cap l := by
  obtain ⟨ad, len, cap, xs, e, hx, hl⟩ := open_sl (bts := 8) Tryz.underlying22 kr (by omega) kr (open_intEl Tryz.underlying3) h
  obtain rfl := hx.hlen
  exact ⟨ad, cap, xs, e, hx⟩
theorem lo3 {cs : List Value} (h : cs.length = 3) : ∃ c0 c1 c2, cs = [c0, c1, c2] := by
  match cs, h with
  | [c0, c1, c2], _ => exact ⟨c0, c1, c2, rfl⟩
theorem ost96 {n : Nat} {cs : List Value} {y : DataW H × List MemPlace} (h : TrodZ enc Tryz.prog w spare held n 96 cs y) : ∃ (x : BoundsD) , cs = [.int .u8 x.sense, .int .i64 x.lo, .int .i64 x.hi] := by
  obtain ⟨c0, c1, c2, rfl⟩ := lo3 (flen (size := 3) Tryz.underlying96 h kr)
  obtain ⟨n0, y0, h0⟩ := fld (size := 1) Tryz.underlying96 h 0 rfl kr
  obtain ⟨z0, e0, _⟩ := DataW.trod_int Tryz.underlying5 h0.1
  obtain rfl : c0 = .int .u8 z0 := by simpa using e0
  obtain ⟨n1, y1, h1⟩ := fld (size := 1) Tryz.underlying96 h 1 rfl kr
  obtain ⟨z1, e1, _⟩ := DataW.trod_int Tryz.underlying3 h1.1
  obtain rfl : c1 = .int .i64 z1 := by simpa using e1
  obtain ⟨n2, y2, h2⟩ := fld (size := 1) Tryz.underlying96 h 2 rfl kr
  obtain ⟨z2, e2, _⟩ := DataW.trod_int Tryz.underlying3 h2.1
  obtain rfl : c2 = .int .i64 z2 := by simpa using e2
  exact ⟨⟨z0, z1, z2⟩, rfl⟩
theorem oel96 : OpenEl enc Tryz.prog w spare held 96 3 BoundsDAt := fun n cs y b off h hl hat => by
  obtain ⟨x, rfl⟩ := ost96 h
  exact ⟨x, hat⟩
theorem osl23 {n : Nat} {cs : List Value} {y : DataW H × List MemPlace} (h : TrodZ enc Tryz.prog w spare held n 23 cs y) : ∃ (ad : Option Addr) (cap : Nat) (l : List BoundsD), cs = [.slice ad l.length cap] ∧ BoundsDS (rd w X0) ad l.length cap l := by
  obtain ⟨ad, len, cap, xs, e, hx, hl⟩ := open_sl (bts := 24) Tryz.underlying23 kr (by omega) kr oel96 h
  obtain rfl := hx.hlen
  exact ⟨ad, cap, xs, e, hx⟩
theorem lo4 {cs : List Value} (h : cs.length = 4) : ∃ c0 c1 c2 c3, cs = [c0, c1, c2, c3] := by
  match cs, h with
  | [c0, c1, c2, c3], _ => exact ⟨c0, c1, c2, c3, rfl⟩
theorem osl26 {n : Nat} {cs : List Value} {y : DataW H × List MemPlace} (h : TrodZ enc Tryz.prog w spare held n 26 cs y) : ∃ (ad : Option Addr) (cap : Nat) (l : List Nat), cs = [.slice ad l.length cap] ∧ Limbs (rd w X0) ad l.length cap l := by
  obtain ⟨ad, len, cap, xs, e, hx, hl⟩ := open_sl (bts := 4) Tryz.underlying26 kr (by omega) kr (open_limb Tryz.underlying179) h
  obtain rfl := hx.hlen
  exact ⟨ad, cap, xs, e, hx.limbs⟩
theorem ost28 {n : Nat} {cs : List Value} {y : DataW H × List MemPlace} (h : TrodZ enc Tryz.prog w spare held n 28 cs y) : ∃ (x : Raw) (a1 : Option Addr) (a2 : Nat) (a3 : Nat) (a4 : Option Addr) (a5 : Nat) (a6 : Nat), cs = [.bool x.neg, .slice a1 a2 a3, .slice a4 a5 a6] ∧ Limbs (rd w X0) a1 a2 a3 x.ln ∧ Limbs (rd w X0) a4 a5 a6 x.ld := by
  obtain ⟨c0, c1, c2, rfl⟩ := lo3 (flen (size := 3) Tryz.underlying28 h kr)
  obtain ⟨n0, y0, h0⟩ := fld (size := 1) Tryz.underlying28 h 0 rfl kr
  obtain ⟨z0, e0, _⟩ := DataW.trod_bool Tryz.underlying4 h0.1
  obtain rfl : c0 = .bool z0 := by simpa using e0
  obtain ⟨n1, y1, h1⟩ := fld (size := 1) Tryz.underlying28 h 1 rfl kr
  obtain ⟨a1, b1, l1, e1, g1⟩ := osl26 h1
  obtain rfl : c1 = .slice a1 l1.length b1 := by simpa using e1
  obtain ⟨n2, y2, h2⟩ := fld (size := 1) Tryz.underlying28 h 2 rfl kr
  obtain ⟨a2, b2, l2, e2, g2⟩ := osl26 h2
  obtain rfl : c2 = .slice a2 l2.length b2 := by simpa using e2
  exact ⟨⟨z0, l1, l2⟩, a1, l1.length, b1, a2, l2.length, b2, rfl, g1, g2⟩
theorem ost76 {n : Nat} {cs : List Value} {y : DataW H × List MemPlace} (h : TrodZ enc Tryz.prog w spare held n 76 cs y) : ∃ (x : NoiseD) (a1 : Option Addr) (a2 : Nat) (a3 : Option Addr) (a4 : Nat), cs = [.int .i64 x.delta, .bool x.p.neg, .slice a1 x.p.ln.length a2, .slice a3 x.p.ld.length a4] ∧ Limbs (rd w X0) a1 x.p.ln.length a2 x.p.ln ∧ Limbs (rd w X0) a3 x.p.ld.length a4 x.p.ld := by
  obtain ⟨c0, c1, c2, c3, rfl⟩ := lo4 (flen (size := 4) Tryz.underlying76 h kr)
  obtain ⟨n0, y0, h0⟩ := fld (size := 1) Tryz.underlying76 h 0 rfl kr
  obtain ⟨z0, e0, _⟩ := DataW.trod_int Tryz.underlying3 h0.1
  obtain rfl : c0 = .int .i64 z0 := by simpa using e0
  obtain ⟨n1, y1, h1⟩ := fld (size := 3) Tryz.underlying76 h 1 rfl kr
  obtain ⟨x1, x1q1, x1q2, x1q3, x1q4, x1q5, x1q6, e1, f1_0, f1_1⟩ := ost28 h1
  have e1' : [c1, c2, c3] = [.bool x1.neg, .slice x1q1 x1q2 x1q3, .slice x1q4 x1q5 x1q6] := e1
  simp only [List.cons.injEq, and_true] at e1'
  obtain ⟨rfl, rfl, rfl⟩ := e1'
  obtain rfl := f1_0.hlen
  obtain rfl := f1_1.hlen
  exact ⟨⟨z0, x1⟩, x1q1, x1q3, x1q4, x1q6, rfl, f1_0, f1_1⟩
theorem oel76 : OpenEl enc Tryz.prog w spare held 76 4 NoiseDAt := fun n cs y b off h hl hat => by
  obtain ⟨x, a1, a2, a3, a4, rfl, hh0, hh1⟩ := ost76 h
  exact ⟨x, ⟨a1, a2, a3, a4, hat, hh0, hh1⟩⟩
theorem osl24 {n : Nat} {cs : List Value} {y : DataW H × List MemPlace} (h : TrodZ enc Tryz.prog w spare held n 24 cs y) : ∃ (ad : Option Addr) (cap : Nat) (l : List NoiseD), cs = [.slice ad l.length cap] ∧ NoiseDS (rd w X0) ad l.length cap l := by
  obtain ⟨ad, len, cap, xs, e, hx, hl⟩ := open_sl (bts := 64) Tryz.underlying24 kr (by omega) kr oel76 h
  obtain rfl := hx.hlen
  exact ⟨ad, cap, xs, e, hx⟩
theorem ost30 {n : Nat} {cs : List Value} {y : DataW H × List MemPlace} (h : TrodZ enc Tryz.prog w spare held n 30 cs y) : ∃ (x : ModelD) (a1 : Option Addr) (a2 : Nat) (a3 : Option Addr) (a4 : Nat) (a5 : Option Addr) (a6 : Nat) (a7 : Option Addr) (a8 : Nat) (a9 : Option Addr) (a10 : Nat) (a11 : Option Addr) (a12 : Nat) (a13 : Option Addr) (a14 : Nat) (a15 : Option Addr) (a16 : Nat) (a17 : Option Addr) (a18 : Nat) (a19 : Option Addr) (a20 : Nat) (a21 : Option Addr) (a22 : Nat) (a23 : Option Addr) (a24 : Nat), cs = [.slice a1 x.height.length a2, .slice a3 x.own.length a4, .slice a5 x.other.length a6, .slice a7 x.advisories.length a8, .int .i64 x.pull, .int .i64 x.near, .int .i64 x.steps, .slice a9 x.ownNoise.length a10, .slice a11 x.otherNoise.length a12, .bool x.alert.neg, .slice a13 x.alert.ln.length a14, .slice a15 x.alert.ld.length a16, .bool x.strengthen.neg, .slice a17 x.strengthen.ln.length a18, .slice a19 x.strengthen.ld.length a20, .bool x.reversal.neg, .slice a21 x.reversal.ln.length a22, .slice a23 x.reversal.ld.length a24] ∧ Ints (rd w X0) a1 x.height.length a2 x.height ∧ Ints (rd w X0) a3 x.own.length a4 x.own ∧ Ints (rd w X0) a5 x.other.length a6 x.other ∧ BoundsDS (rd w X0) a7 x.advisories.length a8 x.advisories ∧ NoiseDS (rd w X0) a9 x.ownNoise.length a10 x.ownNoise ∧ NoiseDS (rd w X0) a11 x.otherNoise.length a12 x.otherNoise ∧ Limbs (rd w X0) a13 x.alert.ln.length a14 x.alert.ln ∧ Limbs (rd w X0) a15 x.alert.ld.length a16 x.alert.ld ∧ Limbs (rd w X0) a17 x.strengthen.ln.length a18 x.strengthen.ln ∧ Limbs (rd w X0) a19 x.strengthen.ld.length a20 x.strengthen.ld ∧ Limbs (rd w X0) a21 x.reversal.ln.length a22 x.reversal.ln ∧ Limbs (rd w X0) a23 x.reversal.ld.length a24 x.reversal.ld := by
  obtain ⟨c0, c1, c2, c3, c4, c5, c6, c7, c8, c9, c10, c11, c12, c13, c14, c15, c16, c17, rfl⟩ := lo18 (flen (size := 18) Tryz.underlying30 h kr)
  obtain ⟨n0, y0, h0⟩ := fld (size := 1) Tryz.underlying30 h 0 rfl kr
  obtain ⟨a0, b0, l0, e0, g0⟩ := osl22 h0
  obtain rfl : c0 = .slice a0 l0.length b0 := by simpa using e0
  obtain ⟨n1, y1, h1⟩ := fld (size := 1) Tryz.underlying30 h 1 rfl kr
  obtain ⟨a1, b1, l1, e1, g1⟩ := osl22 h1
  obtain rfl : c1 = .slice a1 l1.length b1 := by simpa using e1
  obtain ⟨n2, y2, h2⟩ := fld (size := 1) Tryz.underlying30 h 2 rfl kr
  obtain ⟨a2, b2, l2, e2, g2⟩ := osl22 h2
  obtain rfl : c2 = .slice a2 l2.length b2 := by simpa using e2
  obtain ⟨n3, y3, h3⟩ := fld (size := 1) Tryz.underlying30 h 3 rfl kr
  obtain ⟨a3, b3, l3, e3, g3⟩ := osl23 h3
  obtain rfl : c3 = .slice a3 l3.length b3 := by simpa using e3
  obtain ⟨n4, y4, h4⟩ := fld (size := 1) Tryz.underlying30 h 4 rfl kr
  obtain ⟨z4, e4, _⟩ := DataW.trod_int Tryz.underlying3 h4.1
  obtain rfl : c4 = .int .i64 z4 := by simpa using e4
  obtain ⟨n5, y5, h5⟩ := fld (size := 1) Tryz.underlying30 h 5 rfl kr
  obtain ⟨z5, e5, _⟩ := DataW.trod_int Tryz.underlying3 h5.1
  obtain rfl : c5 = .int .i64 z5 := by simpa using e5
  obtain ⟨n6, y6, h6⟩ := fld (size := 1) Tryz.underlying30 h 6 rfl kr
  obtain ⟨z6, e6, _⟩ := DataW.trod_int Tryz.underlying3 h6.1
  obtain rfl : c6 = .int .i64 z6 := by simpa using e6
  obtain ⟨n7, y7, h7⟩ := fld (size := 1) Tryz.underlying30 h 7 rfl kr
  obtain ⟨a7, b7, l7, e7, g7⟩ := osl24 h7
  obtain rfl : c7 = .slice a7 l7.length b7 := by simpa using e7
  obtain ⟨n8, y8, h8⟩ := fld (size := 1) Tryz.underlying30 h 8 rfl kr
  obtain ⟨a8, b8, l8, e8, g8⟩ := osl24 h8
  obtain rfl : c8 = .slice a8 l8.length b8 := by simpa using e8
  obtain ⟨n9, y9, h9⟩ := fld (size := 3) Tryz.underlying30 h 9 rfl kr
  obtain ⟨x9, x9q1, x9q2, x9q3, x9q4, x9q5, x9q6, e9, f9_0, f9_1⟩ := ost28 h9
  have e9' : [c9, c10, c11] = [.bool x9.neg, .slice x9q1 x9q2 x9q3, .slice x9q4 x9q5 x9q6] := e9
  simp only [List.cons.injEq, and_true] at e9'
  obtain ⟨rfl, rfl, rfl⟩ := e9'
  obtain rfl := f9_0.hlen
  obtain rfl := f9_1.hlen
  obtain ⟨n10, y10, h10⟩ := fld (size := 3) Tryz.underlying30 h 10 rfl kr
  obtain ⟨x10, x10q1, x10q2, x10q3, x10q4, x10q5, x10q6, e10, f10_0, f10_1⟩ := ost28 h10
  have e10' : [c12, c13, c14] = [.bool x10.neg, .slice x10q1 x10q2 x10q3, .slice x10q4 x10q5 x10q6] := e10
  simp only [List.cons.injEq, and_true] at e10'
  obtain ⟨rfl, rfl, rfl⟩ := e10'
  obtain rfl := f10_0.hlen
  obtain rfl := f10_1.hlen
  obtain ⟨n11, y11, h11⟩ := fld (size := 3) Tryz.underlying30 h 11 rfl kr
  obtain ⟨x11, x11q1, x11q2, x11q3, x11q4, x11q5, x11q6, e11, f11_0, f11_1⟩ := ost28 h11
  have e11' : [c15, c16, c17] = [.bool x11.neg, .slice x11q1 x11q2 x11q3, .slice x11q4 x11q5 x11q6] := e11
  simp only [List.cons.injEq, and_true] at e11'
  obtain ⟨rfl, rfl, rfl⟩ := e11'
  obtain rfl := f11_0.hlen
  obtain rfl := f11_1.hlen
  exact ⟨⟨l0, l1, l2, l3, z4, z5, z6, l7, l8, x9, x10, x11⟩, a0, b0, a1, b1, a2, b2, a3, b3, a7, b7, a8, b8, x9q1, x9q3, x9q4, x9q6, x10q1, x10q3, x10q4, x10q6, x11q1, x11q3, x11q4, x11q6, rfl, g0, g1, g2, g3, g7, g8, f9_0, f9_1, f10_0, f10_1, f11_0, f11_1⟩
/-- A model that comes in. -/
theorem open_model {v : Value} {d : DataW H} {ps : List MemPlace} {r : Reach} {base : Nat} (hok : Value.okWide Tryz.prog w r base 30 v) (h : DataW.Trod enc Tryz.prog w 0 spare held 30 v d ps) (hz : w.noneFrozen ps) (hw : ∀ n ∈ d.weights Tryz.prog 30, n ≤ 140737488351232) : ∃ x, ModelDV (rd w X0) v x := by
  obtain ⟨⟨cs⟩, rfl, _⟩ := Go.WideShapes.okWide_struct Tryz.underlying30 hok
  obtain ⟨n, h⟩ := h
  have h : TrodZ enc Tryz.prog w spare held n 30 _ _ := ⟨h, hz, hw⟩
  simp only [Value.cells] at h
  obtain ⟨x, a1, a2, a3, a4, a5, a6, a7, a8, a9, a10, a11, a12, a13, a14, a15, a16, a17, a18, a19, a20, a21, a22, a23, a24, rfl, hh0, hh1, hh2, hh3, hh4, hh5, hh6, hh7, hh8, hh9, hh10, hh11⟩ := ost30 h
  exact ⟨x, a1, a2, a3, a4, a5, a6, a7, a8, a9, a10, a11, a12, a13, a14, a15, a16, a17, a18, a19, a20, a21, a22, a23, a24, rfl, hh0, hh1, hh2, hh3, hh4, hh5, hh6, hh7, hh8, hh9, hh10, hh11⟩
end
open Go.ChangeShapes Go.WideShapes Go.ChangeAt
theorem trodAllO_3 {H : Type} {enc : TypeId × Value → H} {w : World} {spare : Nat → Bool} {held : Bool} {P : Program} {base : Nat} {t0 t1 t2 : TypeId} {args : Array Value} {ds : List (DataW H)} {ps : List MemPlace} (h : DataW.TrodAll enc P w base spare held [t0, t1, t2] args.toList ds ps) : ∃ v0 v1 v2 d0 d1 d2 p0 p1 p2, args = #[v0, v1, v2] ∧ ds = [d0, d1, d2] ∧ ps = p0 ++ p1 ++ p2 ∧ DataW.Trod enc P w base spare held t0 v0 d0 p0 ∧ DataW.Trod enc P w base spare held t1 v1 d1 p1 ∧ DataW.Trod enc P w base spare held t2 v2 d2 p2 := by
  obtain ⟨v0, vs0, d0, ds0, p0, q0, hargs, rfl, rfl, hd0, h0⟩ := trodAll_cons h
  obtain ⟨v1, vs1, d1, ds1, p1, q1, rfl, rfl, rfl, hd1, h1⟩ := trodAll_cons h0
  obtain ⟨v2, vs2, d2, ds2, p2, q2, rfl, rfl, rfl, hd2, h2⟩ := trodAll_cons h1
  obtain ⟨rfl, rfl, rfl⟩ := trodAll_nil h2
  exact ⟨v0, v1, v2, d0, d1, d2, p0, p1, p2, by cases args; simp_all, rfl, by simp, hd0, hd1, hd2⟩
theorem trodAllO_mk3 {H : Type} {enc : TypeId × Value → H} {w : World} {spare : Nat → Bool} {held : Bool} {P : Program} {base : Nat} {t0 t1 t2 : TypeId} {v0 v1 v2 : Value} {d0 d1 d2 : DataW H} {p0 p1 p2 : List MemPlace} (h0 : DataW.Trod enc P w base spare held t0 v0 d0 p0) (h1 : DataW.Trod enc P w base spare held t1 v1 d1 p1) (h2 : DataW.Trod enc P w base spare held t2 v2 d2 p2) : DataW.TrodAll enc P w base spare held [t0, t1, t2] [v0, v1, v2] [d0, d1, d2] (p0 ++ (p1 ++ (p2))) := ⟨p0, p1 ++ (p2), h0, ⟨p1, p2, h1, trodAll_mk1 h2, rfl⟩, rfl⟩
end Go.Proofs.YtjnbipmlmafahaaGreat
/- The chapter's example: awake. By an AI agent. -/
namespace Go.Proofs.YtjnbipmlmafahaaGreat
open Go Go.Gv Go.RowKit
set_option maxRecDepth 100000
set_option maxHeartbeats 1000000
theorem awake_p : clearwaylaw24_awake_p = some true := by kernel_rfl
end Go.Proofs.YtjnbipmlmafahaaGreat

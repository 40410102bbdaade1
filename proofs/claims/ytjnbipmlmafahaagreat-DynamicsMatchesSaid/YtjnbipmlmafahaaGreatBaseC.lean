import Derived.Test.YtjnbipmlmafahaaGreatBaseA
import Derived.Test.YtjnbipmlmafahaaGreatBaseB
set_option linter.unusedVariables false
set_option linter.unusedSimpArgs false
set_option linter.unnecessarySimpa false
namespace Go.Proofs.YtjnbipmlmafahaaGreat
open Go Go.Gv Go.RowKit IntKind
set_option maxRecDepth 100000
section
variable (w : World) (X : Hid) (hX : ∀ k o,X k o → k < w.heap.size)
set_option maxHeartbeats 1000000
def zEi : ByteArray := ⟨#[0,1,2,2,3,3,3,3,4,4,4,4,4,4,4,4,5,5,5,5,5,5,5,5,5,5,5,5,5,5,5,5,6,6,6,6,6,6,6,6,6,6,6,6,6,6,6,6,6,6,6,6,6,6,6,6,6,6,6,6,6,6,6,6,7,7,7,7,7,7,7,7,7,7,7,7,7,7,7,7,7,7,7,7,7,7,7,7,7,7,7,7,7,7,7,7,7,7,7,7,7,7,7,7,7,7,7,7,7,7,7,7,7,7,7,7,7,7,7,7,7,7,7,7,7,7,7,7,8,8,8,8,8,8,8,8,8,8,8,8,8,8,8,8,8,8,8,8,8,8,8,8,8,8,8,8,8,8,8,8,8,8,8,8,8,8,8,8,8,8,8,8,8,8,8,8,8,8,8,8,8,8,8,8,8,8,8,8,8,8,8,8,8,8,8,8,8,8,8,8,8,8,8,8,8,8,8,8,8,8,8,8,8,8,8,8,8,8,8,8,8,8,8,8,8,8,8,8,8,8,8,8,8,8,8,8,8,8,8,8,8,8,8,8,8,8,8,8,8,8,8,8,8,8,8,8]⟩
theorem zSc : ∀ n,n < 256 → (zEi.data[n]?.isSome = true) ∧ n < 2 ^ (zEi.data[n]?.getD 0).toNat ∧ (zEi.data[n]?.getD 0).toNat ≤ 8 := by decide +kernel
theorem zGg (n : Nat) (h : n < 256) : ∃ b : UInt8,zEi[n]? = some b ∧ n < 2 ^ b.toNat ∧ b.toNat ≤ 8 := by
 obtain ⟨h1,h2,h3⟩ := zSc n h
 obtain ⟨b,hb⟩ := Option.isSome_iff_exists.1 h1
 rw [hb] at h2 h3
 refine ⟨b,?_,h2,h3⟩
 obtain ⟨h4,h5⟩ := Array.getElem?_eq_some_iff.1 hb
 have h6 : n < zEi.size := h4
 rw [getElem?_pos zEi n h6]
 exact congrArg some h5
include hX in
theorem zYn (x : Nat) (hx : x < 4294967296) : Calls Tryz.prog 182 #[.int .u32 (x : Int)] w (Ret E0 w fun _ v => ∃ r : Nat,v = .int .i64 (r : Int) ∧ x < 2 ^ r ∧ r ≤ 32) := by
 refine zen Tryz.func182 ?_
 have C0 : St E0 w X w X [] := St.start hX
 refine zz 12 <| zt 4 (p := (x : Int) ≥ 65536) (fun Q2 => ?_) (fun Q2 => ?_)
 refine zz 5 <| zs 6 (v := .int .u32 (Int.fdiv ((x : Int)) (2 ^ 16))) (v' := .int .u32 ((x / 65536 : Nat) : Int)) (zR (by rw [mF _ 16 (c := 65536) (by decide) (by decide)]; omega)) <| zz 14 <| zt 8 (p := ((x / 65536 : Nat) : Int) ≥ 256) (fun Q3 => ?_) (fun Q3 => ?_)
 refine zz 5 <| zs 10 (v := .int .u32 (Int.fdiv (((x / 65536 : Nat) : Int)) (2 ^ 8))) (v' := .int .u32 ((x / 65536 / 256 : Nat) : Int)) (zR (by rw [mF _ 8 (c := 256) (by decide) (by decide)]; omega)) <| zz 14 <| zs 15 (v := .int .u8 (IntKind.u8.wrap (((x / 65536 / 256 : Nat) : Int)))) (v' := .int .u8 ((x / 65536 / 256 : Nat) : Int)) (zR (wu8 (by omega) (by omega))) ?_
 obtain ⟨b8,hb8,hb2,hb3⟩ := zGg (x / 65536 / 256) (by omega)
 refine zop (at1 [] Tryz.f182 [1,1,1,0]) 3 (fun a4 _ G4 hz4 => zF (d := 16) (v := .int .u8 ((b8.toNat : Nat) : Int)) G4 kr (zBc (s := zEi) (i := (x / 65536 / 256)) rfl kr rfl rfl hb8) ?_)
 intro a5 G5
 refine hz4 G5 <| zz 1 <| zw 17 (x := ((b8.toNat : Nat) : Int)) <| zz 1 <| zw 18 (x := (24 : Int) + ((b8.toNat : Nat) : Int)) <| zz 4 <| zr' (v := .int .i64 ((24 : Int) + ((b8.toNat : Nat) : Int))) ?_
 refine ⟨C0.upd,_,rfl,24 + b8.toNat,zR (by omega),?_,by omega⟩
 rw [Nat.pow_add]; generalize 2 ^ b8.toNat = t at *; omega
 refine zz 8 <| zs 15 (v := .int .u8 (IntKind.u8.wrap (((x / 65536 : Nat) : Int)))) (v' := .int .u8 ((x / 65536 : Nat) : Int)) (zR (wu8 (by omega) (by omega))) ?_
 obtain ⟨b8,hb8,hb2,hb3⟩ := zGg (x / 65536) (by omega)
 refine zop (at1 [] Tryz.f182 [1,1,1,0]) 3 (fun a6 _ G6 hz6 => zF (d := 16) (v := .int .u8 ((b8.toNat : Nat) : Int)) G6 kr (zBc (s := zEi) (i := (x / 65536)) rfl kr rfl rfl hb8) ?_)
 intro a7 G7
 refine hz6 G7 <| zz 1 <| zw 17 (x := ((b8.toNat : Nat) : Int)) <| zz 1 <| zw 18 (x := (16 : Int) + ((b8.toNat : Nat) : Int)) <| zz 4 <| zr' (v := .int .i64 ((16 : Int) + ((b8.toNat : Nat) : Int))) ?_
 refine ⟨C0.upd,_,rfl,16 + b8.toNat,zR (by omega),?_,by omega⟩
 rw [Nat.pow_add]; generalize 2 ^ b8.toNat = t at *; omega
 refine zz 10 <| zt 8 (p := (x : Int) ≥ 256) (fun Q8 => ?_) (fun Q8 => ?_)
 refine zz 5 <| zs 10 (v := .int .u32 (Int.fdiv ((x : Int)) (2 ^ 8))) (v' := .int .u32 ((x / 256 : Nat) : Int)) (zR (by rw [mF _ 8 (c := 256) (by decide) (by decide)]; omega)) <| zz 14 <| zs 15 (v := .int .u8 (IntKind.u8.wrap (((x / 256 : Nat) : Int)))) (v' := .int .u8 ((x / 256 : Nat) : Int)) (zR (wu8 (by omega) (by omega))) ?_
 obtain ⟨b8,hb8,hb2,hb3⟩ := zGg (x / 256) (by omega)
 refine zop (at1 [] Tryz.f182 [1,1,1,0]) 3 (fun a9 _ G9 hz9 => zF (d := 16) (v := .int .u8 ((b8.toNat : Nat) : Int)) G9 kr (zBc (s := zEi) (i := (x / 256)) rfl kr rfl rfl hb8) ?_)
 intro a10 G10
 refine hz9 G10 <| zz 1 <| zw 17 (x := ((b8.toNat : Nat) : Int)) <| zz 1 <| zw 18 (x := (8 : Int) + ((b8.toNat : Nat) : Int)) <| zz 4 <| zr' (v := .int .i64 ((8 : Int) + ((b8.toNat : Nat) : Int))) ?_
 refine ⟨C0.upd,_,rfl,8 + b8.toNat,zR (by omega),?_,by omega⟩
 rw [Nat.pow_add]; generalize 2 ^ b8.toNat = t at *; omega
 refine zz 8 <| zs 15 (v := .int .u8 (IntKind.u8.wrap ((x : Int)))) (v' := .int .u8 ((x : Nat) : Int)) (zR (wu8 (by omega) (by omega))) ?_
 obtain ⟨b8,hb8,hb2,hb3⟩ := zGg (x) (by omega)
 refine zop (at1 [] Tryz.f182 [1,1,1,0]) 3 (fun a11 _ G11 hz11 => zF (d := 16) (v := .int .u8 ((b8.toNat : Nat) : Int)) G11 kr (zBc (s := zEi) (i := x) rfl kr rfl rfl hb8) ?_)
 intro a12 G12
 refine hz11 G12 <| zz 1 <| zw 17 (x := ((b8.toNat : Nat) : Int)) <| zz 1 <| zw 18 (x := (0 : Int) + ((b8.toNat : Nat) : Int)) <| zz 4 <| zr' (v := .int .i64 ((0 : Int) + ((b8.toNat : Nat) : Int))) ?_
 refine ⟨C0.upd,_,rfl,0 + b8.toNat,zR (by omega),?_,by omega⟩
 rw [Nat.pow_add]; generalize 2 ^ b8.toNat = t at *; omega
include hX in
theorem zVx (ad : Option Addr) (len cap : Nat) (l : List Nat) (h : zL (rd w X) ad len cap l) (hm : len ≤ 1099511627776) : Calls Tryz.prog 196 #[.slice ad len cap] w (Ret E0 w fun _ v => ∃ m : Nat,v = .int .i64 (m : Int) ∧ val l < 2 ^ m ∧ m ≤ 32 * l.length) := by
 obtain rfl := h.hlen
 have hcap := h.hcap
 have hbig := h.hbig
 refine zen Tryz.func196 ?_
 have C0 : St E0 w X w X [] := St.start hX
 refine zz 13 <| zb 5 (b := ((l.length : Int) == 0)) (fun T2 => ?_) (fun T2 => ?_)
 have Q3 : (l.length : Int) = 0 := by simpa using T2
 have hnil : l = [] := List.eq_nil_of_length_eq_zero (by omega)
 refine zz 8 <| zr' (v := .int .i64 0) ?_
 exact ⟨C0.upd,_,rfl,0,rfl,by rw [hnil]; simp [val],by omega⟩
 have Q4 : (l.length : Int) ≠ 0 := by simpa using T2
 obtain ⟨bk5,of6,rfl,_⟩ := h.addr (by omega)
 have htop := h.getD_lt (l.length - 1)
 refine zz 8 <| zw 8 (x := (l.length : Int) - 1) <| zz 1 <| zw 9 (x := (32 : Int) * ((l.length : Int) - 1)) <| zz 4 <| zw 13 (x := (l.length : Int) - 1) <| zi (b := bk5) (off := of6) (len := l.length) (cap := cap) (kd := .i64) (i := (l.length : Int) - 1) 1 (of6 + (l.length - 1)) ?_ (hoff := (by first | omega | (simp; done) | (simp; omega)))
 refine zl ((h.cell (i := (l.length - 1)) (by omega)).mono (Le.refl _)).cells <| zc C0 (zYn _ _ C0.lt (l.getD (l.length - 1) 0) (by omega)) ?_
 rintro v8 w8 C8 B8 V8 ⟨r8,rfl,hr8,hs8⟩
 refine zz 1 <| zw 17 (x := ((32 : Int) * ((l.length : Int) - 1)) + (r8 : Int)) <| zz 4 <| zr' (v := .int .i64 (((32 : Int) * ((l.length : Int) - 1)) + (r8 : Int))) ?_
 exact ⟨C8.upd,_,rfl,32 * (l.length - 1) + r8,zR (by omega),zYv l h.hlt _ (by omega) hr8,by omega⟩
include hX in
theorem zVe (ad : Option Addr) (len cap : Nat) : Calls Tryz.prog 187 #[.slice ad len cap] w (Ret E0 w fun w' v => ∃ bx,v = .func (.func 195) #[] #[.pointer (some ⟨bx,0,none⟩)] ∧ w.heap.size ≤ bx ∧ w'.heap[bx]? = some (.cells #[.slice ad len cap] 26 (0,0))) := by
 refine zen Tryz.func187 ?_
 have C0 : St E0 w X w X [] := St.start hX
 refine zz 2 <| zn pn (.cells #[.slice ad len cap] 26 (0,0)) C0 fun b3 w3 Y3 C3 B3 V3 => zz 10 <| zr' (v := .func (.func 195) #[] #[.pointer (some ⟨b3,0,none⟩)]) ?_
 exact ⟨C3.upd,_,rfl,_,rfl,C3.own_ge 0 rfl,C3.get 0 rfl⟩
theorem zRk (l bx : Nat) (ad : Option Addr) (len cap : Nat) (xs : List Nat) (hbig : len ≤ 1099511627776) (J : Nat → World → Prop) (R : World → Prop) (w : World) (hlimbs : zL (rd w X0) ad len cap xs)
    (hread : ∀ k w,J k w → At (rd w X0) ⟨bx,0,none⟩ [.slice ad len cap])
    (hel : ∀ k w,J (k + 1) w → k / 32 < len → ∃ b off,ad = some ⟨b,off,none⟩ ∧ At (rd w X0) ⟨b,off + k / 32,none⟩ [.int .u32 ((xs.getD (k / 32) 0 : Nat) : Int)])
    (hY : ∀ k w,k < 32 * len → J (k + 1) w → YieldAt (FF none) 0 Tryz.prog l #[.int .i64 (k : Int),.int .u32 ((val xs / 2 ^ k % 2 : Nat) : Int)] w (pQ (J k) R))
    (h0 : ∀ w,J 0 w → R w) (hbx : At (rd w X0) ⟨bx,0,none⟩ [.slice ad len cap]) (hJ : ∀ m w',Upd E0 w w' → val xs < 2 ^ m → m ≤ 32 * xs.length → J m w') : Calls Tryz.prog 195 #[.func (.yield l) #[] #[],.pointer (some ⟨bx,0,none⟩)] w (fun e w' => (∃ v,e = .returned v) ∧ R w') := by
 obtain rfl := hlimbs.hlen
 refine zGh (n := 24) (vs := [.func (.yield l) #[] #[],.pointer (some ⟨bx,0,none⟩)]) Tryz.func195 rfl rfl rfl kr (fun a0 G0 => ?_)
 have G0 : Fr 24 a0 [(0,.func (.yield l) #[] #[]),(1,.pointer (some ⟨bx,0,none⟩))] := G0
 have C0 : St E0 w X0 w X0 [] := St.start (zM _)
 refine zG (fun K1 H1 => ?_)
 refine zC ?_
 refine kW G0 kr (zF (d := 4) (v := .slice ad xs.length cap) G0 kr (zB (t := 26) (g := false) (vs := [.slice ad xs.length cap]) (ad := ⟨bx,0,none⟩) rfl kr kr ir (hbx).cells) ?_)
 intro a2 G2
 refine kW G2 kr (sI (d := 5) (f := 196) (cap := #[]) (vs := #[.slice ad xs.length cap]) G2 kr C0 rfl kr kr (fun w => Tryz.call196 _ w) (zVx _ X0 (zM _) _ _ _ xs hlimbs (by omega)) ?_)
 rintro v3 w3 C3 B3 V3 ⟨m,rfl,hm1,hm2⟩ a4 G4
 refine zE 1 [(6,.int .i64 (i64.wrap ((m : Int) - 1)))] G4 kr kr (fun a5 G5 => ?_)
 have G6 := G5.set 6 (v' := .int .i64 ((m : Int) - 1)) kr rfl (zR (jE (by omega) (by omega)))
 refine zE 1 [(3,.int .i64 ((m : Int) - 1))] G6 kr kr (fun a7 G7 => ?_)
 refine zH <| zA (H1 _ _ ?_)
 refine rP <| zGw (fun (k : Nat) a w1 => Fr 24 a [(0,.func (.yield l) #[] #[]),(1,.pointer (some ⟨bx,0,none⟩)),(3,.int .i64 ((k : Int) - 1))] ∧ J k w1 ∧ k ≤ 32 * xs.length) (fun k => k) m ?_ ?_
 ·
  exact ⟨G7.as [0,1,3] kr kr,hJ m _ V3 hm1 hm2,hm2⟩
 rintro k a8 w8 ⟨G8,hJ8,hk⟩
 have C8 : St E0 w8 X0 w8 X0 [] := St.start (zM _)
 refine zG (fun K9 H9 => ?_)
 refine zG (fun K10 H10 => ?_)
 refine zC <| zE 2 [(8,.bool (decide (((k : Int) - 1) ≥ 0))),(7,.int .i64 ((k : Int) - 1))] G8 kr kr (fun a11 G11 => ?_)
 refine zH <| zA (H10 _ _ ?_)
 refine dM (decide (((k : Int) - 1) ≥ 0)) G11 kr kr (fun T12 => ?_) (fun T12 => ?_)
 ·
  have G13 := G11.set 8 (v' := .bool true) kr rfl (zJ T12)
  have Q14 : ((k : Int) - 1) ≥ 0 := of_decide_eq_true T12
  obtain ⟨j,rfl⟩ : ∃ j,k = j + 1 := ⟨k - 1,by omega⟩
  have G15 := G13.set 3 (v := .int .i64 (((j + 1 : Nat) : Int) - 1)) (v' := .int .i64 (j : Int)) kr kr (zR (by omega))
  obtain ⟨b,off,rfl,hel1⟩ := hel j _ hJ8 (by omega)
  have hltj : xs.getD (j / 32) 0 < 4294967296 := hlimbs.getD_lt _
  refine fQ <| zA (H9 _ _ ?_)
  refine zG (fun K16 H16 => ?_)
  refine rP <| zG (fun K17 H17 => ?_)
  refine zC <| zE 2 [(12,.int .i64 (j : Int)),(11,.func (.yield l) #[] #[])] G15 kr kr (fun a18 G18 => ?_)
  refine kW G18 kr (zF (d := 13) (v := .slice (some ⟨b,off,none⟩) xs.length cap) G18 kr (zB (t := 26) (g := false) (vs := [.slice (some ⟨b,off,none⟩) xs.length cap]) (ad := ⟨bx,0,none⟩) rfl kr kr ir ((hread _ _ hJ8)).cells) ?_)
  intro a19 G19
  refine zE 2 [(15,.int .i64 (i64.wrap (Int.tdiv ((j : Int)) (32)))),(14,.int .i64 (j : Int))] G19 kr kr (fun a20 G20 => ?_)
  have G21 := G20.set 15 (v' := .int .i64 ((j / 32 : Nat) : Int)) kr rfl (zR (zAk _ (by omega)))
  refine kW G21 kr (zF (d := 16) (v := .pointer (some ⟨b,off + j / 32,none⟩)) G21 kr (vF (t := 26) (e := 179) (b := b) (off := off) (len := xs.length) (cap := cap) (kd := .i64) (i := ((j / 32 : Nat) : Int)) (g := false) (m := 1) (off' := off + j / 32) rfl kr kr kr kr (by omega) (by omega) (by first | rfl | omega | (simp; done) | (simp; omega)) _) ?_)
  intro a22 G22
  refine kW G22 kr (zF (d := 17) (v := .int .u32 ((xs.getD (j / 32) 0 : Nat) : Int)) G22 kr (zB (t := 179) (g := false) (vs := [.int .u32 ((xs.getD (j / 32) 0 : Nat) : Int)]) (ad := ⟨b,off + j / 32,none⟩) rfl kr kr ir (hel1).cells) ?_)
  intro a23 G23
  refine zE 2 [(19,.int .i64 (Int.tmod ((j : Int)) (32))),(18,.int .i64 (j : Int))] G23 kr kr (fun a24 G24 => ?_)
  have G25 := G24.set 19 (v' := .int .i64 ((j % 32 : Nat) : Int)) kr rfl (zR (zEg _))
  refine kW G25 kr (zF (d := 20) (v := .int .u32 ((xs.getD (j / 32) 0 / 2 ^ (j % 32) : Nat) : Int)) G25 kr (zWk rfl rfl rfl (by omega)) ?_)
  intro a26 G26
  refine zE 1 [(21,.int .u32 (mY ((xs.getD (j / 32) 0 / 2 ^ (j % 32) : Nat) : Int) 1))] G26 kr kr (fun a27 G27 => ?_)
  have G28 := G27.set 21 (v' := .int .u32 ((val xs / 2 ^ j % 2 : Nat) : Int)) kr rfl (zR ((zOc _ (Nat.lt_of_le_of_lt (Nat.div_le_self _ _) hltj)).trans (by rw [zHn xs hlimbs.hlt j (by omega)])))
  refine zEo (d := 22) (l := l) (vs := #[.int .i64 (j : Int),.int .u32 ((val xs / 2 ^ j % 2 : Nat) : Int)]) G28 kr rfl kr kr (hY j _ (by omega) hJ8) (fun _ _ h => h.ret) ?_
  rintro v29 w29 ⟨bb29,hv29,hJ29,hR29⟩ a30 G30
  cases hv29
  have C29 : St E0 w29 X0 w29 X0 [] := St.start (zM _)
  refine zE 1 [(23,.bool (!bb29))] G30 kr kr (fun a31 G31 => ?_)
  refine zH <| zA (H17 _ _ ?_)
  refine dM (!bb29) G31 kr kr (fun T32 => ?_) (fun T32 => ?_)
  ·
   have G33 := G31.set 23 (v' := .bool true) kr rfl (zJ T32)
   have Q34 : bb29 = false := by simpa using T32
   have hbb := Q34
   refine zAh <| zBo ?_
   refine cB ?_
   refine cB <| zBo <| zQg (v := .tuple #[]) (rs := []) G33 kr Res.nil kr ?_
   exact ⟨⟨_,rfl⟩,(hR29 hbb)⟩
  have G35 := G31.set 23 (v' := .bool false) kr rfl (zJ T32)
  have Q36 : bb29 = true := by simpa using T32
  have hbb := Q36
  refine fQ ?_
  refine tH <| zA (H16 _ _ ?_)
  refine zC <| zE 2 [(10,.int .i64 (i64.wrap ((j : Int) - 1))),(9,.int .i64 (j : Int))] G35 kr kr (fun a37 G37 => ?_)
  have G38 := G37.set 10 (v' := .int .i64 ((j : Int) - 1)) kr rfl (zR (jE (by omega) (by omega)))
  refine zE 1 [(3,.int .i64 ((j : Int) - 1))] G38 kr kr (fun a39 G39 => ?_)
  refine zH <| zA ?_
  exact ⟨j,⟨G39.as [0,1,3] kr kr,hJ29 hbb,by omega⟩,by show j < j + 1; omega⟩
 have G40 := G11.set 8 (v' := .bool false) kr rfl (zJ T12)
 have Q41 : ¬ (((k : Int) - 1) ≥ 0) := of_decide_eq_false T12
 have hk0 : k = 0 := by omega
 refine zLl <| gW <| gW <| zDx <| zNd (v := .tuple #[]) (rs := []) G40 kr Res.nil kr ?_
 exact ⟨⟨_,rfl⟩,(h0 _ (hk0 ▸ hJ8))⟩
end
set_option maxHeartbeats 1000000
theorem zBn {x y : Nat} (h : kE (x : Int) (y : Int) ≥ 0) : y ≤ x := zNt (by omega)
theorem dW {x y : Nat} (h : ¬ kE (x : Int) (y : Int) ≥ 0) : x < y := zMe (by omega)
theorem zVa (w : World) (X : Hid) (hX : ∀ k o,X k o → k < w.heap.size) (ad : Option Addr) (len cap : Nat) (l : List Nat) (h : zL (rd w X) ad len cap l) (ad2 : Option Addr) (len2 cap2 : Nat) (l2 : List Nat) (h2 : zL (rd w X) ad2 len2 cap2 l2) (T1 : jC l) (T2 : jC l2) (hl1 : len ≤ 512) (hl2 : len2 ≤ 512) (hd : 0 < val l2) : Calls Tryz.prog 170 #[.slice ad len cap,.slice ad2 len2 cap2] w (Ret E0 w fun w' v => ∃ u u2 lq lr ad len cap ad2 len2 cap2,v = .tuple #[u,u2] ∧ zCr 179 w w' u lq ad len cap (val l / val l2) ∧ zCr 179 w w' u2 lr ad2 len2 cap2 (val l % val l2)) := by
 obtain rfl := h.hlen
 obtain rfl := h2.hlen
 have hcap := h.hcap
 have hbig := h.hbig
 have hcap2 := h2.hcap
 have hbig2 := h2.hbig
 refine zGc (n := 38) (vs := [.slice ad l.length cap,.slice ad2 l2.length cap2]) Tryz.func170 rfl rfl rfl kr (fun a0 G0 => ?_)
 have G0 : Fr 38 a0 [(0,.slice ad l.length cap),(1,.slice ad2 l2.length cap2)] := G0
 have C0 : St E0 w X w X [] := St.start hX
 refine zG (fun K1 H1 => ?_)
 refine zC ?_
 refine kW G0 kr (fC (d := 3) (fun b => .pointer (some ⟨b,0,none⟩)) (.cells #[.slice ad2 l2.length cap2] 26 (0,0)) G0 kr C0 kw ?_)
 intro b2 w2 Y2 C2 B2 V2 a3 G3
 refine kW G3 kr (fC (d := 4) (fun b => .pointer (some ⟨b,0,none⟩)) (.cells #[.slice none 0 0] 26 (0,0)) G3 kr C2 kw ?_)
 intro b4 w4 Y4 C4 B4 V4 a5 G5
 refine kW G5 kr (fC (d := 5) (fun b => .pointer (some ⟨b,0,none⟩)) (.cells #[.slice none 0 0] 26 (0,0)) G5 kr C4 kw ?_)
 intro b6 w6 Y6 C6 B6 V6 a7 G7
 refine zH <| zA (H1 _ _ ?_)
 refine zG (fun K8 H8 => ?_)
 refine zC <| zE 2 [(9,.int .i64 (l.length : Int)),(8,.slice ad l.length cap)] G7 kr kr (fun a9 G9 => ?_)
 refine kW G9 kr (zQw (d := 10) (t := 26) (e := 179) (m := l.length) (l := (l.length : Int)) (z := .int .u32 0) (i0 := Tryz.t179) G9 kr C6 rfl kr (by first | rfl | omega) kr kr kr kr kr (by show 4 * _ ≤ _; omega) (by omega) ?_)
 intro b10 w10 Y10 C10 B10 V10 a11 G11
 have F10 := jM.zeros l.length (by simp only [maxLen]; omega)
 refine kW G11 kr (zD (t := 26) (b := b4) (off := 0) (c' := #[.slice (some ⟨b10,0,none⟩) l.length l.length]) (g := false) (m := 1) 2 _ G11 kr C10 rfl kr rfl kr kr kr rfl (by first | decide | (simp; done)) kr rfl ?_)
 intro w12 C12 B12
 refine zH <| zA (H8 _ _ ?_)
 refine zG (fun K13 H13 => ?_)
 refine zG (fun K14 H14 => ?_)
 refine zC <| zE 1 [(11,.slice ad l.length cap)] G11 kr kr (fun a15 G15 => ?_)
 refine kW G15 kr (sI (d := 12) (f := 187) (cap := #[]) (vs := #[.slice ad l.length cap]) G15 kr C12 rfl kr kr (fun w => Tryz.call187 _ w) (zVe _ _ C12.lt ad l.length cap) ?_)
 rintro v16 w16 C16 B16 V16 ⟨bx16,rfl,hge16,hget16⟩ a17 G17
 have C18 := St.adopt C16 (fun o h => Nat.not_lt.2 hge16 (C12.lt _ _ h)) (Nat.le_trans C12.upd.size hge16) hget16
 have B18 := Le.adopt B16 hge16
 refine zH <| zA (H14 _ _ ?_)
 refine rP <| zDi (f := 195) (caps := #[.pointer (some ⟨bx16,0,none⟩)]) G17 C18 kr kr (fun args w => Tryz.call195 args w) fun rec19 l19 b19 w19 Y19 hr19 C19 B19 V19 => ?_
 have G20 := bI b19 G17
 refine zRk l19 bx16 ad l.length cap l (by omega) (fun k w' => ∃ (Y' : Hid) (curq : Array Value) (lq : List Nat) (rb : List (Nat × Obj)) (adr : Option Addr) (capr : Nat) (lr : List Nat) (q : Nat),St E0 w X w' Y' ((l19,.loop rec19) :: (b19,.deferred (some [])) :: (bx16,.cells #[.slice ad l.length cap] 26 (0,0)) :: (b10,.cells curq 179 (0,0)) :: (b6,.cells #[.slice adr lr.length capr] 26 (0,0)) :: (b4,.cells #[.slice (some ⟨b10,0,none⟩) l.length l.length] 26 (0,0)) :: (b2,.cells #[.slice ad2 l2.length cap2] 26 (0,0)) :: rb) ∧ Le (rd w19 Y19) (rd w' Y') ∧ (jM l.length l.length curq lq) ∧ (RSt 179 rb adr capr lr) ∧ (jC lr) ∧ (val lq = 2 ^ k * q) ∧ (val l / 2 ^ k = q * val l2 + val lr) ∧ (val lr < val l2)) _ _ ((h.mono (Le7 B2 B4 B6 B10 B12 B18 B19)).mono Le.x0) ?_ ?_ ?_ ?_ (C19.at0 2 rfl rfl) ?_
 rintro k w21 ⟨Y21,curq,lq,rb,adr,capr,lr,q,C21,B21,hp21_0,hp21_1,hp21_2,hp21_3,hp21_4,hp21_5⟩
 exact C21.at0 2 rfl rfl
 rintro k w22 ⟨Y22,curq,lq,rb,adr,capr,lr,q,C22,B22,hp22_0,hp22_1,hp22_2,hp22_3,hp22_4,hp22_5⟩
 intro hk
 obtain ⟨b,off,rfl,_⟩ := h.addr (by omega)
 exact ⟨b,off,rfl,((h.cell (i := k / 32) (by omega)).mono (Le8 B2 B4 B6 B10 B12 B18 B19 B22)).mono Le.x0⟩
 intro k w23 hk
 rintro ⟨Y23,curq,lq,rb,adr,capr,lr,q,C23,B23,hp23_0,hp23_1,hp23_2,hp23_3,hp23_4,hp23_5⟩
 refine zIq (p := 13) (q := 14) hr19 G17 C23 kr kr (fun a24 G24 => ?_)
 have hkl : k / 32 < l.length := by omega
 have hrowq := hp23_0
 have hrst := hp23_1
 have hcanlr := hp23_2
 have hvq := hp23_3
 have hdiv := hp23_4
 have hlt := hp23_5
 rcases hrst with ⟨rfl,rfl,rfl,rfl⟩ | ⟨gr,curr,rfl,rfl,hrowr⟩
 refine zG (fun K25 H25 => ?_)
 refine zC <| zE 1 [(6,.int .i64 (k : Int))] G24 kr kr (fun a26 G26 => ?_)
 refine zH <| zA (H25 _ _ ?_)
 refine zC <| zE 1 [(7,.int .u32 ((val l / 2 ^ k % 2 : Nat) : Int))] G26 kr kr (fun a27 G27 => ?_)
 refine zH <| zA <| zDs hr19 C23 (fun w28 C28 B28 => ?_)
 refine rP <| zG (fun K29 H29 => ?_)
 refine zC ?_
 refine kW G27 kr (zF (d := 15) (v := .slice none 0 0) G27 kr (zB (t := 26) (g := false) (vs := [.slice none 0 0]) (ad := ⟨b6,0,none⟩) rfl kr kr ir (C28.cells 4 rfl rfl)) ?_)
 intro a30 G30
 refine zE 1 [(16,.int .u32 ((val l / 2 ^ k % 2 : Nat) : Int))] G30 kr kr (fun a31 G31 => ?_)
 refine kW G31 kr (sI (d := 17) (f := 150) (cap := #[]) (vs := #[.slice none 0 0,.int .u32 ((val l / 2 ^ k % 2 : Nat) : Int)]) G31 kr C28 rfl kr kr (fun w => Tryz.call150 _ w) (zOn _ X0 (zM _) (val l / 2 ^ k % 2) (by omega)) ?_)
 rintro v32 w32 C32 B32 V32 ⟨ls32,ad32,len32,cap32,⟨⟨rfl,hl32,hlt32,ho32⟩,hcan32,hval32⟩,hlen32⟩ a33 G33
 have hx32 : val ls32 = 2 * val ([] : List Nat) + val l / 2 ^ k % 2 := by simp only [val]; omega
 rcases ho32 with ⟨rfl,rfl,rfl⟩ | ⟨g32,cur32,rfl,hge32,hget32,F32⟩
 have hn32 : ls32 = [] := List.eq_nil_of_length_eq_zero hl32.symm
 subst hn32
 refine kW G33 kr (zD (t := 26) (b := b6) (off := 0) (c' := #[.slice none 0 0]) (g := false) (m := 1) 4 _ G33 kr C32 rfl kr rfl kr kr kr rfl (by first | decide | (simp; done)) kr rfl ?_)
 intro w36 C36 B36
 refine zH <| zA (H29 _ _ ?_)
 refine zG (fun K37 H37 => ?_)
 refine zC ?_
 refine kW G33 kr (zF (d := 18) (v := .slice none 0 0) G33 kr (zB (t := 26) (g := false) (vs := [.slice none 0 0]) (ad := ⟨b6,0,none⟩) rfl kr kr ir (C36.cells 4 rfl rfl)) ?_)
 intro a38 G38
 refine kW G38 kr (zF (d := 19) (v := .slice ad2 l2.length cap2) G38 kr (zB (t := 26) (g := false) (vs := [.slice ad2 l2.length cap2]) (ad := ⟨b2,0,none⟩) rfl kr kr ir (C36.cells 6 rfl rfl)) ?_)
 intro a39 G39
 refine kW G39 kr (sI (d := 20) (f := 148) (cap := #[]) (vs := #[.slice none 0 0,.slice ad2 l2.length cap2]) G39 kr C36 rfl kr kr (fun w => Tryz.call148 _ w) (zDr _ X0 (zM _) _ _ _ ([]) (zL.nil none (by omega)) _ _ _ l2 ((h2.mono (zNu B2 B4 B6 B10 B12 B18 B19 B23 B28 B32 B36)).mono Le.x0) (.inl rfl) T2 (by omega)) ?_)
 rintro v40 w40 C40 B40 V40 rfl a41 G41
 refine zE 1 [(21,.bool (decide ((kE (val ([])) (val l2)) ≥ 0)))] G41 kr kr (fun a42 G42 => ?_)
 refine zH <| zA (H37 _ _ ?_)
 refine dM (decide ((kE (val ([])) (val l2)) ≥ 0)) G42 kr kr (fun T43 => ?_) (fun T43 => ?_)
 have G44 := G42.set 21 (v' := .bool true) kr rfl (zJ T43)
 have Q45 : (kE (val ([])) (val l2)) ≥ 0 := of_decide_eq_true T43
 have hcmp := zBn Q45
 simp only [val] at hcmp; omega
 have G46 := G42.set 21 (v' := .bool false) kr rfl (zJ T43)
 have Q47 : ¬ ((kE (val ([])) (val l2)) ≥ 0) := of_decide_eq_false T43
 have hcmp := dW Q47
 refine fQ ?_
 refine tH ?_
 refine bW hr19 C40 (fun w48 C48 B48 => pQ.next ?_)
 exact ⟨_,curq,lq,[],none,0,[],(2 * q),C48,(Le6 B23 B28 B32 B36 B40 B48),hrowq,.inl ⟨rfl,rfl,rfl,rfl⟩,(.inl rfl),by rw [hvq,Nat.pow_succ]; ac_rfl,zUu hdiv hx32,hcmp⟩
 subst hl32
 have C34 := St.adopt C32 (fun o h => Nat.not_lt.2 hge32 (C28.lt _ _ h)) (Nat.le_trans C28.upd.size hge32) hget32
 have B34 := Le.adopt B32 hge32
 have C35 := St.mid (B := []) [(l19,.loop (zAx rec19)),(b19,.deferred (some [])),(bx16,.cells #[.slice ad l.length cap] 26 (0,0)),(b10,.cells curq 179 (0,0)),(b6,.cells #[.slice none 0 0] 26 (0,0)),(b4,.cells #[.slice (some ⟨b10,0,none⟩) l.length l.length] 26 (0,0)),(b2,.cells #[.slice ad2 l2.length cap2] 26 (0,0))] C34
 have B35 : Le (rd w32 (zLx g32 Y23)) (rd w32 (zLx g32 Y23)) := Le.refl _
 refine kW G33 kr (zD (t := 26) (b := b6) (off := 0) (c' := #[.slice (some ⟨g32,0,none⟩) ls32.length cap32]) (g := false) (m := 1) 4 _ G33 kr C35 rfl kr rfl kr kr kr rfl (by first | decide | (simp; done)) kr rfl ?_)
 intro w49 C49 B49
 refine zH <| zA (H29 _ _ ?_)
 refine zG (fun K50 H50 => ?_)
 refine zC ?_
 refine kW G33 kr (zF (d := 18) (v := .slice (some ⟨g32,0,none⟩) ls32.length cap32) G33 kr (zB (t := 26) (g := false) (vs := [.slice (some ⟨g32,0,none⟩) ls32.length cap32]) (ad := ⟨b6,0,none⟩) rfl kr kr ir (C49.cells 4 rfl rfl)) ?_)
 intro a51 G51
 refine kW G51 kr (zF (d := 19) (v := .slice ad2 l2.length cap2) G51 kr (zB (t := 26) (g := false) (vs := [.slice ad2 l2.length cap2]) (ad := ⟨b2,0,none⟩) rfl kr kr ir (C49.cells 6 rfl rfl)) ?_)
 intro a52 G52
 refine kW G52 kr (sI (d := 20) (f := 148) (cap := #[]) (vs := #[.slice (some ⟨g32,0,none⟩) ls32.length cap32,.slice ad2 l2.length cap2]) G52 kr C49 rfl kr kr (fun w => Tryz.call148 _ w) (zDr _ X0 (zM _) _ _ _ ls32 (jM.limbs (Y := X0) F32 (C49.get 7 rfl) (fun _ h => h.elim)) _ _ _ l2 ((h2.mono (zWm B2 B4 B6 B10 B12 B18 B19 B23 B28 B34 B35 B49)).mono Le.x0) hcan32 T2 (by omega)) ?_)
 rintro v53 w53 C53 B53 V53 rfl a54 G54
 refine zE 1 [(21,.bool (decide ((kE (val ls32) (val l2)) ≥ 0)))] G54 kr kr (fun a55 G55 => ?_)
 refine zH <| zA (H50 _ _ ?_)
 refine dM (decide ((kE (val ls32) (val l2)) ≥ 0)) G55 kr kr (fun T56 => ?_) (fun T56 => ?_)
 have G57 := G55.set 21 (v' := .bool true) kr rfl (zJ T56)
 have Q58 : (kE (val ls32) (val l2)) ≥ 0 := of_decide_eq_true T56
 have hcmp := zBn Q58
 obtain ⟨hset1,hset2,hset3⟩ := zMa lq hrowq.lt k q (by rw [hrowq.len]; exact hkl) hvq
 refine zG (fun K59 H59 => ?_)
 refine zC ?_
 refine kW G57 kr (zF (d := 22) (v := .slice (some ⟨g32,0,none⟩) ls32.length cap32) G57 kr (zB (t := 26) (g := false) (vs := [.slice (some ⟨g32,0,none⟩) ls32.length cap32]) (ad := ⟨b6,0,none⟩) rfl kr kr ir (C53.cells 4 rfl rfl)) ?_)
 intro a60 G60
 refine kW G60 kr (zF (d := 23) (v := .slice ad2 l2.length cap2) G60 kr (zB (t := 26) (g := false) (vs := [.slice ad2 l2.length cap2]) (ad := ⟨b2,0,none⟩) rfl kr kr ir (C53.cells 6 rfl rfl)) ?_)
 intro a61 G61
 refine kW G61 kr (zCp (d := 24) (f := 149) (cap := #[]) (vs := #[.slice (some ⟨g32,0,none⟩) ls32.length cap32,.slice ad2 l2.length cap2]) 7 G61 kr C53 rfl kr kr (fun w => Tryz.call149 _ w) rfl (fI _ g32 ls32.length cap32 _ ls32 (C53.get 7 rfl) F32 (by omega) _ _ _ l2 ((h2.mono (zSm B2 B4 B6 B10 B12 B18 B19 B23 B28 B34 B35 B49 B53)).mono (C53.leHG 7 rfl)) (yC F32.lt T2 (by omega)) (by omega)) ?_)
 rintro v62 w62 ob62 ⟨cur62,ls62,rfl,hg62,F62,hcan62,hval62⟩ hob62 C62 B62 a63 G63
 obtain rfl := Option.some.inj (hob62.symm.trans hg62)
 refine kW G63 kr (zD (t := 26) (b := b6) (off := 0) (c' := #[.slice (some ⟨g32,0,none⟩) ls62.length cap32]) (g := false) (m := 1) 4 _ G63 kr C62 rfl kr rfl kr kr kr rfl (by first | decide | (simp; done)) kr rfl ?_)
 intro w64 C64 B64
 refine zH <| zA (H59 _ _ ?_)
 refine zBj (N := 11) (sK [(⟨b4,0,none⟩,[.slice (some ⟨b10,0,none⟩) l.length l.length]),(⟨b10,k / 32,none⟩,[.int .u32 ((lq.getD (k / 32) 0 : Nat) : Int)])]) [10] kr kr kr C64 fun w65 C65 B65 V65 => ?_
 refine dY (sK.cons (C65.cells 5 rfl rfl) (sK.cons (C65.rowCells 3 rfl hrowq (by have := hrowq.len; (try simp only [List.length_set] at *); omega)) (sK.nil _))) (fun hH65 => ?_)
 refine dL (d := 25) (v := .slice (some ⟨b10,0,none⟩) l.length l.length) 0 G63 rfl kr kr kr (fun w hw => zB (t := 26) (g := false) (vs := [.slice (some ⟨b10,0,none⟩) l.length l.length]) (ad := ⟨b4,0,none⟩) rfl kr kr ir (hw.get 0 kr)) hH65 ?_
 intro a66 G66
 refine zK (d := 26) (v := .int .i64 (k : Int)) 1 G66 rfl kr kr kw (fun _ => hH65) fun a67 G67 => zK (d := 27) (v := .int .i64 (i64.wrap (Int.tdiv ((k : Int)) (32)))) 2 G67 rfl kr kr kw (fun _ => hH65) fun a68 G68 => ?_
 have G69 := G68.set 27 (v' := .int .i64 ((k / 32 : Nat) : Int)) kr rfl (zR (zAk _ (by omega)))
 refine zK (d := 28) (v := .pointer (some ⟨b10,k / 32,none⟩)) 3 G69 rfl kr kr (fun w => vF (t := 26) (e := 179) (b := b10) (off := 0) (len := l.length) (cap := l.length) (kd := .i64) (i := ((k / 32 : Nat) : Int)) (g := false) (m := 1) (off' := k / 32) rfl kr kr kr kr (by omega) (by omega) (by first | rfl | omega | (simp; done) | (simp; omega)) w) (fun _ => hH65) fun a70 G70 => ?_
 refine dL (d := 29) (v := .int .u32 ((lq.getD (k / 32) 0 : Nat) : Int)) 4 G70 rfl kr kr kr (fun w hw => zB (t := 179) (g := false) (vs := [.int .u32 ((lq.getD (k / 32) 0 : Nat) : Int)]) (ad := ⟨b10,k / 32,none⟩) rfl kr kr ir (hw.get 1 kr)) hH65 ?_
 intro a71 G71
 refine zK (d := 30) (v := .int .i64 (k : Int)) 5 G71 rfl kr kr kw (fun _ => hH65) fun a72 G72 => zK (d := 31) (v := .int .i64 (Int.tmod ((k : Int)) (32))) 6 G72 rfl kr kr kw (fun _ => hH65) fun a73 G73 => ?_
 have G74 := G73.set 31 (v' := .int .i64 ((k % 32 : Nat) : Int)) kr rfl (zR (zEg _))
 refine zK (d := 32) (v := .int .u32 ((2 ^ (k % 32) : Nat) : Int)) 7 G74 rfl kr kr (fun w => zNk rfl rfl rfl (by omega)) (fun _ => hH65) fun a75 G75 => zK (d := 33) (v := .int .u32 (fB ((lq.getD (k / 32) 0 : Nat) : Int) ((2 ^ (k % 32) : Nat) : Int))) 8 G75 rfl kr kr kw (fun _ => hH65) fun a76 G76 => ?_
 have G77 := G76.set 33 (v' := .int .u32 ((lq.getD (k / 32) 0 + 2 ^ (k % 32) : Nat) : Int)) kr rfl (zR hset1)
 refine zK (d := 34) (v := .pointer (some ⟨b10,k / 32,none⟩)) 9 G77 rfl kr kr (fun w => vF (t := 26) (e := 179) (b := b10) (off := 0) (len := l.length) (cap := l.length) (kd := .i64) (i := ((k / 32 : Nat) : Int)) (g := false) (m := 1) (off' := k / 32) rfl kr kr kr kr (by omega) (by omega) (by first | rfl | omega | (simp; done) | (simp; omega)) w) (fun _ => hH65) fun a78 G78 => ?_
 refine mW [10] kr rfl ?_
 refine wP.cons (i := 10) G78 rfl kr (bD (t := 179) (y := (lq.getD (k / 32) 0 + 2 ^ (k % 32))) (k := k / 32) (e := ((lq.getD (k / 32) 0 + 2 ^ (k % 32) : Nat) : Int)) 3 G78 kr C65 rfl rfl rfl (rfl) kr rfl hrowq (by have := hrowq.len; (try simp only [List.length_set] at *); omega) (hset2) ?_) wP.nil
 intro cur79 w79 F79 C79 B79
 refine ⟨bF kr,?_⟩
 refine zEq kr (nrm ?_)
 refine tH ?_
 refine bW hr19 C79 (fun w80 C80 B80 => pQ.next ?_)
 exact ⟨_,cur79,(lq.set (k / 32) (lq.getD (k / 32) 0 + 2 ^ (k % 32))),[(g32,.cells cur62 179 (0,0))],(some ⟨g32,0,none⟩),cap32,ls62,(2 * q + 1),C80,(zNu B23 B28 B34 B35 B49 B53 B62 B64 B65 B79 B80),F79,.inr ⟨_,_,rfl,rfl,F62⟩,hcan62,by rw [hset3,hvq,Nat.pow_succ,Nat.mul_add,Nat.mul_one]; congr 1; ac_rfl,zZn hdiv (hval62.trans (by rw [hx32])) (by omega),by have := hval62; omega⟩
 have G81 := G55.set 21 (v' := .bool false) kr rfl (zJ T56)
 have Q82 : ¬ ((kE (val ls32) (val l2)) ≥ 0) := of_decide_eq_false T56
 have hcmp := dW Q82
 refine fQ ?_
 refine tH ?_
 refine bW hr19 C53 (fun w83 C83 B83 => pQ.next ?_)
 exact ⟨_,curq,lq,[(g32,.cells cur32 179 (0,0))],(some ⟨g32,0,none⟩),cap32,ls32,(2 * q),C83,(Le7 B23 B28 B34 B35 B49 B53 B83),hrowq,.inr ⟨_,_,rfl,rfl,F32⟩,hcan32,by rw [hvq,Nat.pow_succ]; ac_rfl,zUu hdiv hx32,hcmp⟩
 refine zG (fun K84 H84 => ?_)
 refine zC <| zE 1 [(6,.int .i64 (k : Int))] G24 kr kr (fun a85 G85 => ?_)
 refine zH <| zA (H84 _ _ ?_)
 refine zC <| zE 1 [(7,.int .u32 ((val l / 2 ^ k % 2 : Nat) : Int))] G85 kr kr (fun a86 G86 => ?_)
 refine zH <| zA <| zDs hr19 C23 (fun w87 C87 B87 => ?_)
 refine rP <| zG (fun K88 H88 => ?_)
 refine zC ?_
 refine kW G86 kr (zF (d := 15) (v := .slice (some ⟨gr,0,none⟩) lr.length capr) G86 kr (zB (t := 26) (g := false) (vs := [.slice (some ⟨gr,0,none⟩) lr.length capr]) (ad := ⟨b6,0,none⟩) rfl kr kr ir (C87.cells 4 rfl rfl)) ?_)
 intro a89 G89
 refine zE 1 [(16,.int .u32 ((val l / 2 ^ k % 2 : Nat) : Int))] G89 kr kr (fun a90 G90 => ?_)
 have hlnr := yC h2.hlt hcanlr (Nat.le_of_lt hlt)
 refine kW G90 kr (zNi (d := 17) (f := 150) (cap := #[]) (vs := #[.slice (some ⟨gr,0,none⟩) lr.length capr,.int .u32 ((val l / 2 ^ k % 2 : Nat) : Int)]) 7 G90 kr C87 rfl kr kr (fun w => Tryz.call150 _ w) rfl (zMt _ gr lr.length capr _ lr (C87.get 7 rfl) hrowr (by omega) hcanlr (val l / 2 ^ k % 2) (by omega)) ?_)
 rintro v91 w91 Y91 g91 o91 ⟨cur91,cap91,ls91,rfl,rfl,F91,hlen91,hcan91,hval91⟩ C91 B91 a92 G92
 refine kW G92 kr (zD (t := 26) (b := b6) (off := 0) (c' := #[.slice (some ⟨g91,0,none⟩) ls91.length cap91]) (g := false) (m := 1) 4 _ G92 kr C91 rfl kr rfl kr kr kr rfl (by first | decide | (simp; done)) kr rfl ?_)
 intro w93 C93 B93
 refine zH <| zA (H88 _ _ ?_)
 refine zG (fun K94 H94 => ?_)
 refine zC ?_
 refine kW G92 kr (zF (d := 18) (v := .slice (some ⟨g91,0,none⟩) ls91.length cap91) G92 kr (zB (t := 26) (g := false) (vs := [.slice (some ⟨g91,0,none⟩) ls91.length cap91]) (ad := ⟨b6,0,none⟩) rfl kr kr ir (C93.cells 4 rfl rfl)) ?_)
 intro a95 G95
 refine kW G95 kr (zF (d := 19) (v := .slice ad2 l2.length cap2) G95 kr (zB (t := 26) (g := false) (vs := [.slice ad2 l2.length cap2]) (ad := ⟨b2,0,none⟩) rfl kr kr ir (C93.cells 6 rfl rfl)) ?_)
 intro a96 G96
 refine kW G96 kr (sI (d := 20) (f := 148) (cap := #[]) (vs := #[.slice (some ⟨g91,0,none⟩) ls91.length cap91,.slice ad2 l2.length cap2]) G96 kr C93 rfl kr kr (fun w => Tryz.call148 _ w) (zDr _ X0 (zM _) _ _ _ ls91 (jM.limbs (Y := X0) F91 (C93.get 7 rfl) (fun _ h => h.elim)) _ _ _ l2 ((h2.mono (zNu B2 B4 B6 B10 B12 B18 B19 B23 B87 B91 B93)).mono Le.x0) hcan91 T2 (by omega)) ?_)
 rintro v97 w97 C97 B97 V97 rfl a98 G98
 refine zE 1 [(21,.bool (decide ((kE (val ls91) (val l2)) ≥ 0)))] G98 kr kr (fun a99 G99 => ?_)
 refine zH <| zA (H94 _ _ ?_)
 refine dM (decide ((kE (val ls91) (val l2)) ≥ 0)) G99 kr kr (fun T100 => ?_) (fun T100 => ?_)
 have G101 := G99.set 21 (v' := .bool true) kr rfl (zJ T100)
 have Q102 : (kE (val ls91) (val l2)) ≥ 0 := of_decide_eq_true T100
 have hcmp := zBn Q102
 obtain ⟨hset1,hset2,hset3⟩ := zMa lq hrowq.lt k q (by rw [hrowq.len]; exact hkl) hvq
 refine zG (fun K103 H103 => ?_)
 refine zC ?_
 refine kW G101 kr (zF (d := 22) (v := .slice (some ⟨g91,0,none⟩) ls91.length cap91) G101 kr (zB (t := 26) (g := false) (vs := [.slice (some ⟨g91,0,none⟩) ls91.length cap91]) (ad := ⟨b6,0,none⟩) rfl kr kr ir (C97.cells 4 rfl rfl)) ?_)
 intro a104 G104
 refine kW G104 kr (zF (d := 23) (v := .slice ad2 l2.length cap2) G104 kr (zB (t := 26) (g := false) (vs := [.slice ad2 l2.length cap2]) (ad := ⟨b2,0,none⟩) rfl kr kr ir (C97.cells 6 rfl rfl)) ?_)
 intro a105 G105
 refine kW G105 kr (zCp (d := 24) (f := 149) (cap := #[]) (vs := #[.slice (some ⟨g91,0,none⟩) ls91.length cap91,.slice ad2 l2.length cap2]) 7 G105 kr C97 rfl kr kr (fun w => Tryz.call149 _ w) rfl (fI _ g91 ls91.length cap91 _ ls91 (C97.get 7 rfl) F91 (by omega) _ _ _ l2 ((h2.mono (zWm B2 B4 B6 B10 B12 B18 B19 B23 B87 B91 B93 B97)).mono (C97.leHG 7 rfl)) (yC F91.lt T2 (by omega)) (by omega)) ?_)
 rintro v106 w106 ob106 ⟨cur106,ls106,rfl,hg106,F106,hcan106,hval106⟩ hob106 C106 B106 a107 G107
 obtain rfl := Option.some.inj (hob106.symm.trans hg106)
 refine kW G107 kr (zD (t := 26) (b := b6) (off := 0) (c' := #[.slice (some ⟨g91,0,none⟩) ls106.length cap91]) (g := false) (m := 1) 4 _ G107 kr C106 rfl kr rfl kr kr kr rfl (by first | decide | (simp; done)) kr rfl ?_)
 intro w108 C108 B108
 refine zH <| zA (H103 _ _ ?_)
 refine zBj (N := 11) (sK [(⟨b4,0,none⟩,[.slice (some ⟨b10,0,none⟩) l.length l.length]),(⟨b10,k / 32,none⟩,[.int .u32 ((lq.getD (k / 32) 0 : Nat) : Int)])]) [10] kr kr kr C108 fun w109 C109 B109 V109 => ?_
 refine dY (sK.cons (C109.cells 5 rfl rfl) (sK.cons (C109.rowCells 3 rfl hrowq (by have := hrowq.len; (try simp only [List.length_set] at *); omega)) (sK.nil _))) (fun hH109 => ?_)
 refine dL (d := 25) (v := .slice (some ⟨b10,0,none⟩) l.length l.length) 0 G107 rfl kr kr kr (fun w hw => zB (t := 26) (g := false) (vs := [.slice (some ⟨b10,0,none⟩) l.length l.length]) (ad := ⟨b4,0,none⟩) rfl kr kr ir (hw.get 0 kr)) hH109 ?_
 intro a110 G110
 refine zK (d := 26) (v := .int .i64 (k : Int)) 1 G110 rfl kr kr kw (fun _ => hH109) fun a111 G111 => zK (d := 27) (v := .int .i64 (i64.wrap (Int.tdiv ((k : Int)) (32)))) 2 G111 rfl kr kr kw (fun _ => hH109) fun a112 G112 => ?_
 have G113 := G112.set 27 (v' := .int .i64 ((k / 32 : Nat) : Int)) kr rfl (zR (zAk _ (by omega)))
 refine zK (d := 28) (v := .pointer (some ⟨b10,k / 32,none⟩)) 3 G113 rfl kr kr (fun w => vF (t := 26) (e := 179) (b := b10) (off := 0) (len := l.length) (cap := l.length) (kd := .i64) (i := ((k / 32 : Nat) : Int)) (g := false) (m := 1) (off' := k / 32) rfl kr kr kr kr (by omega) (by omega) (by first | rfl | omega | (simp; done) | (simp; omega)) w) (fun _ => hH109) fun a114 G114 => ?_
 refine dL (d := 29) (v := .int .u32 ((lq.getD (k / 32) 0 : Nat) : Int)) 4 G114 rfl kr kr kr (fun w hw => zB (t := 179) (g := false) (vs := [.int .u32 ((lq.getD (k / 32) 0 : Nat) : Int)]) (ad := ⟨b10,k / 32,none⟩) rfl kr kr ir (hw.get 1 kr)) hH109 ?_
 intro a115 G115
 refine zK (d := 30) (v := .int .i64 (k : Int)) 5 G115 rfl kr kr kw (fun _ => hH109) fun a116 G116 => zK (d := 31) (v := .int .i64 (Int.tmod ((k : Int)) (32))) 6 G116 rfl kr kr kw (fun _ => hH109) fun a117 G117 => ?_
 have G118 := G117.set 31 (v' := .int .i64 ((k % 32 : Nat) : Int)) kr rfl (zR (zEg _))
 refine zK (d := 32) (v := .int .u32 ((2 ^ (k % 32) : Nat) : Int)) 7 G118 rfl kr kr (fun w => zNk rfl rfl rfl (by omega)) (fun _ => hH109) fun a119 G119 => zK (d := 33) (v := .int .u32 (fB ((lq.getD (k / 32) 0 : Nat) : Int) ((2 ^ (k % 32) : Nat) : Int))) 8 G119 rfl kr kr kw (fun _ => hH109) fun a120 G120 => ?_
 have G121 := G120.set 33 (v' := .int .u32 ((lq.getD (k / 32) 0 + 2 ^ (k % 32) : Nat) : Int)) kr rfl (zR hset1)
 refine zK (d := 34) (v := .pointer (some ⟨b10,k / 32,none⟩)) 9 G121 rfl kr kr (fun w => vF (t := 26) (e := 179) (b := b10) (off := 0) (len := l.length) (cap := l.length) (kd := .i64) (i := ((k / 32 : Nat) : Int)) (g := false) (m := 1) (off' := k / 32) rfl kr kr kr kr (by omega) (by omega) (by first | rfl | omega | (simp; done) | (simp; omega)) w) (fun _ => hH109) fun a122 G122 => ?_
 refine mW [10] kr rfl ?_
 refine wP.cons (i := 10) G122 rfl kr (bD (t := 179) (y := (lq.getD (k / 32) 0 + 2 ^ (k % 32))) (k := k / 32) (e := ((lq.getD (k / 32) 0 + 2 ^ (k % 32) : Nat) : Int)) 3 G122 kr C109 rfl rfl rfl (rfl) kr rfl hrowq (by have := hrowq.len; (try simp only [List.length_set] at *); omega) (hset2) ?_) wP.nil
 intro cur123 w123 F123 C123 B123
 refine ⟨bF kr,?_⟩
 refine zEq kr (nrm ?_)
 refine tH ?_
 refine bW hr19 C123 (fun w124 C124 B124 => pQ.next ?_)
 exact ⟨_,cur123,(lq.set (k / 32) (lq.getD (k / 32) 0 + 2 ^ (k % 32))),[(g91,.cells cur106 179 (0,0))],(some ⟨g91,0,none⟩),cap91,ls106,(2 * q + 1),C124,(qAj B23 B87 B91 B93 B97 B106 B108 B109 B123 B124),F123,.inr ⟨_,_,rfl,rfl,F106⟩,hcan106,by rw [hset3,hvq,Nat.pow_succ,Nat.mul_add,Nat.mul_one]; congr 1; ac_rfl,zZn hdiv (hval106.trans (by rw [hval91])) (by omega),by have := hval106; omega⟩
 have G125 := G99.set 21 (v' := .bool false) kr rfl (zJ T100)
 have Q126 : ¬ ((kE (val ls91) (val l2)) ≥ 0) := of_decide_eq_false T100
 have hcmp := dW Q126
 refine fQ ?_
 refine tH ?_
 refine bW hr19 C97 (fun w127 C127 B127 => pQ.next ?_)
 exact ⟨_,curq,lq,[(g91,.cells cur91 179 (0,0))],(some ⟨g91,0,none⟩),cap91,ls91,(2 * q),C127,(Le6 B23 B87 B91 B93 B97 B127),hrowq,.inr ⟨_,_,rfl,rfl,F91⟩,hcan91,by rw [hvq,Nat.pow_succ]; ac_rfl,zUu hdiv hval91,hcmp⟩
 rintro w128 ⟨Y128,curq,lq,rb,adr,capr,lr,q,C128,B128,hp128_0,hp128_1,hp128_2,hp128_3,hp128_4,hp128_5⟩
 refine rA.norm hr19 C128 (fun w129 C129 B129 => ?_)
 have hrowq := hp128_0
 have hrst := hp128_1
 have hcanlr := hp128_2
 have hvq := hp128_3
 have hdiv := hp128_4
 have hlt := hp128_5
 rcases hrst with ⟨rfl,rfl,rfl,rfl⟩ | ⟨gr,curr,rfl,rfl,hrowr⟩
 refine tH <| zA (H13 _ _ ?_)
 refine zG (fun K130 H130 => ?_)
 refine zBj (N := 5) (sK [(⟨b6,0,none⟩,[.slice none 0 0])]) [4] kr kr kr C129 fun w131 C131 B131 V131 => ?_
 refine dY (sK.cons (C131.cells 4 rfl rfl) (sK.nil _)) (fun hH131 => ?_)
 refine dL (d := 37) (v := .slice none 0 0) 2 G20 rfl kr kr kr (fun w hw => zB (t := 26) (g := false) (vs := [.slice none 0 0]) (ad := ⟨b6,0,none⟩) rfl kr kr ir (hw.get 0 kr)) hH131 ?_
 intro a132 G132
 refine mW [0] kr rfl ?_
 refine wP.cons (i := 0) G132 rfl kr (zF (d := 35) (v := .slice (some ⟨b10,0,none⟩) l.length l.length) G132 kr (zB (t := 26) (g := false) (vs := [.slice (some ⟨b10,0,none⟩) l.length l.length]) (ad := ⟨b4,0,none⟩) rfl kr kr ir (C131.cells 5 rfl rfl)) ?_) wP.nil
 intro a133 G133
 refine mV (sK.cons (C131.cells 4 rfl rfl) (sK.nil _)) (fun hH131 => ?_)
 refine mW [1] kr rfl ?_
 refine wP.cons (i := 1) G133 rfl kr (sI (d := 36) (f := 151) (cap := #[]) (vs := #[.slice (some ⟨b10,0,none⟩) l.length l.length]) G133 kr C131 rfl kr kr (fun w => Tryz.call151 _ w) (zCb _ X0 (zM _) _ _ _ lq (jM.limbs (Y := X0) hrowq (C131.get 3 rfl) (fun _ h => h.elim))) ?_) wP.nil
 rintro v134 w134 C134 B134 V134 rfl a135 G135
 refine mV (sK.cons (C134.cells 4 rfl rfl) (sK.nil _)) (fun hH134 => ?_)
 refine mW [3] kr rfl ?_
 refine wP.cons (i := 3) G135 rfl kr (zD (t := 26) (b := b4) (off := 0) (c' := #[.slice (some ⟨b10,0,none⟩) (kN lq) l.length]) (g := false) (m := 1) 5 _ G135 kr C134 rfl kr rfl kr kr kr rfl (by first | decide | (simp; done)) kr rfl ?_) wP.nil
 intro w136 C136 B136
 refine mV (sK.cons (C136.cells 4 rfl rfl) (sK.nil _)) (fun hH136 => ?_)
 refine mW [4] kr rfl ?_
 refine wP.cons (i := 4) G135 rfl kr (zD (t := 26) (b := b6) (off := 0) (c' := #[.slice none 0 0]) (g := false) (m := 1) 4 _ G135 kr C136 rfl kr rfl kr kr kr rfl (by first | decide | (simp; done)) kr rfl ?_) wP.nil
 intro w137 C137 B137
 refine ⟨bF kr,?_⟩
 refine zEq kr (nrm ?_)
 refine zA (H130 _ _ ?_)
 refine zAh <| zEs (v := .tuple #[.slice (some ⟨b10,0,none⟩) (kN lq) l.length,.slice none 0 0]) (rs := [.cell 4 26,.cell 5 26]) (vs := [.slice (some ⟨b10,0,none⟩) (kN lq) l.length,.slice none 0 0]) 1 G135 C137 rfl kr kr (fun w138 C138 B138 => ?_)
 refine ⟨(Res.cell (ad := ⟨b4,0,none⟩) (cs := [.slice (some ⟨b10,0,none⟩) (kN lq) l.length]) (g := false) kr kr kr ir (C138.cells 5 rfl rfl) (Res.cell (ad := ⟨b6,0,none⟩) (cs := [.slice none 0 0]) (g := false) kr kr kr ir (C138.cells 4 rfl rfl) Res.nil)),?_⟩
 obtain ⟨he1,he2⟩ := zPm hdiv hlt hvq
 exact ⟨C138.upd,_,rfl,_,_,Go.Gv.trimmed lq,[],_,_,_,_,_,_,rfl,⟨⟨rfl,(vL _).symm,lJ hrowq.lt,.inr ⟨_,_,rfl,C138.own_ge 3 rfl,C138.get 3 rfl,hrowq.trimmed⟩⟩,kR _,by rw [xO]; exact he1⟩,⟨⟨rfl,rfl,fun x hx => by simp at hx,.inl ⟨rfl,rfl,rfl⟩⟩,.inl rfl,he2⟩⟩
 refine tH <| zA (H13 _ _ ?_)
 refine zG (fun K139 H139 => ?_)
 refine zBj (N := 5) (sK [(⟨b6,0,none⟩,[.slice (some ⟨gr,0,none⟩) lr.length capr])]) [4] kr kr kr C129 fun w140 C140 B140 V140 => ?_
 refine dY (sK.cons (C140.cells 4 rfl rfl) (sK.nil _)) (fun hH140 => ?_)
 refine dL (d := 37) (v := .slice (some ⟨gr,0,none⟩) lr.length capr) 2 G20 rfl kr kr kr (fun w hw => zB (t := 26) (g := false) (vs := [.slice (some ⟨gr,0,none⟩) lr.length capr]) (ad := ⟨b6,0,none⟩) rfl kr kr ir (hw.get 0 kr)) hH140 ?_
 intro a141 G141
 refine mW [0] kr rfl ?_
 refine wP.cons (i := 0) G141 rfl kr (zF (d := 35) (v := .slice (some ⟨b10,0,none⟩) l.length l.length) G141 kr (zB (t := 26) (g := false) (vs := [.slice (some ⟨b10,0,none⟩) l.length l.length]) (ad := ⟨b4,0,none⟩) rfl kr kr ir (C140.cells 5 rfl rfl)) ?_) wP.nil
 intro a142 G142
 refine mV (sK.cons (C140.cells 4 rfl rfl) (sK.nil _)) (fun hH140 => ?_)
 refine mW [1] kr rfl ?_
 refine wP.cons (i := 1) G142 rfl kr (sI (d := 36) (f := 151) (cap := #[]) (vs := #[.slice (some ⟨b10,0,none⟩) l.length l.length]) G142 kr C140 rfl kr kr (fun w => Tryz.call151 _ w) (zCb _ X0 (zM _) _ _ _ lq (jM.limbs (Y := X0) hrowq (C140.get 3 rfl) (fun _ h => h.elim))) ?_) wP.nil
 rintro v143 w143 C143 B143 V143 rfl a144 G144
 refine mV (sK.cons (C143.cells 4 rfl rfl) (sK.nil _)) (fun hH143 => ?_)
 refine mW [3] kr rfl ?_
 refine wP.cons (i := 3) G144 rfl kr (zD (t := 26) (b := b4) (off := 0) (c' := #[.slice (some ⟨b10,0,none⟩) (kN lq) l.length]) (g := false) (m := 1) 5 _ G144 kr C143 rfl kr rfl kr kr kr rfl (by first | decide | (simp; done)) kr rfl ?_) wP.nil
 intro w145 C145 B145
 refine mV (sK.cons (C145.cells 4 rfl rfl) (sK.nil _)) (fun hH145 => ?_)
 refine mW [4] kr rfl ?_
 refine wP.cons (i := 4) G144 rfl kr (zD (t := 26) (b := b6) (off := 0) (c' := #[.slice (some ⟨gr,0,none⟩) lr.length capr]) (g := false) (m := 1) 4 _ G144 kr C145 rfl kr rfl kr kr kr rfl (by first | decide | (simp; done)) kr rfl ?_) wP.nil
 intro w146 C146 B146
 refine ⟨bF kr,?_⟩
 refine zEq kr (nrm ?_)
 refine zA (H139 _ _ ?_)
 refine zAh <| zEs (v := .tuple #[.slice (some ⟨b10,0,none⟩) (kN lq) l.length,.slice (some ⟨gr,0,none⟩) lr.length capr]) (rs := [.cell 4 26,.cell 5 26]) (vs := [.slice (some ⟨b10,0,none⟩) (kN lq) l.length,.slice (some ⟨gr,0,none⟩) lr.length capr]) 1 G144 C146 rfl kr kr (fun w147 C147 B147 => ?_)
 refine ⟨(Res.cell (ad := ⟨b4,0,none⟩) (cs := [.slice (some ⟨b10,0,none⟩) (kN lq) l.length]) (g := false) kr kr kr ir (C147.cells 5 rfl rfl) (Res.cell (ad := ⟨b6,0,none⟩) (cs := [.slice (some ⟨gr,0,none⟩) lr.length capr]) (g := false) kr kr kr ir (C147.cells 4 rfl rfl) Res.nil)),?_⟩
 obtain ⟨he1,he2⟩ := zPm hdiv hlt hvq
 exact ⟨C147.upd,_,rfl,_,_,Go.Gv.trimmed lq,lr,_,_,_,_,_,_,rfl,⟨⟨rfl,(vL _).symm,lJ hrowq.lt,.inr ⟨_,_,rfl,C147.own_ge 3 rfl,C147.get 3 rfl,hrowq.trimmed⟩⟩,kR _,by rw [xO]; exact he1⟩,⟨⟨rfl,rfl,hrowr.lt,.inr ⟨_,_,rfl,C147.own_ge 7 rfl,C147.get 7 rfl,hrowr⟩⟩,hcanlr,he2⟩⟩
 intro k w9 V9 hm1 hm2
 exact ⟨_,(List.replicate l.length (Value.int .u32 0)).toArray,(List.replicate l.length 0),[],none,0,[],0,C19.call V9,V9.le _,F10,.inl ⟨rfl,rfl,rfl,rfl⟩,.inl rfl,by rw [rD]; rfl,by rw [Nat.div_eq_of_lt hm1]; simp [val],hd⟩
set_option maxHeartbeats 1000000
def zMu (y : Nat) : Int := if y = 0 then 14 else 0
theorem zUz (w : World) (X : Hid) (hX : ∀ k o,X k o → k < w.heap.size) (ad : Option Addr) (len cap : Nat) (l : List Nat) (h : zL (rd w X) ad len cap l) (ad2 : Option Addr) (len2 cap2 : Nat) (l2 : List Nat) (h2 : zL (rd w X) ad2 len2 cap2 l2) : Calls Tryz.prog 154 #[.slice ad len cap,.slice ad2 len2 cap2] w (Ret E0 w fun w' v => DivV 179 w w' (or2 (pW l l2) (zMu (val l2))) (val l / val l2) (val l % val l2) v) := by
 obtain rfl := h.hlen
 obtain rfl := h2.hlen
 have hcap := h.hcap
 have hbig := h.hbig
 have hcap2 := h2.hcap
 have hbig2 := h2.hbig
 refine zen Tryz.func154 ?_
 have C0 : St E0 w X w X [] := St.start hX
 refine zz 12 <| zc C0 (zEa _ X0 (zM _) _ _ _ l (h.mono Le.x0) _ _ _ l2 (h2.mono Le.x0)) ?_
 rintro v3 w3 C3 B3 V3 rfl
 refine zz 11 <| zb 11 (b := ((pW l l2) != 0)) (fun T4 => ?_) (fun T4 => ?_)
 have Q5 : (pW l l2) ≠ 0 := by simpa using T4
 refine zz 12 <| zr' (v := .tuple #[.slice none 0 0,.slice none 0 0,.int .i64 (pW l l2)]) ?_
 exact ⟨C3.upd,_,rfl,by rw [zCo Q5]; exact .inl ⟨Q5,rfl⟩⟩
 have Q6 : (pW l l2) = 0 := by simpa using T4
 obtain ⟨⟨hl1,c1⟩,hl2,c2⟩ := zCu Q6
 refine zz 9 <| zb 15 (b := ((l2.length : Int) == 0)) (fun T7 => ?_) (fun T7 => ?_)
 have Q8 : (l2.length : Int) = 0 := by simpa using T7
 have hz : val l2 = 0 := by rw [List.eq_nil_of_length_eq_zero (by omega : l2.length = 0)]; rfl
 refine zz 11 <| zr' (v := .tuple #[.slice none 0 0,.slice none 0 0,.int .i64 14]) ?_
 exact ⟨C3.upd,_,rfl,by rw [mH Q6,zMu,if_pos hz]; exact .inl ⟨by decide,rfl⟩⟩
 have Q9 : (l2.length : Int) ≠ 0 := by simpa using T7
 have hp : 0 < val l2 := gM c2 (by rintro rfl; simp at Q9)
 refine zz 8 <| zc C3 (zVa _ X0 (zM _) _ _ _ l ((h.mono B3).mono Le.x0) _ _ _ l2 ((h2.mono B3).mono Le.x0) c1 c2 (by omega) (by omega) hp) ?_
 rintro v11 w11 C11 B11 V11 ⟨u11,v211,lq11,lr11,adq11,lenq11,capq11,adr11,lenr11,capr11,rfl,hq11,hr11⟩
 obtain rfl := hq11.own.hv; obtain rfl := hr11.own.hv
 refine zz 17 <| zr' (v := .tuple #[.slice adq11 lenq11 capq11,.slice adr11 lenr11 capr11,.int .i64 0]) ?_
 have hsz := (C3).upd.size
 exact ⟨C11.upd,_,rfl,by rw [mH Q6,zMu,if_neg (by omega)]; exact .inr ⟨rfl,_,_,_,_,_,_,_,_,_,_,rfl,hq11.back hsz,Nat.le_trans (yC h.hlt hq11.canon (by rw [hq11.val]; exact Nat.div_le_self _ _)) hl1,hr11.back hsz,Nat.le_trans (yC h.hlt hr11.canon (by rw [hr11.val]; exact Nat.mod_le _ _)) hl1⟩⟩
set_option maxHeartbeats 1000000
theorem zBf {l l2 : List Nat} (h : l.length ≤ 512) (hc : jC l) (h2 : l2.length ≤ 512) (T2 : jC l2) : pW l l2 = 0 := by
 unfold pW; rw [zGa h hc,zGa h2 T2]; rfl
theorem qCr (w : World) (ad : Option Addr) (len cap x : Nat) (h : kM (rd w X0) ad len cap x) (ad2 : Option Addr) (len2 cap2 y : Nat) (h2 : kM (rd w X0) ad2 len2 cap2 y) (hx : x < 4294967296 ^ 512) (hy : y < 4294967296 ^ 512) (hf : x * y < 4294967296 ^ 512) : Calls Tryz.prog 158 #[.slice ad len cap,.slice ad2 len2 cap2] w (Ret E0 w fun w' v => ∃ u,v = .tuple #[u,.int .i64 0] ∧ zFv w w' u (x * y)) := by
 obtain ⟨l,hl,hc,rfl,hn⟩ := h.limbs hx
 obtain ⟨l2,hl2,T2,rfl,hn2⟩ := h2.limbs hy
 refine (qCs w X0 (zM _) ad len cap l hl ad2 len2 cap2 l2 hl2).mono ?_
 rintro e w' ⟨hu,v,rfl,hv⟩
 obtain ⟨u,lr,adr,lenr,capr,rfl,hown,_⟩ := hv.ok (by rw [mH (zBf hn hc hn2 T2)]; unfold zRq; rw [if_pos hf])
 exact ⟨hu,_,rfl,u,rfl,hown.natV⟩
theorem qDm (w : World) (ad : Option Addr) (len cap x : Nat) (h : kM (rd w X0) ad len cap x) (ad2 : Option Addr) (len2 cap2 y : Nat) (h2 : kM (rd w X0) ad2 len2 cap2 y) (hx : x < 4294967296 ^ 512) (hy : y < 4294967296 ^ 512) (hf : x + y < 4294967296 ^ 512) : Calls Tryz.prog 159 #[.slice ad len cap,.slice ad2 len2 cap2] w (Ret E0 w fun w' v => ∃ u,v = .tuple #[u,.int .i64 0] ∧ zFv w w' u (x + y)) := by
 obtain ⟨l,hl,hc,rfl,hn⟩ := h.limbs hx
 obtain ⟨l2,hl2,T2,rfl,hn2⟩ := h2.limbs hy
 refine (qDp w X0 (zM _) ad len cap l hl ad2 len2 cap2 l2 hl2).mono ?_
 rintro e w' ⟨hu,v,rfl,hv⟩
 obtain ⟨u,lr,adr,lenr,capr,rfl,hown,_⟩ := hv.ok (by rw [mH (zBf hn hc hn2 T2)]; unfold zRq; rw [if_pos hf])
 exact ⟨hu,_,rfl,u,rfl,hown.natV⟩
theorem qAb (w : World) (ad : Option Addr) (len cap x : Nat) (h : kM (rd w X0) ad len cap x) (ad2 : Option Addr) (len2 cap2 y : Nat) (h2 : kM (rd w X0) ad2 len2 cap2 y) (hx : x < 4294967296 ^ 512) (hy : y < 4294967296 ^ 512) (hf : y ≤ x) : Calls Tryz.prog 160 #[.slice ad len cap,.slice ad2 len2 cap2] w (Ret E0 w fun w' v => ∃ u,v = .tuple #[u,.int .i64 0] ∧ zFv w w' u (x - y)) := by
 obtain ⟨l,hl,hc,rfl,hn⟩ := h.limbs hx
 obtain ⟨l2,hl2,T2,rfl,hn2⟩ := h2.limbs hy
 refine (zZw w X0 (zM _) ad len cap l hl ad2 len2 cap2 l2 hl2).mono ?_
 rintro e w' ⟨hu,v,rfl,hv⟩
 obtain ⟨u,lr,adr,lenr,capr,rfl,hown,_⟩ := hv.ok (by rw [mH (zBf hn hc hn2 T2)]; unfold zPf; rw [if_neg (by omega)])
 exact ⟨hu,_,rfl,u,rfl,hown.natV⟩
theorem zVf (w : World) (ad : Option Addr) (len cap x : Nat) (h : kM (rd w X0) ad len cap x) (ad2 : Option Addr) (len2 cap2 y : Nat) (h2 : kM (rd w X0) ad2 len2 cap2 y) (hx : x < 4294967296 ^ 512) (hy : y < 4294967296 ^ 512) (hf : x < y) : Calls Tryz.prog 160 #[.slice ad len cap,.slice ad2 len2 cap2] w (Ret E0 w fun _ v => v = .tuple #[.slice none 0 0,.int .i64 7]) := by
 obtain ⟨l,hl,hc,rfl,hn⟩ := h.limbs hx
 obtain ⟨l2,hl2,T2,rfl,hn2⟩ := h2.limbs hy
 refine (zZw w X0 (zM _) ad len cap l hl ad2 len2 cap2 l2 hl2).mono ?_
 rintro e w' ⟨hu,v,rfl,hv⟩
 have he : or2 (pW l l2) (zPf (val l) (val l2)) = 7 := by rw [mH (zBf hn hc hn2 T2)]; unfold zPf; rw [if_pos hf]
 rw [he] at hv
 exact ⟨hu,_,rfl,hv.err (by decide)⟩
theorem zUy (w : World) (ad : Option Addr) (len cap x : Nat) (h : kM (rd w X0) ad len cap x) (ad2 : Option Addr) (len2 cap2 y : Nat) (h2 : kM (rd w X0) ad2 len2 cap2 y) (hx : x < 4294967296 ^ 512) (hy : y < 4294967296 ^ 512) : Calls Tryz.prog 113 #[.slice ad len cap,.slice ad2 len2 cap2] w (Ret E0 w fun w' v => ∃ u,v = .tuple #[u,.int .i64 0] ∧ zFv w w' u (Nat.gcd x y)) := by
 obtain ⟨l,hl,hc,rfl,hn⟩ := h.limbs hx
 obtain ⟨l2,hl2,T2,rfl,hn2⟩ := h2.limbs hy
 refine (qDf w X0 (zM _) ad len cap l hl ad2 len2 cap2 l2 hl2).mono ?_
 rintro e w' ⟨hu,v,rfl,hv⟩
 obtain ⟨u,lr,adr,lenr,capr,rfl,hown,_⟩ := hv.ok (zBf hn hc hn2 T2)
 exact ⟨hu,_,rfl,u,rfl,hown.natV⟩
theorem zMq (w : World) (ad : Option Addr) (len cap x : Nat) (h : kM (rd w X0) ad len cap x) (ad2 : Option Addr) (len2 cap2 y : Nat) (h2 : kM (rd w X0) ad2 len2 cap2 y) (hx : x < 4294967296 ^ 512) (hy : y < 4294967296 ^ 512) (hd : 0 < y) : Calls Tryz.prog 154 #[.slice ad len cap,.slice ad2 len2 cap2] w (Ret E0 w fun w' v => ∃ u u2,v = .tuple #[u,u2,.int .i64 0] ∧ zFv w w' u (x / y) ∧ zFv w w' u2 (x % y)) := by
 obtain ⟨l,hl,hc,rfl,hn⟩ := h.limbs hx
 obtain ⟨l2,hl2,T2,rfl,hn2⟩ := h2.limbs hy
 refine (zUz w X0 (zM _) ad len cap l hl ad2 len2 cap2 l2 hl2).mono ?_
 rintro e w' ⟨hu,v,rfl,hv⟩
 have he : or2 (pW l l2) (zMu (val l2)) = 0 := by rw [mH (zBf hn hc hn2 T2)]; unfold zMu; rw [if_neg (by omega)]
 rcases hv with ⟨h0,_⟩ | ⟨_,u,u2,a1,a2,a3,a4,a5,a6,a7,a8,rfl,hq,_,hr,_⟩
 ·exact absurd he h0
 ·exact ⟨hu,_,rfl,u,u2,rfl,hq.natV,hr.natV⟩
theorem zGi (w : World) (ad : Option Addr) (len cap x : Nat) (h : kM (rd w X0) ad len cap x) (hx : x < 4294967296 ^ 512) : Calls Tryz.prog 146 #[.slice ad len cap] w (Ret E0 w fun w' v => zFv w w' v x) := by
 obtain ⟨l,hl,hc,rfl,hn⟩ := h.limbs hx
 refine (zCl w X0 (zM _) ad len cap l hl (by rw [hl.hlen]; omega)).mono ?_
 rintro e w' ⟨hu,v,rfl,ad',len',cap',hown⟩
 exact ⟨hu,_,rfl,zCr.natV ⟨hown,hc,rfl⟩⟩
theorem zTq (w : World) (x : Nat) (hx : x < 18446744073709551616) : Calls Tryz.prog 116 #[.int .u64 (x : Int)] w (Ret E0 w fun w' v => zFv w w' v x) := by
 refine (qCg w X0 (zM _) x hx).mono ?_
 rintro e w' ⟨hu,v,rfl,l,ad,len,cap,h1,h2,h3⟩
 exact ⟨hu,_,rfl,zCr.natV ⟨h1,h2,h3⟩⟩
section
variable (w : World) (X : Hid) (hX : ∀ k o,X k o → k < w.heap.size)
set_option maxHeartbeats 1000000
include hX in
theorem zCq (ad : Option Addr) (len cap x : Nat) (h : kM (rd w X) ad len cap x) (ad2 : Option Addr) (len2 cap2 y : Nat) (h2 : kM (rd w X) ad2 len2 cap2 y) (hx : x < 4294967296 ^ 512) (hy : y < 4294967296 ^ 512) (hf : x * y < 4294967296 ^ 512) : Calls Tryz.prog 129 #[.slice ad len cap,.slice ad2 len2 cap2] w (Ret E0 w fun w' v => aD X w' v (x * y)) := by
 refine zen Tryz.func129 ?_
 have C0 : St E0 w X w X [] := St.start hX
 refine zz 9 <| zc C0 (qCr _ _ _ _ x (h.mono Le.x0) _ _ _ y (h2.mono Le.x0) (by first | assumption | omega) (by first | assumption | omega) (by first | assumption | omega)) ?_
 rintro v3 w3 C3 B3 V3 ⟨u3,rfl,⟨ad3,len3,cap3,rfl,hn3⟩⟩
 have hN3 := hn3 _ C0.lt
 refine zz 14 <| zr' (v := .slice ad3 len3 cap3) ?_
 exact ⟨C3.upd,_,rfl,C3.lastN hN3⟩
include hX in
theorem qBw (ad : Option Addr) (len cap x : Nat) (h : kM (rd w X) ad len cap x) (ad2 : Option Addr) (len2 cap2 y : Nat) (h2 : kM (rd w X) ad2 len2 cap2 y) (hx : x < 4294967296 ^ 512) (hy : y < 4294967296 ^ 512) (hf : x + y < 4294967296 ^ 512) : Calls Tryz.prog 130 #[.slice ad len cap,.slice ad2 len2 cap2] w (Ret E0 w fun w' v => aD X w' v (x + y)) := by
 refine zen Tryz.func130 ?_
 have C0 : St E0 w X w X [] := St.start hX
 refine zz 9 <| zc C0 (qDm _ _ _ _ x (h.mono Le.x0) _ _ _ y (h2.mono Le.x0) (by first | assumption | omega) (by first | assumption | omega) (by first | assumption | omega)) ?_
 rintro v3 w3 C3 B3 V3 ⟨u3,rfl,⟨ad3,len3,cap3,rfl,hn3⟩⟩
 have hN3 := hn3 _ C0.lt
 refine zz 14 <| zr' (v := .slice ad3 len3 cap3) ?_
 exact ⟨C3.upd,_,rfl,C3.lastN hN3⟩
include hX in
theorem zTd (ad : Option Addr) (len cap x : Nat) (h : kM (rd w X) ad len cap x) (ad2 : Option Addr) (len2 cap2 y : Nat) (h2 : kM (rd w X) ad2 len2 cap2 y) (hx : x < 4294967296 ^ 512) (hy : y < 4294967296 ^ 512) (hf : y ≤ x) : Calls Tryz.prog 131 #[.slice ad len cap,.slice ad2 len2 cap2] w (Ret E0 w fun w' v => ∃ u,v = .tuple #[u,.bool false] ∧ aD X w' u (x - y)) := by
 refine zen Tryz.func131 ?_
 have C0 : St E0 w X w X [] := St.start hX
 refine zz 11 <| zc C0 (qAb _ _ _ _ x (h.mono Le.x0) _ _ _ y (h2.mono Le.x0) (by first | assumption | omega) (by first | assumption | omega) (by first | assumption | omega)) ?_
 rintro v3 w3 C3 B3 V3 ⟨u3,rfl,⟨ad3,len3,cap3,rfl,hn3⟩⟩
 have hN3 := hn3 _ C0.lt
 refine zz 23 <| zr' (v := .tuple #[.slice ad3 len3 cap3,.bool false]) ?_
 exact ⟨C3.upd,_,rfl,_,rfl,C3.lastN hN3⟩
include hX in
theorem zUv (ad : Option Addr) (len cap x : Nat) (h : kM (rd w X) ad len cap x) (ad2 : Option Addr) (len2 cap2 y : Nat) (h2 : kM (rd w X) ad2 len2 cap2 y) (hx : x < 4294967296 ^ 512) (hy : y < 4294967296 ^ 512) (hf : x < y) : Calls Tryz.prog 131 #[.slice ad len cap,.slice ad2 len2 cap2] w (Ret E0 w fun w' v => ∃ u,v = .tuple #[u,.bool true] ∧ aD X w' u (y - x)) := by
 refine zen Tryz.func131 ?_
 have C0 : St E0 w X w X [] := St.start hX
 refine zz 11 <| zc C0 (zVf _ _ _ _ x (h.mono Le.x0) _ _ _ y (h2.mono Le.x0) (by first | assumption | omega) (by first | assumption | omega) (by first | assumption | omega)) ?_
 rintro v3 w3 C3 B3 V3 rfl
 refine zz 20 <| zc C3 (qAb _ _ _ _ y ((h2.mono B3).mono Le.x0) _ _ _ x ((h.mono B3).mono Le.x0) (by first | assumption | omega) (by first | assumption | omega) (by first | assumption | omega)) ?_
 rintro v5 w5 C5 B5 V5 ⟨u5,rfl,⟨ad5,len5,cap5,rfl,hn5⟩⟩
 have hN5 := hn5 _ C3.lt
 refine zz 15 <| zr' (v := .tuple #[.slice ad5 len5 cap5,.bool true]) ?_
 exact ⟨C5.upd,_,rfl,_,rfl,C5.lastN hN5⟩
include hX in
theorem zWv (ad : Option Addr) (len cap x : Nat) (h : kM (rd w X) ad len cap x) (ad2 : Option Addr) (len2 cap2 y : Nat) (h2 : kM (rd w X) ad2 len2 cap2 y) (hx : x < 4294967296 ^ 512) (hy : y < 4294967296 ^ 512) : Calls Tryz.prog 131 #[.slice ad len cap,.slice ad2 len2 cap2] w (Ret E0 w fun w' v => ∃ u,v = .tuple #[u,.bool (decide (x < y))] ∧ aD X w' u (if x < y then y - x else x - y)) := by
 by_cases hf : x < y
 ·rw [if_pos hf,decide_eq_true hf]; exact zUv w X hX ad len cap x h ad2 len2 cap2 y h2 hx hy hf
 ·rw [if_neg hf,decide_eq_false hf]; exact zTd w X hX ad len cap x h ad2 len2 cap2 y h2 hx hy (by omega)
include hX in
theorem zEr (ad : Option Addr) (len cap x : Nat) (h : kM (rd w X) ad len cap x) : Calls Tryz.prog 112 #[.slice ad len cap] w (Ret E0 w fun _ v => v = .bool (decide (x = 1))) := by
 refine zen Tryz.func112 ?_
 have C0 : St E0 w X w X [] := St.start hX
 refine zz 11 <| zb 6 (b := ((len : Int) == 1)) (fun T2 => ?_) (fun T2 => ?_)
 have Q3 : (len : Int) = 1 := by simpa using T2
 obtain ⟨bk,of,rfl,hx1,hat⟩ := h.one (by omega)
 refine zz 1 <| zi (b := bk) (off := of) (len := len) (cap := cap) (kd := .i64) (i := 0) 1 of ?_ (hoff := kr)
 refine zl (hat).cells <| zz 6 <| zr' (v := .bool ((x : Int) == 1)) ?_
 exact ⟨C0.upd,_,rfl,zJ (by rw [Bool.eq_iff_iff]; simp; omega)⟩
 have Q4 : (len : Int) ≠ 1 := by simpa using T2
 have hx1 : x ≠ 1 := fun e => by subst e; exact absurd h.of_one (by omega)
 refine zz 9 <| zr' (v := .bool false) ?_
 exact ⟨C0.upd,_,rfl,zJ (by simp [hx1])⟩
end
set_option maxHeartbeats 1000000
theorem zEf (w : World) (X : Hid) (hX : ∀ k o,X k o → k < w.heap.size) (n : Int) (h1 : -9223372036854775808 ≤ n) (h2 : n ≤ 9223372036854775807) : Calls Tryz.prog 82 #[.int .i64 n] w (Ret E0 w fun w' v => aD X w' v n.natAbs) := by
 refine zen Tryz.func82 ?_
 have C0 : St E0 w X w X [] := St.start hX
 refine zz 12 <| zt 4 (p := (n) < 0) (fun Q2 => ?_) (fun Q2 => ?_)
 refine zz 5 <| zs 6 (v := .int .u64 (IntKind.u64.wrap (n))) (v' := .int .u64 (n + 18446744073709551616)) (zR (by rw [cZ]; omega)) <| zz 1 <| zs 7 (v := .int .u64 (IntKind.u64.wrap ((0 : Int) - (n + 18446744073709551616)))) (v' := .int .u64 ((n.natAbs : Nat) : Int)) (zR (by rw [cZ]; omega)) <| zc C0 (zTq _ n.natAbs (by omega)) ?_
 rintro v4 w4 C4 B4 V4 ⟨ad4,len4,cap4,rfl,hn4⟩
 have hN4 := hn4 _ C0.lt
 refine zz 5 <| zr' (v := .slice ad4 len4 cap4) ?_
 exact ⟨C4.upd,_,rfl,C4.lastN hN4⟩
 refine zz 7 <| zs 10 (v := .int .u64 (IntKind.u64.wrap (n))) (v' := .int .u64 ((n.natAbs : Nat) : Int)) (zR (by rw [cZ]; omega)) <| zc C0 (zTq _ n.natAbs (by omega)) ?_
 rintro v6 w6 C6 B6 V6 ⟨ad6,len6,cap6,rfl,hn6⟩
 have hN6 := hn6 _ C0.lt
 refine zz 4 <| zr' (v := .slice ad6 len6 cap6) ?_
 exact ⟨C6.upd,_,rfl,C6.lastN hN6⟩
theorem zTe (w : World) (X : Hid) (hX : ∀ k o,X k o → k < w.heap.size) (ad : Option Addr) (len cap x : Nat) (h : kM (rd w X) ad len cap x) (ad2 : Option Addr) (len2 cap2 y : Nat) (h2 : kM (rd w X) ad2 len2 cap2 y) (sg : Bool) (hx : x < 4294967296 ^ 512) (hy : y < 4294967296 ^ 512) (hd : 0 < y) : Calls Tryz.prog 118 #[.agg #[.slice ad len cap,.slice ad2 len2 cap2,.bool sg]] w (Ret E0 w fun w' v => zCe (old w) w' v (mkRat (sgn sg x) y)) := by
 refine zen Tryz.func118 ?_
 have C0 : St E0 w X w X [] := St.start hX
 refine zz 2 <| zn pn (.cells #[.slice ad len cap,.slice ad2 len2 cap2,.bool sg] 155 (0,0)) C0 fun b3 w3 Y3 C3 B3 V3 => zn pn (.cells #[.bool false,.slice none 0 0,.slice none 0 0] 28 (0,0)) C3 fun b5 w5 Y5 C5 B5 V5 => zz 7 <| zo 1 C5 <| zz 4 <| zb 10 (b := ((len : Int) == 0)) (fun T6 => ?_) (fun T6 => ?_)
 have Q7 : (len : Int) = 0 := by simpa using T6
 have hx0 : x = 0 := h.len0.1 (by omega)
 refine zz 4 <| zx 0 #[.bool false,.slice none 0 0,.slice none 0 0] C5 fun w8 C8 B8 => zz 4 <| zrS [.cell 2 28] (v := .agg #[.bool false,.slice none 0 0,.slice none 0 0]) (Res.cM C8 0 Res.nil) ?_
 exact ⟨C8.upd,_,rfl,by rw [hx0]; exact zNe y⟩
 have Q9 : (len : Int) ≠ 0 := by simpa using T6
 have hx0 : x ≠ 0 := fun e => absurd (h.len0.2 e) (by omega)
 have hgp : 0 < Nat.gcd x y := Nat.gcd_pos_of_pos_right _ hd
 have hgb : Nat.gcd x y < 4294967296 ^ 512 := Nat.lt_of_le_of_lt (Nat.gcd_le_right _ hd) hy
 have hb1 : x / Nat.gcd x y < 4294967296 ^ 512 := Nat.lt_of_le_of_lt (Nat.div_le_self _ _) hx
 have hb2 : y / Nat.gcd x y < 4294967296 ^ 512 := Nat.lt_of_le_of_lt (Nat.div_le_self _ _) hy
 refine zz 8 <| zo 1 C5 <| zz 2 <| zo 1 C5 <| zc C5 (zUy _ _ _ _ x ((h.mono (Le2 B3 B5)).mono Le.x0) _ _ _ y ((h2.mono (Le2 B3 B5)).mono Le.x0) (by first | assumption | omega) (by first | assumption | omega)) ?_
 rintro v11 w11 C11 B11 V11 ⟨u11,rfl,⟨ad11,len11,cap11,rfl,hn11⟩⟩
 have hN11 := hn11 _ C5.lt
 refine zz 10 <| zc C11 (zEr _ _ C11.lt _ _ _ (Nat.gcd x y) hN11) ?_
 rintro v13 w13 C13 B13 V13 rfl
 refine zz 3 <| zb 24 (b := !(decide (Nat.gcd x y = 1))) (fun T14 => ?_) (fun T14 => ?_)
 have Q15 : ¬ (Nat.gcd x y = 1) := by simpa using T14
 refine zz 5 <| zo 1 C13 <| zz 1 ?_
 have T1_ := (Le3 B3 B5 B11).trans B13
 refine zc C13 (zMq _ _ _ _ x ((h.mono T1_).mono Le.x0) _ _ _ (Nat.gcd x y) ((hN11.mono B13).mono Le.x0) (by first | assumption | omega) (by first | assumption | omega) (by assumption)) ?_
 rintro v17 w17 C17 B17 V17 ⟨u17,v217,rfl,⟨ad17,len17,cap17,rfl,hn17⟩,⟨ae17,le17,ce17,rfl,hm17⟩⟩
 have hN17 := hn17 _ C13.lt
 refine zz 6 <| zx 1 #[.slice ad17 len17 cap17,.slice ad2 len2 cap2,.bool sg] C17 fun w18 C18 B18 => zz 5 <| zo 1 C18 <| zz 1 ?_
 have T2_ := (T1_.trans B17).trans B18
 refine zc C18 (zMq _ _ _ _ y ((h2.mono T2_).mono Le.x0) _ _ _ (Nat.gcd x y) ((hN11.mono (Le3 B13 B17 B18)).mono Le.x0) (by first | assumption | omega) (by first | assumption | omega) (by assumption)) ?_
 rintro v20 w20 C20 B20 V20 ⟨u20,v220,rfl,⟨ad20,len20,cap20,rfl,hn20⟩,⟨ae20,le20,ce20,rfl,hm20⟩⟩
 have hN20 := hn20 _ C18.lt
 refine zz 6 <| zx 1 #[.slice ad17 len17 cap17,.slice ad20 len20 cap20,.bool sg] C20 fun w21 C21 B21 => zz 3 <| zdr C21 <| gz [0] <| gw 1 1 <| gz [2,3] <| gw 4 1 <| gp (al 7 5 pn (.cells #[.bool false,.slice none 0 0,.slice none 0 0] 28 (0,0))) ?_
 have T3_ := (Le2 B18 B20).trans B21
 refine gC 5 (fun w22 Y22 _ C22 B22 => (zGi _ _ _ _ (x / (Nat.gcd x y)) ((hN17.mono (T3_.trans B22)).mono Le.x0) (by first | assumption | omega))) ?_ (hPd := rC.nil.k)
 rintro v23 w22 Y23 w23 C22 B23 ⟨ad23,len23,cap23,rfl,hn23⟩
 have hN23 := hn23 _ C22.lt
 refine gz [6] <| gs1 (fun b24 => ?_) rC.nil.k
 refine gX 8 0 #[.bool sg,.slice ad23 len23 cap23,.slice none 0 0] fun w25 Y25 B25 => ?_
 refine yO (fun w26 Y26 C26 B26 => ?_)
 refine zz 6 <| zo 2 C26 ?_
 have T4_ := (Le3 B21 B23 B25).trans B26
 refine zc C26 (zEr _ _ C26.lt _ _ _ (y / (Nat.gcd x y)) (hN20.mono T4_)) ?_
 rintro v28 w28 C28 B28 V28 rfl
 refine zz 3 <| zb 58 (b := !(decide (y / (Nat.gcd x y) = 1))) (fun T29 => ?_) (fun T29 => ?_)
 have Q30 : ¬ (y / (Nat.gcd x y) = 1) := by simpa using T29
 refine zz 4 <| zo 2 C28 ?_
 have T5_ := T4_.trans B28
 refine zc C28 (zGi _ _ _ _ (y / (Nat.gcd x y)) ((hN20.mono T5_).mono Le.x0) (by first | assumption | omega)) ?_
 rintro v32 w32 C32 B32 V32 ⟨ad32,len32,cap32,rfl,hn32⟩
 have hN32 := hn32 _ C28.lt
 refine zz 1 <| zx 0 #[.bool sg,.slice ad23 len23 cap23,.slice ad32 len32 cap32] C32 fun w33 C33 B33 => zz 4 <| zo 0 C33 <| zx 1 #[.bool sg,.slice ad23 len23 cap23,.slice ad32 len32 cap32] C33 fun w34 C34 B34 => zz 3 <| zrS [.cell 2 28] (v := .agg #[.bool sg,.slice ad23 len23 cap23,.slice ad32 len32 cap32]) (Res.cM C34 1 Res.nil) ?_
 have T6_ := (Le5 B25 B26 B28 B32 B33).trans B34
 refine ⟨C34.upd,_,rfl,zBd hx0 hd (by exact (((hn23 (old _) (fun _ _ h => h)).mono (Le.own C22.lt C22.upd.size T6_)).mono Le.orr)) ?_⟩
 rw [dK,if_neg Q30]; exact (((hn32 (old _) (fun _ _ h => h)).mono (Le.own C28.lt C28.upd.size (Le2 B33 B34))).mono Le.orr)
 have Q35 : y / (Nat.gcd x y) = 1 := by simpa using T29
 refine zz 5 <| zo 0 C28 <| zx 1 #[.bool sg,.slice ad23 len23 cap23,.slice none 0 0] C28 fun w36 C36 B36 => zz 3 <| zrS [.cell 2 28] (v := .agg #[.bool sg,.slice ad23 len23 cap23,.slice none 0 0]) (Res.cM C36 1 Res.nil) ?_
 have T7_ := (Le3 B25 B26 B28).trans B36
 refine ⟨C36.upd,_,rfl,zBd hx0 hd (by exact (((hn23 (old _) (fun _ _ h => h)).mono (Le.own C22.lt C22.upd.size T7_)).mono Le.orr)) ?_⟩
 rw [dK,if_pos Q35]; exact (kM.nil none (by omega))
 have Q37 : Nat.gcd x y = 1 := by simpa using T14
 refine zz 4 <| zdr C13 <| gz [0] <| gw 1 1 <| gz [2,3] <| gw 4 1 <| gp (al 7 5 pn (.cells #[.bool false,.slice none 0 0,.slice none 0 0] 28 (0,0))) ?_
 have T8_ := (Le3 B3 B5 B11).trans B13
 refine gC 5 (fun w38 Y38 _ C38 B38 => (zGi _ _ _ _ x ((h.mono (T8_.trans B38)).mono Le.x0) (by first | assumption | omega))) ?_ (hPd := rC.nil.k)
 rintro v39 w38 Y39 w39 C38 B39 ⟨ad39,len39,cap39,rfl,hn39⟩
 have hN39 := hn39 _ C38.lt
 refine gz [6] <| gs1 (fun b40 => ?_) rC.nil.k
 refine gX 8 0 #[.bool sg,.slice ad39 len39 cap39,.slice none 0 0] fun w41 Y41 B41 => ?_
 refine yO (fun w42 Y42 C42 B42 => ?_)
 refine zz 6 <| zo 2 C42 ?_
 have T9_ := ((T8_.trans B39).trans B41).trans B42
 refine zc C42 (zEr _ _ C42.lt _ _ _ y (h2.mono T9_)) ?_
 rintro v44 w44 C44 B44 V44 rfl
 refine zz 3 <| zb 58 (b := !(decide (y = 1))) (fun T45 => ?_) (fun T45 => ?_)
 have Q46 : ¬ (y = 1) := by simpa using T45
 refine zz 4 <| zo 2 C44 ?_
 have T10_ := T9_.trans B44
 refine zc C44 (zGi _ _ _ _ y ((h2.mono T10_).mono Le.x0) (by first | assumption | omega)) ?_
 rintro v48 w48 C48 B48 V48 ⟨ad48,len48,cap48,rfl,hn48⟩
 have hN48 := hn48 _ C44.lt
 refine zz 1 <| zx 0 #[.bool sg,.slice ad39 len39 cap39,.slice ad48 len48 cap48] C48 fun w49 C49 B49 => zz 4 <| zo 0 C49 <| zx 1 #[.bool sg,.slice ad39 len39 cap39,.slice ad48 len48 cap48] C49 fun w50 C50 B50 => zz 3 <| zrS [.cell 2 28] (v := .agg #[.bool sg,.slice ad39 len39 cap39,.slice ad48 len48 cap48]) (Res.cM C50 1 Res.nil) ?_
 have T11_ := (Le5 B41 B42 B44 B48 B49).trans B50
 refine ⟨C50.upd,_,rfl,zBd hx0 hd (by rw [Q37,Nat.div_one]; exact (((hn39 (old _) (fun _ _ h => h)).mono (Le.own C38.lt C38.upd.size T11_)).mono Le.orr)) ?_⟩
 rw [Q37,Nat.div_one]
 rw [dK,if_neg Q46]; exact (((hn48 (old _) (fun _ _ h => h)).mono (Le.own C44.lt C44.upd.size (Le2 B49 B50))).mono Le.orr)
 have Q51 : y = 1 := by simpa using T45
 refine zz 5 <| zo 0 C44 <| zx 1 #[.bool sg,.slice ad39 len39 cap39,.slice none 0 0] C44 fun w52 C52 B52 => zz 3 <| zrS [.cell 2 28] (v := .agg #[.bool sg,.slice ad39 len39 cap39,.slice none 0 0]) (Res.cM C52 1 Res.nil) ?_
 have T12_ := (Le3 B41 B42 B44).trans B52
 refine ⟨C52.upd,_,rfl,zBd hx0 hd (by rw [Q37,Nat.div_one]; exact (((hn39 (old _) (fun _ _ h => h)).mono (Le.own C38.lt C38.upd.size T12_)).mono Le.orr)) ?_⟩
 rw [Q37,Nat.div_one]
 rw [dK,if_pos Q51]; exact (kM.nil none (by omega))
section
variable (w : World) (X : Hid) (hX : ∀ k o,X k o → k < w.heap.size)
set_option maxHeartbeats 1000000
include hX in
theorem zYj (sg : Bool) (ad : Option Addr) (len cap x : Nat) (h : kM (rd w X) ad len cap x) (ad2 : Option Addr) (len2 cap2 y : Nat) (h2 : kM (rd w X) ad2 len2 cap2 y) : Calls Tryz.prog 115 #[.agg #[.bool sg,.slice ad len cap,.slice ad2 len2 cap2]] w (Ret E0 w fun w' v => zYl X w' v sg x (if y = 0 then 1 else y)) := by
 refine zen Tryz.func115 ?_
 have C0 : St E0 w X w X [] := St.start hX
 refine zz 2 <| zn pn (.cells #[.bool sg,.slice ad len cap,.slice ad2 len2 cap2] 28 (0,0)) C0 fun b3 w3 Y3 C3 B3 V3 => zn pn (.cells #[.slice none 0 0,.slice none 0 0,.bool false] 155 (0,0)) C3 fun b5 w5 Y5 C5 B5 V5 => zz 5 <| zo 1 C5 <| zz 1 <| zo 1 C5 <| zz 2 <| zo 1 C5 ?_
 refine zz 1 <| zn pn (.cells #[.slice none 0 0,.slice none 0 0,.bool false] 155 (0,0)) C5 fun b7 w7 Y7 C7 B7 V7 => zx 0 #[.slice ad len cap,.slice ad2 len2 cap2,.bool sg] C7 fun w8 C8 B8 => zz 7 <| zo 0 C8 <| zz 4 <| zb 16 (b := ((len2 : Int) == 0)) (fun T9 => ?_) (fun T9 => ?_)
 have Q10 : (len2 : Int) = 0 := by simpa using T9
 have hy0 : y = 0 := h2.len0.1 (by omega)
 refine zz 2 <| zn (fun b => .slice (some ⟨b,0,none⟩) 1 1) (.cells #[.int .u32 1] 179 (0,0)) C8 fun b12 w12 Y12 C12 B12 V12 => zz 2 <| zx 1 #[.slice ad len cap,.slice (some ⟨b12,0,none⟩) 1 1,.bool sg] C12 fun w13 C13 B13 => zz 4 <| zo 1 C13 <| zx 2 #[.slice ad len cap,.slice (some ⟨b12,0,none⟩) 1 1,.bool sg] C13 fun w14 C14 B14 => zz 3 <| zrS [.cell 2 155] (v := .agg #[.slice ad len cap,.slice (some ⟨b12,0,none⟩) 1 1,.bool sg]) (Res.cM C14 2 Res.nil) ?_
 have T1_ := (Le6 B3 B5 B7 B8 B12 B13).trans B14
 exact ⟨C14.upd,_,rfl,_,_,_,_,_,_,rfl,(h.mono T1_).mono C14.le,by rw [if_pos hy0]; exact zYa (C14.rowX 0 rfl (C14.own_ge 0 rfl) (zXh rfl))⟩
 have Q15 : (len2 : Int) ≠ 0 := by simpa using T9
 have hy0 : y ≠ 0 := fun e => absurd (h2.len0.2 e) (by omega)
 refine zz 5 <| zo 0 C8 <| zx 1 #[.slice ad len cap,.slice ad2 len2 cap2,.bool sg] C8 fun w16 C16 B16 => zz 3 <| zrS [.cell 2 155] (v := .agg #[.slice ad len cap,.slice ad2 len2 cap2,.bool sg]) (Res.cM C16 1 Res.nil) ?_
 have T2_ := (Le4 B3 B5 B7 B8).trans B16
 exact ⟨C16.upd,_,rfl,_,_,_,_,_,_,rfl,(h.mono T2_).mono C16.le,by rw [if_neg hy0]; exact (h2.mono T2_).mono C16.le⟩
include hX in
theorem zZq (ad₁ : Option Addr) (len₁ cap₁ n₁ : Nat) (h₁ : kM (rd w X) ad₁ len₁ cap₁ n₁) (ae₁ : Option Addr) (le₁ ce₁ d₁ : Nat) (k₁ : kM (rd w X) ae₁ le₁ ce₁ d₁) (s₁ : Bool) (hn₁ : n₁ < xL) (hd₁ : d₁ < xL) (ad₂ : Option Addr) (len₂ cap₂ n₂ : Nat) (h₂ : kM (rd w X) ad₂ len₂ cap₂ n₂) (ae₂ : Option Addr) (le₂ ce₂ d₂ : Nat) (k₂ : kM (rd w X) ae₂ le₂ ce₂ d₂) (s₂ : Bool) (hn₂ : n₂ < xL) (hd₂ : d₂ < xL) : Calls Tryz.prog 92 #[.agg #[.slice ad₁ len₁ cap₁,.slice ae₁ le₁ ce₁,.bool s₁],.agg #[.slice ad₂ len₂ cap₂,.slice ae₂ le₂ ce₂,.bool s₂]] w (Ret E0 w fun w' v => ∃ s m,zYl X w' v s m (d₁ * d₂) ∧ m < 4294967296 ^ 512 ∧ sgn s m = sgn s₁ n₁ * d₂ + sgn s₂ n₂ * d₁) := by
 refine zen Tryz.func92 ?_
 have C0 : St E0 w X w X [] := St.start hX
 have hb : ∀ {x : Nat},x < xL → x < 4294967296 ^ 512 := fun h => Nat.lt_of_lt_of_le h qBy
 have hbn1 := hb hn₁
 have hbn2 := hb hn₂
 have hbd1 := hb hd₁
 have hbd2 := hb hd₂
 obtain ⟨hp1,hp12⟩ := fU hn₁ hd₂ hn₂ hd₁
 have hp2 := (fU hn₂ hd₁ hn₁ hd₂).1
 have hpd := (fU hd₁ hd₂ hd₁ hd₂).1
 have hpn := (fU hn₁ hn₂ hd₁ hd₂).1
 refine zz 2 <| zn pn (.cells #[.slice ad₁ len₁ cap₁,.slice ae₁ le₁ ce₁,.bool s₁] 155 (0,0)) C0 fun b3 w3 Y3 C3 B3 V3 => zn pn (.cells #[.slice ad₂ len₂ cap₂,.slice ae₂ le₂ ce₂,.bool s₂] 155 (0,0)) C3 fun b5 w5 Y5 C5 B5 V5 => zn pn (.cells #[.slice none 0 0,.slice none 0 0,.bool false] 155 (0,0)) C5 fun b7 w7 Y7 C7 B7 V7 => zz 3 <| zdr C7 <| gz [0,1] <| gw 2 2 <| gz [3,4] ?_
 refine gw 5 1 <| gz [7,8] <| gw 9 1 <| gz [10,11] <| gw 12 2 ?_
 have T1_ := (Le2 B3 B5).trans B7
 refine gC 6 (fun w8 Y8 _ C8 B8 => (zCq _ _ C8.lt _ _ _ n₁ (h₁.mono (T1_.trans B8)) _ _ _ d₂ (k₂.mono (T1_.trans B8)) (by first | assumption | omega) (by first | assumption | omega) (by first | assumption | omega))) ?_
 rintro v9 w8 Y9 w9 C8 B9 ⟨ad9,len9,cap9,rfl,hN9⟩
 have T2_ := T1_.trans B9
 refine gC 13 (fun w10 Y10 _ C10 B10 => (zCq _ _ C10.lt _ _ _ n₂ (h₂.mono (T2_.trans B10)) _ _ _ d₁ (k₁.mono (T2_.trans B10)) (by first | assumption | omega) (by first | assumption | omega) (by first | assumption | omega))) ?_
 rintro v11 w10 Y11 w11 C10 B11 ⟨ad11,len11,cap11,rfl,hN11⟩
 refine gz [14,15] ?_
 refine yO (fun w12 Y12 C12 B12 => ?_)
 refine zz 2 <| zdr C12 <| gz [0,1] <| gw 2 2 <| gz [3,4] <| gw 5 1 <| gz [8] <| gw 9 2 <| gp (al 11 7 pn (.cells #[.slice none 0 0,.slice none 0 0,.bool false] 155 (0,0))) ?_
 have T3_ := (T2_.trans B11).trans B12
 refine gC 6 (fun w13 Y13 _ C13 B13 => (zCq _ _ C13.lt _ _ _ d₁ (k₁.mono (T3_.trans B13)) _ _ _ d₂ (k₂.mono (T3_.trans B13)) (by first | assumption | omega) (by first | assumption | omega) (by first | assumption | omega))) ?_ (hPd := rC.nil.k)
 rintro v14 w13 Y14 w14 C13 B14 ⟨ad14,len14,cap14,rfl,hN14⟩
 refine gz [7,10] <| gs1 (fun b15 => ?_) rC.nil.k
 refine gX 12 0 #[.slice none 0 0,.slice ad14 len14 cap14,.bool s₁] fun w16 Y16 B16 => ?_
 refine yO (fun w17 Y17 C17 B17 => ?_)
 refine zz 5 <| zo 3 C17 <| zz 1 <| zo 2 C17 <| zz 3 <| zb 38 (b := (s₁ == s₂)) (fun T18 => ?_) (fun T18 => ?_)
 have Q19 : s₁ = s₂ := by simpa using T18
 refine zz 5 ?_
 have T4_ := (Le4 B11 B12 B14 B16).trans B17
 have T5_ := (Le3 B12 B14 B16).trans B17
 refine zc C17 (qBw _ _ C17.lt _ _ _ (n₁ * d₂) (hN9.mono T4_) _ _ _ (n₂ * d₁) (hN11.mono T5_) (by first | assumption | omega) (by first | assumption | omega) (by first | assumption | omega)) ?_
 rintro v21 w21 C21 B21 V21 ⟨ad21,len21,cap21,rfl,hN21⟩
 refine zz 2 <| zx 0 #[.slice ad21 len21 cap21,.slice ad14 len14 cap14,.bool s₁] C21 fun w22 C22 B22 => zz 4 <| zo 0 C22 <| zx 1 #[.slice ad21 len21 cap21,.slice ad14 len14 cap14,.bool s₁] C22 fun w23 C23 B23 => zz 4 <| zrS [.cell 4 155] (v := .agg #[.slice ad21 len21 cap21,.slice ad14 len14 cap14,.bool s₁]) (Res.cM C23 1 Res.nil) ?_
 have T6_ := (Le4 B16 B17 B21 B22).trans B23
 have hx9 := (hN21.mono (Le2 B22 B23))
 exact ⟨C23.upd,_,rfl,_,_,⟨_,_,_,_,_,_,rfl,hx9.mono C23.le,(hN14.mono T6_).mono C23.le⟩,hp12,zWp Q19 _ _ _ _⟩
 have Q24 : s₁ ≠ s₂ := by simpa using T18
 refine zz 13 ?_
 have T7_ := (Le4 B11 B12 B14 B16).trans B17
 have T8_ := (Le3 B12 B14 B16).trans B17
 refine zc C17 (zWv _ _ C17.lt _ _ _ (n₁ * d₂) (hN9.mono T7_) _ _ _ (n₂ * d₁) (hN11.mono T8_) (by first | assumption | omega) (by first | assumption | omega)) ?_
 rintro v26 w26 C26 B26 V26 ⟨u26,rfl,⟨ad26,len26,cap26,rfl,hN26⟩⟩
 refine zz 5 <| zx 0 #[.slice ad26 len26 cap26,.slice ad14 len14 cap14,.bool s₁] C26 fun w27 C27 B27 => zz 8 <| zt 53 (p := (n₁ * d₂) < (n₂ * d₁)) (fun Q28 => ?_) (fun Q28 => ?_)
 refine zz 3 <| zo 2 C27 <| zz 1 <| zx 0 #[.slice ad26 len26 cap26,.slice ad14 len14 cap14,.bool s₂] C27 fun w29 C29 B29 => zz 4 <| zo 0 C29 <| zx 1 #[.slice ad26 len26 cap26,.slice ad14 len14 cap14,.bool s₂] C29 fun w30 C30 B30 => zz 3 <| zrS [.cell 4 155] (v := .agg #[.slice ad26 len26 cap26,.slice ad14 len14 cap14,.bool s₂]) (Res.cM C30 1 Res.nil) ?_
 have T9_ := (Le5 B16 B17 B26 B27 B29).trans B30
 have hx9 := (hN26.mono (Le3 B27 B29 B30))
 rw [if_pos Q28] at hx9
 exact ⟨C30.upd,_,rfl,_,_,⟨_,_,_,_,_,_,rfl,hx9.mono C30.le,(hN14.mono T9_).mono C30.le⟩,Nat.lt_of_le_of_lt (Nat.sub_le _ _) hp2,qCb Q24 Q28⟩
 refine zz 5 <| zo 0 C27 <| zx 1 #[.slice ad26 len26 cap26,.slice ad14 len14 cap14,.bool s₁] C27 fun w31 C31 B31 => zz 3 <| zrS [.cell 4 155] (v := .agg #[.slice ad26 len26 cap26,.slice ad14 len14 cap14,.bool s₁]) (Res.cM C31 1 Res.nil) ?_
 have T10_ := (Le4 B16 B17 B26 B27).trans B31
 have hx9 := (hN26.mono (Le2 B27 B31))
 rw [if_neg Q28] at hx9
 exact ⟨C31.upd,_,rfl,_,_,⟨_,_,_,_,_,_,rfl,hx9.mono C31.le,(hN14.mono T10_).mono C31.le⟩,Nat.lt_of_le_of_lt (Nat.sub_le _ _) hp1,qAr Q24 (by omega)⟩
include hX in
theorem zRe (ad₁ : Option Addr) (len₁ cap₁ n₁ : Nat) (h₁ : kM (rd w X) ad₁ len₁ cap₁ n₁) (ae₁ : Option Addr) (le₁ ce₁ d₁ : Nat) (k₁ : kM (rd w X) ae₁ le₁ ce₁ d₁) (s₁ : Bool) (hn₁ : n₁ < xL) (hd₁ : d₁ < xL) (ad₂ : Option Addr) (len₂ cap₂ n₂ : Nat) (h₂ : kM (rd w X) ad₂ len₂ cap₂ n₂) (ae₂ : Option Addr) (le₂ ce₂ d₂ : Nat) (k₂ : kM (rd w X) ae₂ le₂ ce₂ d₂) (s₂ : Bool) (hn₂ : n₂ < xL) (hd₂ : d₂ < xL) : Calls Tryz.prog 134 #[.agg #[.slice ad₁ len₁ cap₁,.slice ae₁ le₁ ce₁,.bool s₁],.agg #[.slice ad₂ len₂ cap₂,.slice ae₂ le₂ ce₂,.bool s₂]] w (Ret E0 w fun w' v => ∃ s m,zYl X w' v s m (d₁ * d₂) ∧ m < 4294967296 ^ 512 ∧ sgn s m = sgn s₁ n₁ * sgn s₂ n₂) := by
 refine zen Tryz.func134 ?_
 have C0 : St E0 w X w X [] := St.start hX
 have hb : ∀ {x : Nat},x < xL → x < 4294967296 ^ 512 := fun h => Nat.lt_of_lt_of_le h qBy
 have hbn1 := hb hn₁
 have hbn2 := hb hn₂
 have hbd1 := hb hd₁
 have hbd2 := hb hd₂
 obtain ⟨hp1,hp12⟩ := fU hn₁ hd₂ hn₂ hd₁
 have hp2 := (fU hn₂ hd₁ hn₁ hd₂).1
 have hpd := (fU hd₁ hd₂ hd₁ hd₂).1
 have hpn := (fU hn₁ hn₂ hd₁ hd₂).1
 refine zz 2 <| zn pn (.cells #[.slice ad₁ len₁ cap₁,.slice ae₁ le₁ ce₁,.bool s₁] 155 (0,0)) C0 fun b3 w3 Y3 C3 B3 V3 => zn pn (.cells #[.slice ad₂ len₂ cap₂,.slice ae₂ le₂ ce₂,.bool s₂] 155 (0,0)) C3 fun b5 w5 Y5 C5 B5 V5 => zn pn (.cells #[.slice none 0 0,.slice none 0 0,.bool false] 155 (0,0)) C5 fun b7 w7 Y7 C7 B7 V7 => zz 3 <| zdr C7 <| gz [0,1] <| gw 2 2 <| gz [3,4] ?_
 refine gw 5 1 <| gz [7,8] <| gw 9 2 <| gz [10,11] <| gw 12 1 <| gz [15] <| gw 16 2 <| gz [17] <| gw 18 1 ?_
 refine gz [19] ?_
 have T1_ := (Le2 B3 B5).trans B7
 refine gC 6 (fun w8 Y8 _ C8 B8 => (zCq _ _ C8.lt _ _ _ n₁ (h₁.mono (T1_.trans B8)) _ _ _ n₂ (h₂.mono (T1_.trans B8)) (by first | assumption | omega) (by first | assumption | omega) (by first | assumption | omega))) ?_
 rintro v9 w8 Y9 w9 C8 B9 ⟨ad9,len9,cap9,rfl,hN9⟩
 have T2_ := T1_.trans B9
 refine gC 13 (fun w10 Y10 _ C10 B10 => (zCq _ _ C10.lt _ _ _ d₁ (k₁.mono (T2_.trans B10)) _ _ _ d₂ (k₂.mono (T2_.trans B10)) (by first | assumption | omega) (by first | assumption | omega) (by first | assumption | omega))) ?_
 rintro v11 w10 Y11 w11 C10 B11 ⟨ad11,len11,cap11,rfl,hN11⟩
 refine gz [14,20] <| gX 21 0 #[.slice ad9 len9 cap9,.slice ad11 len11 cap11,.bool (!(s₁ == s₂))] fun w12 Y12 B12 => ?_
 refine yO (fun w13 Y13 C13 B13 => ?_)
 refine zz 2 <| zrS [.cell 4 155] (v := .agg #[.slice ad9 len9 cap9,.slice ad11 len11 cap11,.bool (!(s₁ == s₂))]) (Res.cM C13 0 Res.nil) ?_
 exact ⟨C13.upd,_,rfl,_,_,⟨_,_,_,_,_,_,rfl,(hN9.mono (Le3 B11 B12 B13)).mono C13.le,(hN11.mono (Le2 B12 B13)).mono C13.le⟩,hpn,zYt _ _ _ _⟩
end
set_option maxHeartbeats 1000000
theorem zQz {a : Raw} (h : 128 < a.ln.length ∨ 128 < a.ld.length) : a.chk = 4 := if_pos h
theorem zBa {a : Raw} (h : ¬ (128 < a.ln.length ∨ 128 < a.ld.length)) (h2 : xX a.ln ≠ 0 ∨ xX a.ld ≠ 0 ∨ val a.ld = 1 ∨ (val a.ln = 0 ∧ (a.neg = true ∨ 0 < val a.ld))) : a.chk = 2 := (if_neg h).trans (if_pos h2)
theorem zQx {a : Raw} (h : ¬ (128 < a.ln.length ∨ 128 < a.ld.length)) (h2 : ¬ (xX a.ln ≠ 0 ∨ xX a.ld ≠ 0 ∨ val a.ld = 1 ∨ (val a.ln = 0 ∧ (a.neg = true ∨ 0 < val a.ld)))) (h3 : 0 < val a.ld ∧ Nat.gcd (val a.ln) (val a.ld) ≠ 1) : a.chk = 2 := (if_neg h).trans ((if_neg h2).trans (if_pos h3))
theorem zFg {a : Raw} (h : ¬ (128 < a.ln.length ∨ 128 < a.ld.length)) (h2 : ¬ (xX a.ln ≠ 0 ∨ xX a.ld ≠ 0 ∨ val a.ld = 1 ∨ (val a.ln = 0 ∧ (a.neg = true ∨ 0 < val a.ld)))) (h3 : ¬ (0 < val a.ld ∧ Nat.gcd (val a.ln) (val a.ld) ≠ 1)) : a.chk = 0 := (if_neg h).trans ((if_neg h2).trans (if_neg h3))
theorem sV {l : List Nat} (hc : jC l) : l.length = 0 ↔ val l = 0 := by
 constructor
 ·intro h; rw [List.eq_nil_of_length_eq_zero h]; rfl
 ·intro h; rw [aC hc h]; rfl
theorem zAl (w : World) (X : Hid) (hX : ∀ k o,X k o → k < w.heap.size) (a : Raw) (ad : Option Addr) (len cap : Nat) (h : zL (rd w X) ad len cap a.ln) (ad2 : Option Addr) (len2 cap2 : Nat) (h2 : zL (rd w X) ad2 len2 cap2 a.ld) : Calls Tryz.prog 79 #[.agg #[.bool a.neg,.slice ad len cap,.slice ad2 len2 cap2]] w (Ret E0 w fun _ v => v = .int .i64 a.chk) := by
 obtain rfl := h.hlen
 obtain rfl := h2.hlen
 have hcap := h.hcap
 have hbig := h.hbig
 have hcap2 := h2.hcap
 have hbig2 := h2.hbig
 refine zen Tryz.func79 ?_
 have C0 : St E0 w X w X [] := St.start hX
 refine zz 2 <| zn pn (.cells #[.bool a.neg,.slice ad a.ln.length cap,.slice ad2 a.ld.length cap2] 28 (0,0)) C0 fun b3 w3 Y3 C3 B3 V3 => zz 8 <| zo 0 C3 <| zz 3 <| zt 10 (p := (a.ln.length : Int) > 128) (fun Q4 => ?_) (fun Q4 => ?_)
 refine zz 17 <| zr' (v := .int .i64 4) ?_
 exact ⟨C3.upd,_,rfl,zR (zQz (by omega)).symm⟩
 refine zz 1 <| zo 0 C3 <| zz 6 <| zt 5 (p := (a.ld.length : Int) > 128) (fun Q5 => ?_) (fun Q5 => ?_)
 refine zz 9 <| zr' (v := .int .i64 4) ?_
 exact ⟨C3.upd,_,rfl,zR (zQz (by omega)).symm⟩
 have hlong : ¬ (128 < a.ln.length ∨ 128 < a.ld.length) := by omega
 refine zz 5 <| zo 0 C3 <| zc C3 (zLd _ X0 (zM _) _ _ _ a.ln ((h.mono B3).mono Le.x0)) ?_
 rintro v7 w7 C7 B7 V7 rfl
 refine zz 2 <| zb 21 (b := ((xX a.ln) != 0)) (fun T8 => ?_) (fun T8 => ?_)
 have Q9 : (xX a.ln) ≠ 0 := by simpa using T8
 refine zz 20 <| zr' (v := .int .i64 2) ?_
 exact ⟨C7.upd,_,rfl,zR (zBa hlong (.inl Q9)).symm⟩
 have Q10 : (xX a.ln) = 0 := by simpa using T8
 refine zz 1 <| zo 0 C7 <| zc C7 (zLd _ X0 (zM _) _ _ _ a.ld ((h2.mono (Le2 B3 B7)).mono Le.x0)) ?_
 rintro v12 w12 C12 B12 V12 rfl
 refine zz 5 <| zb 16 (b := ((xX a.ld) != 0)) (fun T13 => ?_) (fun T13 => ?_)
 have Q14 : (xX a.ld) ≠ 0 := by simpa using T13
 refine zz 12 <| zr' (v := .int .i64 2) ?_
 exact ⟨C12.upd,_,rfl,zR (zBa hlong (.inr (.inl Q14))).symm⟩
 have Q15 : (xX a.ld) = 0 := by simpa using T13
 have hcn := (dD (by simpa using Q10 : xX a.ln = 0)).2
 have hcd := (dD (by simpa using Q15 : xX a.ld = 0)).2
 have hzn := sV hcn
 have hzd := sV hcd
 have hB : (4294967296 : Nat) ^ 128 ≤ 4294967296 ^ 512 := qBy
 have hbn : val a.ln < 4294967296 ^ 512 := Nat.lt_of_lt_of_le ((kC h.hlt hcn 128).1 (by omega)) hB
 have hbd : val a.ld < 4294967296 ^ 512 := Nat.lt_of_lt_of_le ((kC h2.hlt hcd 128).1 (by omega)) hB
 have hNn := h.natR hcn
 have hNd := h2.natR hcd
 refine zz 4 <| zo 0 C12 <| zc C12 (zEr _ _ C12.lt _ _ _ (val a.ld) (hNd.mono (Le3 B3 B7 B12))) ?_
 rintro v17 w17 C17 B17 V17 rfl
 refine zz 3 <| zt 16 (p := (val a.ld) = 1) (fun Q18 => ?_) (fun Q18 => ?_)
 refine zz 12 <| zr' (v := .int .i64 2) ?_
 exact ⟨C17.upd,_,rfl,zR (zBa hlong (.inr (.inr (.inl (by simpa using Q18))))).symm⟩
 refine zz 3 <| zo 0 C17 <| zz 3 <| zb 34 (b := ((a.ln.length : Int) == 0)) (fun T19 => ?_) (fun T19 => ?_)
 have Q20 : (a.ln.length : Int) = 0 := by simpa using T19
 refine zz 1 <| zo 0 C17 <| zz 1 <| zb 37 (b := a.neg) (fun T21 => ?_) (fun T21 => ?_)
 have Q22 : a.neg = true := by simpa using T21
 refine zz 18 <| zr' (v := .int .i64 2) ?_
 exact ⟨C17.upd,_,rfl,zR (zBa hlong (.inr (.inr (.inr ⟨by omega,.inl Q22⟩)))).symm⟩
 have Q23 : a.neg = false := by simpa using T21
 refine zz 1 <| zo 0 C17 <| zz 7 <| zt 16 (p := (a.ld.length : Int) > 0) (fun Q24 => ?_) (fun Q24 => ?_)
 refine zz 9 <| zr' (v := .int .i64 2) ?_
 exact ⟨C17.upd,_,rfl,zR (zBa hlong (.inr (.inr (.inr ⟨by omega,.inr (by omega)⟩)))).symm⟩
 have hok : ¬ (xX a.ln ≠ 0 ∨ xX a.ld ≠ 0 ∨ val a.ld = 1 ∨ (val a.ln = 0 ∧ (a.neg = true ∨ 0 < val a.ld))) := by intro hh; rcases hh with e | e | e | ⟨e,e2⟩; exact (fun x => absurd (by simpa using Q10 : xX a.ln = 0) x) e; exact (fun x => absurd (by simpa using Q15 : xX a.ld = 0) x) e; exact (fun x => absurd x (by simpa using Q18)) e; rcases e2 with e2 | e2; rw [Q23] at e2; cases e2; omega
 have hz : ¬ 0 < val a.ld := by omega
 refine zz 8 <| zo 0 C17 <| zz 4 <| zt 47 (p := (a.ld.length : Int) > 0) (fun Q25 => ?_) (fun Q25 => ?_)
 refine zz 4 <| zo 0 C17 <| zz 1 <| zo 0 C17 ?_
 have T1_ := (Le3 B3 B7 B12).trans B17
 refine zc C17 (zUy _ _ _ _ (val a.ln) ((hNn.mono T1_).mono Le.x0) _ _ _ (val a.ld) ((hNd.mono T1_).mono Le.x0) (by first | assumption | omega) (by first | assumption | omega)) ?_
 rintro v27 w27 C27 B27 V27 ⟨u27,rfl,⟨ad27,len27,cap27,rfl,hn27⟩⟩
 have hN27 := hn27 _ C17.lt
 refine zz 10 <| zc C27 (zEr _ _ C27.lt _ _ _ (Nat.gcd (val a.ln) (val a.ld)) hN27) ?_
 rintro v29 w29 C29 B29 V29 rfl
 refine zz 3 <| zb 58 (b := !(decide (Nat.gcd (val a.ln) (val a.ld) = 1))) (fun T30 => ?_) (fun T30 => ?_)
 have Q31 : ¬ (Nat.gcd (val a.ln) (val a.ld) = 1) := by simpa using T30
 refine zz 8 <| zr' (v := .int .i64 2) ?_
 exact ⟨C29.upd,_,rfl,zR (zQx hlong hok ⟨by omega,by simpa using Q31⟩).symm⟩
 have Q32 : Nat.gcd (val a.ln) (val a.ld) = 1 := by simpa using T30
 refine zz 9 <| zr' (v := .int .i64 0) ?_
 exact ⟨C29.upd,_,rfl,zR (zFg hlong hok (fun hh => hh.2 (by simpa using Q32))).symm⟩
 refine zz 9 <| zr' (v := .int .i64 0) ?_
 exact ⟨C17.upd,_,rfl,zR (zFg hlong hok (fun hh => by omega)).symm⟩
 have Q33 : (a.ln.length : Int) ≠ 0 := by simpa using T19
 refine zz 20 <| zo 0 C17 <| zz 4 <| zt 47 (p := (a.ld.length : Int) > 0) (fun Q34 => ?_) (fun Q34 => ?_)
 have hok : ¬ (xX a.ln ≠ 0 ∨ xX a.ld ≠ 0 ∨ val a.ld = 1 ∨ (val a.ln = 0 ∧ (a.neg = true ∨ 0 < val a.ld))) := by intro hh; rcases hh with e | e | e | ⟨e,e2⟩; exact (fun x => absurd (by simpa using Q10 : xX a.ln = 0) x) e; exact (fun x => absurd (by simpa using Q15 : xX a.ld = 0) x) e; exact (fun x => absurd x (by simpa using Q18)) e; omega
 refine zz 4 <| zo 0 C17 <| zz 1 <| zo 0 C17 ?_
 have T2_ := (Le3 B3 B7 B12).trans B17
 refine zc C17 (zUy _ _ _ _ (val a.ln) ((hNn.mono T2_).mono Le.x0) _ _ _ (val a.ld) ((hNd.mono T2_).mono Le.x0) (by first | assumption | omega) (by first | assumption | omega)) ?_
 rintro v36 w36 C36 B36 V36 ⟨u36,rfl,⟨ad36,len36,cap36,rfl,hn36⟩⟩
 have hN36 := hn36 _ C17.lt
 refine zz 10 <| zc C36 (zEr _ _ C36.lt _ _ _ (Nat.gcd (val a.ln) (val a.ld)) hN36) ?_
 rintro v38 w38 C38 B38 V38 rfl
 refine zz 3 <| zb 58 (b := !(decide (Nat.gcd (val a.ln) (val a.ld) = 1))) (fun T39 => ?_) (fun T39 => ?_)
 have Q40 : ¬ (Nat.gcd (val a.ln) (val a.ld) = 1) := by simpa using T39
 refine zz 8 <| zr' (v := .int .i64 2) ?_
 exact ⟨C38.upd,_,rfl,zR (zQx hlong hok ⟨by omega,by simpa using Q40⟩).symm⟩
 have Q41 : Nat.gcd (val a.ln) (val a.ld) = 1 := by simpa using T39
 refine zz 9 <| zr' (v := .int .i64 0) ?_
 exact ⟨C38.upd,_,rfl,zR (zFg hlong hok (fun hh => hh.2 (by simpa using Q41))).symm⟩
 have hok : ¬ (xX a.ln ≠ 0 ∨ xX a.ld ≠ 0 ∨ val a.ld = 1 ∨ (val a.ln = 0 ∧ (a.neg = true ∨ 0 < val a.ld))) := by intro hh; rcases hh with e | e | e | ⟨e,e2⟩; exact (fun x => absurd (by simpa using Q10 : xX a.ln = 0) x) e; exact (fun x => absurd (by simpa using Q15 : xX a.ld = 0) x) e; exact (fun x => absurd x (by simpa using Q18)) e; omega
 refine zz 9 <| zr' (v := .int .i64 0) ?_
 exact ⟨C17.upd,_,rfl,zR (zFg hlong hok (fun hh => by omega)).symm⟩
section
variable (w : World) (X : Hid) (hX : ∀ k o,X k o → k < w.heap.size)
set_option maxHeartbeats 1000000
def OpC (f : Nat) (op : Rat → Rat → Rat) : Prop := ∀ (w : World) (X : Hid) (hX : ∀ k o,X k o → k < w.heap.size) (ad₁ : Option Addr) (len₁ cap₁ n₁ : Nat) (h₁ : kM (rd w X) ad₁ len₁ cap₁ n₁) (ae₁ : Option Addr) (le₁ ce₁ d₁ : Nat) (k₁ : kM (rd w X) ae₁ le₁ ce₁ d₁) (s₁ : Bool) (hn₁ : n₁ < xL) (hd₁ : d₁ < xL) (ad₂ : Option Addr) (len₂ cap₂ n₂ : Nat) (h₂ : kM (rd w X) ad₂ len₂ cap₂ n₂) (ae₂ : Option Addr) (le₂ ce₂ d₂ : Nat) (k₂ : kM (rd w X) ae₂ le₂ ce₂ d₂) (s₂ : Bool) (hn₂ : n₂ < xL) (hd₂ : d₂ < xL) (hp₁ : 0 < d₁) (hp₂ : 0 < d₂),Calls Tryz.prog f #[.agg #[.slice ad₁ len₁ cap₁,.slice ae₁ le₁ ce₁,.bool s₁],.agg #[.slice ad₂ len₂ cap₂,.slice ae₂ le₂ ce₂,.bool s₂]] w (Ret E0 w fun w' v => ∃ s m d,zYl X w' v s m d ∧ m < 4294967296 ^ 512 ∧ d < 4294967296 ^ 512 ∧ 0 < d ∧ mkRat (sgn s m) d = op (mkRat (sgn s₁ n₁) d₁) (mkRat (sgn s₂ n₂) d₂))
theorem zQd {a b : Nat} (h : a < xL) (h2 : b < xL) : a * b < 4294967296 ^ 512 := qBz h h2
theorem qCk : OpC 92 (· + ·) := fun w X hX ad₁ len₁ cap₁ n₁ h₁ ae₁ le₁ ce₁ d₁ k₁ s₁ hn₁ hd₁ ad₂ len₂ cap₂ n₂ h₂ ae₂ le₂ ce₂ d₂ k₂ s₂ hn₂ hd₂ hp₁ hp₂ =>
 (zZq w X hX ad₁ len₁ cap₁ n₁ h₁ ae₁ le₁ ce₁ d₁ k₁ s₁ hn₁ hd₁ ad₂ len₂ cap₂ n₂ h₂ ae₂ le₂ ce₂ d₂ k₂ s₂ hn₂ hd₂).mono (by
  rintro e w' ⟨hu,v,rfl,s,m,hv,hm,he⟩
  refine ⟨hu,_,rfl,s,m,_,hv,hm,zQd hd₁ hd₂,Nat.mul_pos hp₁ hp₂,?_⟩
  show _ = mkRat (sgn s₁ n₁) d₁ + mkRat (sgn s₂ n₂) d₂
  rw [Rat.mkRat_add_mkRat _ _ (by omega) (by omega),he])
theorem zOm : OpC 134 (· * ·) := fun w X hX ad₁ len₁ cap₁ n₁ h₁ ae₁ le₁ ce₁ d₁ k₁ s₁ hn₁ hd₁ ad₂ len₂ cap₂ n₂ h₂ ae₂ le₂ ce₂ d₂ k₂ s₂ hn₂ hd₂ hp₁ hp₂ =>
 (zRe w X hX ad₁ len₁ cap₁ n₁ h₁ ae₁ le₁ ce₁ d₁ k₁ s₁ hn₁ hd₁ ad₂ len₂ cap₂ n₂ h₂ ae₂ le₂ ce₂ d₂ k₂ s₂ hn₂ hd₂).mono (by
  rintro e w' ⟨hu,v,rfl,s,m,hv,hm,he⟩
  refine ⟨hu,_,rfl,s,m,_,hv,hm,zQd hd₁ hd₂,Nat.mul_pos hp₁ hp₂,?_⟩
  show _ = mkRat (sgn s₁ n₁) d₁ * mkRat (sgn s₂ n₂) d₂
  rw [Rat.mkRat_mul_mkRat,he])
include hX in
theorem zNc (ad : Option Addr) (len cap x : Nat) (h : kM (rd w X) ad len cap x) (ad2 : Option Addr) (len2 cap2 y : Nat) (h2 : kM (rd w X) ad2 len2 cap2 y) (sg : Bool) (hx : x < 4294967296 ^ 512) (hy : y < 4294967296 ^ 512) (hd : 0 < y) (z : Rat) (hz : mkRat (sgn sg x) y = z) : Calls Tryz.prog 118 #[.agg #[.slice ad len cap,.slice ad2 len2 cap2,.bool sg]] w (Ret E0 w fun w' v => zCe (old w) w' v z) := by
 subst hz; exact zTe w X hX ad len cap x h ad2 len2 cap2 y h2 sg hx hy hd
theorem zJq (f : Nat) (op : Rat → Rat → Rat) (hcf : ∀ args w,(callFunc f args).run Tryz.prog w = .ok (.enter f args) w) (hop : OpC f op) (w : World) (X : Hid) (hX : ∀ k o,X k o → k < w.heap.size) (a : Raw) (ad₁ : Option Addr) (len₁ cap₁ : Nat) (h₁ : zL (rd w X) ad₁ len₁ cap₁ a.ln) (ae₁ : Option Addr) (le₁ ce₁ : Nat) (k₁ : zL (rd w X) ae₁ le₁ ce₁ a.ld) (b : Raw) (ad₂ : Option Addr) (len₂ cap₂ : Nat) (h₂ : zL (rd w X) ad₂ len₂ cap₂ b.ln) (ae₂ : Option Addr) (le₂ ce₂ : Nat) (k₂ : zL (rd w X) ae₂ le₂ ce₂ b.ld) (z : Rat) (hz : op a.rat b.rat = z) : Calls Tryz.prog 91 #[.agg #[.bool a.neg,.slice ad₁ len₁ cap₁,.slice ae₁ le₁ ce₁],.agg #[.bool b.neg,.slice ad₂ len₂ cap₂,.slice ae₂ le₂ ce₂],.func (.func f) #[] #[]] w (Ret E0 w fun w' v => ∃ u,v = .tuple #[u,.int .i64 (opE a b z)] ∧ zFb (old w) w' u (opR a b z)) := by
 refine zen Tryz.func91 ?_
 have C0 : St E0 w X w X [] := St.start hX
 refine zz 2 <| zn pn (.cells #[.bool a.neg,.slice ad₁ len₁ cap₁,.slice ae₁ le₁ ce₁] 28 (0,0)) C0 fun b3 w3 Y3 C3 B3 V3 => zn pn (.cells #[.bool b.neg,.slice ad₂ len₂ cap₂,.slice ae₂ le₂ ce₂] 28 (0,0)) C3 fun b5 w5 Y5 C5 B5 V5 => zn pn (.cells #[.bool false,.slice none 0 0,.slice none 0 0] 28 (0,0)) C5 fun b7 w7 Y7 C7 B7 V7 => zz 5 <| zdr C7 <| gw 0 2 <| gw 2 1 ?_
 have T1_ := (Le2 B3 B5).trans B7
 refine gC 1 (fun w8 Y8 _ C8 B8 => (zAl _ _ C8.lt a _ _ _ (h₁.mono (T1_.trans B8)) _ _ _ (k₁.mono (T1_.trans B8)))) ?_
 rintro v9 w8 Y9 w9 C8 B9 rfl
 have T2_ := T1_.trans B9
 refine gC 3 (fun w10 Y10 _ C10 B10 => (zAl _ _ C10.lt b _ _ _ (h₂.mono (T2_.trans B10)) _ _ _ (k₂.mono (T2_.trans B10)))) ?_
 rintro v11 w10 Y11 w11 C10 B11 rfl
 refine gp1 (al 4 14 (fun b => .slice (some ⟨b,0,none⟩) 2 2) (.cells #[.int .i64 a.chk,.int .i64 b.chk] 34 (0,0))) (fun b12 => ?_)
 refine gC 5 (vs := #[.slice (some ⟨b12,0,none⟩) 2 2]) (fun w13 Y13 _ C13 B13 => (qBx _ X0 (zM _) _ _ _ _ [a.chk,b.chk] rfl (by simp) (C13.at0 0 rfl rfl))) ?_
 rintro v14 w13 Y14 w14 C13 B14 rfl
 refine gz [6] ?_
 refine yO (fun w15 Y15 C15 B15 => ?_)
 refine zz 7 <| zb 17 (b := ((orL [a.chk,b.chk]) != 0)) (fun T16 => ?_) (fun T16 => ?_)
 have Q17 : (orL [a.chk,b.chk]) ≠ 0 := by simpa using T16
 refine zz 5 <| zx 1 #[.bool false,.slice none 0 0,.slice none 0 0] C15 fun w18 C18 B18 => zz 5 <| zrS [.cell 6 28,.tmp 7] (v := .tuple #[.agg #[.bool false,.slice none 0 0,.slice none 0 0],.int .i64 (orL [a.chk,b.chk])]) (Res.cM C18 1 (Res.tZ Res.nil)) ?_
 obtain ⟨he1,he2⟩ := qBc (z := z) Q17
 exact ⟨C18.upd,_,rfl,_,by rw [he1],by rw [he2]; exact zIa⟩
 have Q19 : (orL [a.chk,b.chk]) = 0 := by simpa using T16
 obtain ⟨hca,hcb⟩ := zHj ((zMc _ _).symm.trans (by simpa using Q19))
 obtain ⟨hla,hma,cna,cda,_,_,_⟩ := Raw.chk_ok hca
 have bna : val a.ln < xL := (kC h₁.hlt cna 128).1 hla
 have bda : a.d < xL := by unfold Raw.d; split; exact Nat.one_lt_pow (by omega) (by omega); exact (kC k₁.hlt cda 128).1 hma
 have pda := Raw.d_pos a
 have hNna := h₁.natR cna
 have hNda := k₁.natR cda
 obtain ⟨hlb,hmb,cnb,cdb,_,_,_⟩ := Raw.chk_ok hcb
 have bnb : val b.ln < xL := (kC h₂.hlt cnb 128).1 hlb
 have bdb : b.d < xL := by unfold Raw.d; split; exact Nat.one_lt_pow (by omega) (by omega); exact (kC k₂.hlt cdb 128).1 hmb
 have pdb := Raw.d_pos b
 have hNnb := h₂.natR cnb
 have hNdb := k₂.natR cdb
 refine zz 4 <| zEb [0,1,2,3] C15 <| gz [0] <| gw 1 3 <| gw 3 2 <| gp (al 7 9 pn (.cells #[.bool false,.slice none 0 0,.slice none 0 0] 28 (0,0))) ?_
 have T3_ := ((T2_.trans B11).trans B14).trans B15
 refine gC 2 (fun w20 Y20 _ C20 B20 => (zYj _ _ C20.lt a.neg _ _ _ (val a.ln) (hNna.mono (T3_.trans B20)) _ _ _ (val a.ld) (hNda.mono (T3_.trans B20)))) ?_ (hPd := rC.nil.k)
 rintro v21 w20 Y21 w21 C20 B21 ⟨ad21,len21,cap21,ae21,le21,ce21,rfl,hN21,hD21⟩
 have T4_ := T3_.trans B21
 refine gC 4 (fun w22 Y22 _ C22 B22 => (zYj _ _ C22.lt b.neg _ _ _ (val b.ln) (hNnb.mono (T4_.trans B22)) _ _ _ (val b.ld) (hNdb.mono (T4_.trans B22)))) ?_ (hPd := rC.nil.k)
 rintro v23 w22 Y23 w23 C22 B23 ⟨ad23,len23,cap23,ae23,le23,ce23,rfl,hN23,hD23⟩
 refine gC 5 (hcall := (fun w => hcf _ w)) (fun w24 Y24 _ C24 B24 => (hop _ _ C24.lt _ _ _ (val a.ln) (hN21.mono (Le2 B23 B24)) _ _ _ a.d (hD21.mono (Le2 B23 B24)) a.neg (by assumption) (by assumption) _ _ _ (val b.ln) (hN23.mono B24) _ _ _ b.d (hD23.mono B24) b.neg (by assumption) (by assumption) (by assumption) (by assumption))) ?_ (hPd := rC.nil.k)
 rintro v25 w24 Y25 w25 C24 B25 ⟨sg25,m25,d25,⟨ad25,len25,cap25,ae25,le25,ce25,rfl,hN25,hD25⟩,hm25,hd25,hp25,he25⟩
 refine gC 6 (fun w26 Y26 _ C26 B26 => (zNc _ _ C26.lt _ _ _ m25 (hN25.mono B26) _ _ _ d25 (hD25.mono B26) sg25 hm25 hd25 hp25 z (he25.trans hz))) ?_ (hPd := rC.nil.k)
 rintro v27 w26 Y27 w27 C26 B27 ⟨ad27,len27,cap27,ae27,le27,ce27,rfl,hN27,hD27⟩
 refine gs1 (fun b28 => ?_) rC.nil.k
 refine gX 8 0 #[.bool (decide (z.num < 0)),.slice ad27 len27 cap27,.slice ae27 le27 ce27] fun w29 Y29 B29 => ?_
 refine yO (fun w30 Y30 C30 B30 => ?_)
 refine zz 5 <| zo 0 C30 <| zz 3 <| zt 31 (p := (len27 : Int) > 128) (fun Q31 => ?_) (fun Q31 => ?_)
 refine zz 11 <| zx 2 #[.bool false,.slice none 0 0,.slice none 0 0] C30 fun w32 C32 B32 => zz 5 <| zrS [.cell 6 28,.tmp 7] (v := .tuple #[.agg #[.bool false,.slice none 0 0,.slice none 0 0],.int .i64 4]) (Res.cM C32 2 (Res.tZ Res.nil)) ?_
 obtain ⟨he1,he2⟩ := zQl (z := z) Q19 (fun hh => absurd ((hN27.len_le 128).2 hh.1) (by omega))
 exact ⟨C32.upd,_,rfl,_,by rw [he1],by rw [he2]; exact zIa⟩
 refine zz 1 <| zo 0 C30 <| zz 5 <| zt 36 (p := (le27 : Int) > 128) (fun Q33 => ?_) (fun Q33 => ?_)
 refine zz 4 <| zx 2 #[.bool false,.slice none 0 0,.slice none 0 0] C30 fun w34 C34 B34 => zz 5 <| zrS [.cell 6 28,.tmp 7] (v := .tuple #[.agg #[.bool false,.slice none 0 0,.slice none 0 0],.int .i64 4]) (Res.cM C34 2 (Res.tZ Res.nil)) ?_
 obtain ⟨he1,he2⟩ := zQl (z := z) Q19 (fun hh => absurd ((hD27.len_le 128).2 hh.2) (by omega))
 exact ⟨C34.upd,_,rfl,_,by rw [he1],by rw [he2]; exact zIa⟩
 refine zz 5 <| zo 0 C30 <| zx 2 #[.bool (decide (z.num < 0)),.slice ad27 len27 cap27,.slice ae27 le27 ce27] C30 fun w35 C35 B35 => zz 4 <| zrS [.cell 6 28,.tmp 7] (v := .tuple #[.agg #[.bool (decide (z.num < 0)),.slice ad27 len27 cap27,.slice ae27 le27 ce27],.int .i64 0]) (Res.cM C35 2 (Res.tZ Res.nil)) ?_
 obtain ⟨he1,he2⟩ := zXx (z := z) Q19 ⟨(hN27.len_le 128).1 (by omega),(hD27.len_le 128).1 (by omega)⟩
 exact ⟨C35.upd,_,rfl,_,by rw [he1],by rw [he2]; exact zCe.raw ⟨_,_,_,_,_,_,rfl,((hN27.mono (Le.own C26.lt C26.upd.size (Le3 B29 B30 B35))).mono Le.orr),((hD27.mono (Le.own C26.lt C26.upd.size (Le3 B29 B30 B35))).mono Le.orr)⟩⟩
end
section
variable (w : World) (X : Hid) (hX : ∀ k o,X k o → k < w.heap.size)
set_option maxHeartbeats 1000000
include hX in
theorem qAh (a : Raw) (ad₁ : Option Addr) (len₁ cap₁ : Nat) (h₁ : zL (rd w X) ad₁ len₁ cap₁ a.ln) (ae₁ : Option Addr) (le₁ ce₁ : Nat) (k₁ : zL (rd w X) ae₁ le₁ ce₁ a.ld) (b : Raw) (ad₂ : Option Addr) (len₂ cap₂ : Nat) (h₂ : zL (rd w X) ad₂ len₂ cap₂ b.ln) (ae₂ : Option Addr) (le₂ ce₂ : Nat) (k₂ : zL (rd w X) ae₂ le₂ ce₂ b.ld) : Calls Tryz.prog 57 #[.agg #[.bool a.neg,.slice ad₁ len₁ cap₁,.slice ae₁ le₁ ce₁],.agg #[.bool b.neg,.slice ad₂ len₂ cap₂,.slice ae₂ le₂ ce₂]] w (Ret E0 w fun w' v => ∃ u,v = .tuple #[u,.int .i64 (opE a b (a.rat + b.rat))] ∧ zFb (old w) w' u (opR a b (a.rat + b.rat))) := by
 refine zen Tryz.func57 ?_
 have C0 : St E0 w X w X [] := St.start hX
 refine zz 2 <| zn pn (.cells #[.bool a.neg,.slice ad₁ len₁ cap₁,.slice ae₁ le₁ ce₁] 28 (0,0)) C0 fun b3 w3 Y3 C3 B3 V3 => zn pn (.cells #[.bool b.neg,.slice ad₂ len₂ cap₂,.slice ae₂ le₂ ce₂] 28 (0,0)) C3 fun b5 w5 Y5 C5 B5 V5 => zn pn (.cells #[.bool false,.slice none 0 0,.slice none 0 0] 28 (0,0)) C5 fun b7 w7 Y7 C7 B7 V7 => zz 5 <| zo 2 C7 <| zo 1 C7 <| zc C7 (zJq 92 (· + ·) (fun args w => Tryz.call92 args w) qCk _ _ C7.lt a _ _ _ (h₁.mono (Le3 B3 B5 B7)) _ _ _ (k₁.mono (Le3 B3 B5 B7)) b _ _ _ (h₂.mono (Le3 B3 B5 B7)) _ _ _ (k₂.mono (Le3 B3 B5 B7)) (a.rat + b.rat) rfl) ?_
 rintro v9 w9 C9 B9 V9 ⟨u9,rfl,⟨ad9,len9,cap9,ae9,le9,ce9,rfl,hN9,hD9⟩⟩
 refine zz 2 <| zx 0 #[.bool ((opR a b (a.rat + b.rat)).neg),.slice ad9 len9 cap9,.slice ae9 le9 ce9] C9 fun w10 C10 B10 => zz 4 <| zrS [.cell 4 28,.tmp 5] (v := .tuple #[.agg #[.bool ((opR a b (a.rat + b.rat)).neg),.slice ad9 len9 cap9,.slice ae9 le9 ce9],.int .i64 (opE a b (a.rat + b.rat))]) (Res.cM C10 0 (Res.tZ Res.nil)) ?_
 exact ⟨C10.upd,_,rfl,_,rfl,⟨_,_,_,_,_,_,rfl,((hN9.mono (Le.own C7.lt C7.upd.size B10)).mono Le.orr),((hD9.mono (Le.own C7.lt C7.upd.size B10)).mono Le.orr)⟩⟩
include hX in
theorem qBh (a : Raw) (ad₁ : Option Addr) (len₁ cap₁ : Nat) (h₁ : zL (rd w X) ad₁ len₁ cap₁ a.ln) (ae₁ : Option Addr) (le₁ ce₁ : Nat) (k₁ : zL (rd w X) ae₁ le₁ ce₁ a.ld) (b : Raw) (ad₂ : Option Addr) (len₂ cap₂ : Nat) (h₂ : zL (rd w X) ad₂ len₂ cap₂ b.ln) (ae₂ : Option Addr) (le₂ ce₂ : Nat) (k₂ : zL (rd w X) ae₂ le₂ ce₂ b.ld) : Calls Tryz.prog 95 #[.agg #[.bool a.neg,.slice ad₁ len₁ cap₁,.slice ae₁ le₁ ce₁],.agg #[.bool b.neg,.slice ad₂ len₂ cap₂,.slice ae₂ le₂ ce₂]] w (Ret E0 w fun w' v => ∃ u,v = .tuple #[u,.int .i64 (opE a b (a.rat * b.rat))] ∧ zFb (old w) w' u (opR a b (a.rat * b.rat))) := by
 refine zen Tryz.func95 ?_
 have C0 : St E0 w X w X [] := St.start hX
 refine zz 2 <| zn pn (.cells #[.bool a.neg,.slice ad₁ len₁ cap₁,.slice ae₁ le₁ ce₁] 28 (0,0)) C0 fun b3 w3 Y3 C3 B3 V3 => zn pn (.cells #[.bool b.neg,.slice ad₂ len₂ cap₂,.slice ae₂ le₂ ce₂] 28 (0,0)) C3 fun b5 w5 Y5 C5 B5 V5 => zn pn (.cells #[.bool false,.slice none 0 0,.slice none 0 0] 28 (0,0)) C5 fun b7 w7 Y7 C7 B7 V7 => zz 5 <| zo 2 C7 <| zo 1 C7 <| zc C7 (zJq 134 (· * ·) (fun args w => Tryz.call134 args w) zOm _ _ C7.lt a _ _ _ (h₁.mono (Le3 B3 B5 B7)) _ _ _ (k₁.mono (Le3 B3 B5 B7)) b _ _ _ (h₂.mono (Le3 B3 B5 B7)) _ _ _ (k₂.mono (Le3 B3 B5 B7)) (a.rat * b.rat) rfl) ?_
 rintro v9 w9 C9 B9 V9 ⟨u9,rfl,⟨ad9,len9,cap9,ae9,le9,ce9,rfl,hN9,hD9⟩⟩
 refine zz 2 <| zx 0 #[.bool ((opR a b (a.rat * b.rat)).neg),.slice ad9 len9 cap9,.slice ae9 le9 ce9] C9 fun w10 C10 B10 => zz 4 <| zrS [.cell 4 28,.tmp 5] (v := .tuple #[.agg #[.bool ((opR a b (a.rat * b.rat)).neg),.slice ad9 len9 cap9,.slice ae9 le9 ce9],.int .i64 (opE a b (a.rat * b.rat))]) (Res.cM C10 0 (Res.tZ Res.nil)) ?_
 exact ⟨C10.upd,_,rfl,_,rfl,⟨_,_,_,_,_,_,rfl,((hN9.mono (Le.own C7.lt C7.upd.size B10)).mono Le.orr),((hD9.mono (Le.own C7.lt C7.upd.size B10)).mono Le.orr)⟩⟩
include hX in
theorem zXb (n : Int) (h1 : -9223372036854775808 ≤ n) (h2 : n ≤ 9223372036854775807) : Calls Tryz.prog 38 #[.int .i64 n] w (Ret E0 w fun w' v => zFb X w' v (.of (n : Rat))) := by
 refine zen Tryz.func38 ?_
 have C0 : St E0 w X w X [] := St.start hX
 refine zz 2 <| zn pn (.cells #[.bool false,.slice none 0 0,.slice none 0 0] 28 (0,0)) C0 fun b3 w3 Y3 C3 B3 V3 => zz 7 <| zc C3 (zEf _ _ C3.lt n (by omega) (by omega)) ?_
 rintro v5 w5 C5 B5 V5 ⟨ad5,len5,cap5,rfl,hN5⟩
 refine zz 1 <| zx 0 #[.bool (decide ((n) < 0)),.slice ad5 len5 cap5,.slice none 0 0] C5 fun w6 C6 B6 => zz 3 <| zrS [.cell 2 28] (v := .agg #[.bool (decide ((n) < 0)),.slice ad5 len5 cap5,.slice none 0 0]) (Res.cM C6 0 Res.nil) ?_
 exact ⟨C6.upd,_,rfl,(zZd ((hN5.mono B6).mono C6.le)).raw⟩
include hX in
theorem qAu (a : Raw) (ad₁ : Option Addr) (len₁ cap₁ : Nat) (h₁ : zL (rd w X) ad₁ len₁ cap₁ a.ln) (ae₁ : Option Addr) (le₁ ce₁ : Nat) (k₁ : zL (rd w X) ae₁ le₁ ce₁ a.ld) (b : Raw) (ad₂ : Option Addr) (len₂ cap₂ : Nat) (h₂ : zL (rd w X) ad₂ len₂ cap₂ b.ln) (ae₂ : Option Addr) (le₂ ce₂ : Nat) (k₂ : zL (rd w X) ae₂ le₂ ce₂ b.ld) : Calls Tryz.prog 80 #[.agg #[.bool a.neg,.slice ad₁ len₁ cap₁,.slice ae₁ le₁ ce₁],.agg #[.bool b.neg,.slice ad₂ len₂ cap₂,.slice ae₂ le₂ ce₂]] w (Ret E0 w fun w' v => v = .tuple #[.int .i64 (zFw a b),.int .i64 (zIz a b)]) := by
 refine zen Tryz.func80 ?_
 have C0 : St E0 w X w X [] := St.start hX
 refine zz 2 <| zn pn (.cells #[.bool a.neg,.slice ad₁ len₁ cap₁,.slice ae₁ le₁ ce₁] 28 (0,0)) C0 fun b3 w3 Y3 C3 B3 V3 => zn pn (.cells #[.bool b.neg,.slice ad₂ len₂ cap₂,.slice ae₂ le₂ ce₂] 28 (0,0)) C3 fun b5 w5 Y5 C5 B5 V5 => zz 6 <| zdr C5 <| gw 0 1 <| gw 2 0 <| gC 1 (fun w6 Y6 _ C6 B6 => (zAl _ _ C6.lt a _ _ _ (h₁.mono (Le3 B3 B5 B6)) _ _ _ (k₁.mono (Le3 B3 B5 B6)))) ?_
 rintro v7 w6 Y7 w7 C6 B7 rfl
 have T1_ := (Le2 B3 B5).trans B7
 refine gC 3 (fun w8 Y8 _ C8 B8 => (zAl _ _ C8.lt b _ _ _ (h₂.mono (T1_.trans B8)) _ _ _ (k₂.mono (T1_.trans B8)))) ?_
 rintro v9 w8 Y9 w9 C8 B9 rfl
 refine gp1 (al 4 14 (fun b => .slice (some ⟨b,0,none⟩) 2 2) (.cells #[.int .i64 a.chk,.int .i64 b.chk] 34 (0,0))) (fun b10 => ?_)
 refine gC 5 (vs := #[.slice (some ⟨b10,0,none⟩) 2 2]) (fun w11 Y11 _ C11 B11 => (qBx _ X0 (zM _) _ _ _ _ [a.chk,b.chk] rfl (by simp) (C11.at0 0 rfl rfl))) ?_
 rintro v12 w11 Y12 w12 C11 B12 rfl
 refine gz [6] ?_
 refine yO (fun w13 Y13 C13 B13 => ?_)
 refine zz 7 <| zb 17 (b := ((orL [a.chk,b.chk]) != 0)) (fun T14 => ?_) (fun T14 => ?_)
 have Q15 : (orL [a.chk,b.chk]) ≠ 0 := by simpa using T14
 refine zz 10 <| zr' (v := .tuple #[.int .i64 0,.int .i64 (orL [a.chk,b.chk])]) ?_
 exact ⟨C13.upd,_,rfl,by rw [zFw,zIz,← zMc,if_neg Q15]⟩
 have Q16 : (orL [a.chk,b.chk]) = 0 := by simpa using T14
 obtain ⟨hca,hcb⟩ := zHj ((zMc _ _).symm.trans (by simpa using Q16))
 obtain ⟨hla,hma,cna,cda,_,_,_⟩ := Raw.chk_ok hca
 have bna : val a.ln < xL := (kC h₁.hlt cna 128).1 hla
 have bda : a.d < xL := by unfold Raw.d; split; exact Nat.one_lt_pow (by omega) (by omega); exact (kC k₁.hlt cda 128).1 hma
 have pda := Raw.d_pos a
 have hNna := h₁.natR cna
 have hNda := k₁.natR cda
 obtain ⟨hlb,hmb,cnb,cdb,_,_,_⟩ := Raw.chk_ok hcb
 have bnb : val b.ln < xL := (kC h₂.hlt cnb 128).1 hlb
 have bdb : b.d < xL := by unfold Raw.d; split; exact Nat.one_lt_pow (by omega) (by omega); exact (kC k₂.hlt cdb 128).1 hmb
 have pdb := Raw.d_pos b
 have hNnb := h₂.natR cnb
 have hNdb := k₂.natR cdb
 refine zz 4 ?_
 refine qBk [0,1,2] C13 <| gw 0 2 <| gw 2 1 <| gp (al 5 8 pn (.cells #[.slice none 0 0,.slice none 0 0,.bool false] 155 (0,0))) <| gp (al 4 7 pn (.cells #[.slice none 0 0,.slice none 0 0,.bool false] 155 (0,0))) ?_
 have T2_ := ((T1_.trans B9).trans B12).trans B13
 refine gC 1 (fun w17 Y17 _ C17 B17 => (zYj _ _ C17.lt a.neg _ _ _ (val a.ln) (hNna.mono (T2_.trans B17)) _ _ _ (val a.ld) (hNda.mono (T2_.trans B17)))) ?_ (hPd := rC.nil.k.k)
 rintro v18 w17 Y18 w18 C17 B18 ⟨ad18,len18,cap18,ae18,le18,ce18,rfl,hN18,hD18⟩
 have T3_ := T2_.trans B18
 refine gC 3 (fun w19 Y19 _ C19 B19 => (zYj _ _ C19.lt b.neg _ _ _ (val b.ln) (hNnb.mono (T3_.trans B19)) _ _ _ (val b.ld) (hNdb.mono (T3_.trans B19)))) ?_ (hPd := rC.nil.k.k)
 rintro v20 w19 Y20 w20 C19 B20 ⟨ad20,len20,cap20,ae20,le20,ce20,rfl,hN20,hD20⟩
 refine ge (fun e21 => ?_) rC.nil.k.k
 refine gXs 6 0 [2,3,4] #[.slice ad18 len18 cap18,.slice ae18 le18 ce18,.bool a.neg] fun w22 Y22 B22 => gXs 7 1 [2,3,4] #[.slice ad20 len20 cap20,.slice ae20 le20 ce20,.bool b.neg] fun w23 Y23 B23 => ?_
 refine yO (fun w24 Y24 C24 B24 => ?_)
 refine zz 4 <| zo 1 C24 <| zz 2 <| zx 1 #[.slice ad20 len20 cap20,.slice ae20 le20 ce20,.bool (!b.neg)] C24 fun w25 C25 B25 => zz 5 <| zo 0 C25 <| zo 1 C25 ?_
 have T4_ := (Le4 B20 B22 B23 B24).trans B25
 have T5_ := (Le3 B22 B23 B24).trans B25
 refine zc C25 (zZq _ _ C25.lt _ _ _ (val a.ln) (hN18.mono T4_) _ _ _ a.d (hD18.mono T4_) a.neg (by assumption) (by assumption) _ _ _ (val b.ln) (hN20.mono T5_) _ _ _ b.d (hD20.mono T5_) (!b.neg) (by assumption) (by assumption)) ?_
 rintro v27 w27 C27 B27 V27 ⟨sg27,m27,⟨ad27,len27,cap27,ae27,le27,ce27,rfl,hN27,hD27⟩,hm27,he27⟩
 have T6_ := T4_.trans B27
 have T7_ := T5_.trans B27
 refine zn pn (.cells #[.slice none 0 0,.slice none 0 0,.bool false] 155 (0,0)) C27 fun b29 w29 Y29 C29 B29 V29 => zx 0 #[.slice ad27 len27 cap27,.slice ae27 le27 ce27,.bool sg27] C29 fun w30 C30 B30 => zz 7 <| zo 0 C30 <| zz 5 <| zb 30 (b := ((len27 : Int) == 0)) (fun T31 => ?_) (fun T31 => ?_)
 have Q32 : (len27 : Int) = 0 := by simpa using T31
 have hdf : _ = a.rat - b.rat := zQu (he27.trans (by rw [zPp])) pda pdb
 have hm0 := hN27.len0.1 (by omega)
 refine zz 10 <| zr' (v := .tuple #[.int .i64 0,.int .i64 0]) ?_
 exact ⟨C30.upd,_,rfl,by have h0 := Q16; rw [zFw,zIz,← zMc,if_pos (by simpa using h0),show orL [a.chk,b.chk] = 0 by simpa using h0,zUl hdf hm0]⟩
 have Q33 : (len27 : Int) ≠ 0 := by simpa using T31
 have hdf : _ = a.rat - b.rat := zQu (he27.trans (by rw [zPp])) pda pdb
 have hm0 : m27 ≠ 0 := fun e => absurd (hN27.len0.2 e) (by omega)
 refine zz 4 <| zo 0 C30 <| zz 3 <| zb 36 (b := sg27) (fun T34 => ?_) (fun T34 => ?_)
 have Q35 : sg27 = true := by simpa using T34
 rw [Q35] at hdf
 refine zz 10 <| zr' (v := .tuple #[.int .i64 (-1),.int .i64 0]) ?_
 exact ⟨C30.upd,_,rfl,by have h0 := Q16; rw [zFw,zIz,← zMc,if_pos (by simpa using h0),show orL [a.chk,b.chk] = 0 by simpa using h0,zYe hdf hm0 (zTx pda pdb)]⟩
 have Q36 : sg27 = false := by simpa using T34
 rw [Q36] at hdf
 refine zz 11 <| zr' (v := .tuple #[.int .i64 1,.int .i64 0]) ?_
 exact ⟨C30.upd,_,rfl,by have h0 := Q16; rw [zFw,zIz,← zMc,if_pos (by simpa using h0),show orL [a.chk,b.chk] = 0 by simpa using h0,zXo hdf hm0 (zTx pda pdb)]⟩
end
set_option maxHeartbeats 1000000
theorem qDl (w : World) (X : Hid) (hX : ∀ k o,X k o → k < w.heap.size) (p q : Int) (hp : -9223372036854775808 ≤ p) (hp2 : p ≤ 9223372036854775807) (hq : -9223372036854775808 ≤ q) (hq2 : q ≤ 9223372036854775807) (h0 : q ≠ 0) : Calls Tryz.prog 84 #[.int .i64 p,.int .i64 q] w (Ret E0 w fun w' v => ∃ u,v = .tuple #[u,.int .i64 0] ∧ zFb X w' u (.of (mkRat (sgn (!(decide (p < 0) == decide (q < 0))) p.natAbs) q.natAbs))) := by
 have hB : (18446744073709551616 : Nat) ≤ 4294967296 ^ 512 := Nat.le_trans (by decide : 18446744073709551616 ≤ 4294967296 ^ 2) (zLg 4294967296 2 512 (by decide) (by decide))
 refine zen Tryz.func84 ?_
 have C0 : St E0 w X w X [] := St.start hX
 refine zz 2 <| zn pn (.cells #[.bool false,.slice none 0 0,.slice none 0 0] 28 (0,0)) C0 fun b3 w3 Y3 C3 B3 V3 => zz 10 <| zb 7 (b := ((q) == 0)) (fun T4 => ?_) (fun T4 => ?_)
 have Q5 : (q) = 0 := by simpa using T4
 exfalso; omega
 have Q6 : (q) ≠ 0 := by simpa using T4
 refine zz 6 <| zc C3 (zEf _ _ C3.lt p (by omega) (by omega)) ?_
 rintro v8 w8 C8 B8 V8 ⟨ad8,zEi,cap8,rfl,hN8⟩
 refine zz 1 <| zc C8 (zEf _ _ C8.lt q (by omega) (by omega)) ?_
 rintro v10 w10 C10 B10 V10 ⟨ad10,len10,cap10,rfl,hN10⟩
 refine zz 7 <| zc C10 (zNc _ _ C10.lt _ _ _ p.natAbs (hN8.mono B10) _ _ _ q.natAbs hN10 (!((decide ((p) < 0)) == (decide ((q) < 0)))) (by omega) (by omega) (by omega) (mkRat (sgn (!(decide (p < 0) == decide (q < 0))) p.natAbs) q.natAbs) rfl) ?_
 rintro v12 w12 C12 B12 V12 ⟨ad12,len12,cap12,ae12,le12,ce12,rfl,hN12,hD12⟩
 refine zx 0 #[.bool (decide ((mkRat (sgn (!(decide (p < 0) == decide (q < 0))) p.natAbs) q.natAbs).num < 0)),.slice ad12 len12 cap12,.slice ae12 le12 ce12] C12 fun w13 C13 B13 => zz 4 <| zrS [.cell 4 28,.tmp 5] (v := .tuple #[.agg #[.bool (decide ((mkRat (sgn (!(decide (p < 0) == decide (q < 0))) p.natAbs) q.natAbs).num < 0)),.slice ad12 len12 cap12,.slice ae12 le12 ce12],.int .i64 0]) (Res.cM C13 0 (Res.tZ Res.nil)) ?_
 exact ⟨C13.upd,_,rfl,_,rfl,zCe.raw ⟨_,_,_,_,_,_,rfl,((hN12.mono (Le.new C10.lt)).mono B13).mono C13.le,((hD12.mono (Le.new C10.lt)).mono B13).mono C13.le⟩⟩
section
variable (w : World) (X : Hid) (hX : ∀ k o,X k o → k < w.heap.size)
set_option maxHeartbeats 1000000
theorem zEp {α : Type} {l : List α} {k : Nat} {x : α} (h : l[k]? = some x) : l.take (k + 1) = l.take k ++ [x] := by rw [List.take_add_one,h]; rfl
theorem zYs {α : Type} {l l2 : List α} {k : Nat} {x : α} (h : l.take k = l2.take k) (hx : l[k]? = some x) (hy : l2[k]? = some x) : l.take (k + 1) = l2.take (k + 1) := by rw [zEp hx,zEp hy,h]
theorem zTh {α : Type} {l l2 : List α} {k : Nat} (h : l.take k = l2.take k) (hl : l.length = l2.length) (hk : l.length ≤ k) : l = l2 := by
 rwa [List.take_of_length_le hk,List.take_of_length_le (by omega)] at h
theorem qCw {α : Type} {l l2 : List α} {k : Nat} {x y : α} (hx : l[k]? = some x) (hy : l2[k]? = some y) (h : x ≠ y) : l ≠ l2 := by
 rintro rfl; exact h (Option.some.inj (hx.symm.trans hy))
theorem getD_some {l : List Nat} {k : Nat} (h : k < l.length) : l[k]? = some (l.getD k 0) := by
 rw [List.getD_eq_getElem?_getD,List.getElem?_eq_getElem h]; rfl
theorem zEz {x y : Bool} (h : x = y) : Value.bool x = .bool y := h ▸ rfl
include hX in
theorem zLv (ad : Option Addr) (len cap : Nat) (l : List Nat) (h : zL (rd w X) ad len cap l) (ad2 : Option Addr) (len2 cap2 : Nat) (l2 : List Nat) (h2 : zL (rd w X) ad2 len2 cap2 l2) : Calls Tryz.prog 102 #[.slice ad len cap,.slice ad2 len2 cap2] w (Ret E0 w fun _ v => v = .bool (decide (l = l2))) := by
 obtain rfl := h.hlen
 obtain rfl := h2.hlen
 have hcap := h.hcap
 have hbig := h.hbig
 have hcap2 := h2.hcap
 have hbig2 := h2.hbig
 refine zen Tryz.func102 ?_
 have C0 : St E0 w X w X [] := St.start hX
 refine zz 15 <| zb 10 (b := ((l.length : Int) != (l2.length : Int))) (fun T2 => ?_) (fun T2 => ?_)
 have Q3 : (l.length : Int) ≠ (l2.length : Int) := by simpa using T2
 refine zz 8 <| zr' (v := .bool false) ?_
 exact ⟨C0.upd,_,rfl,zEz ((decide_eq_false (fun e => by rw [e] at Q3; exact Q3 rfl)).symm)⟩
 have Q4 : (l.length : Int) = (l2.length : Int) := by simpa using T2
 have hlen : l.length = l2.length := by omega
 refine zz 10 <| zlp Tryz.f102 [] [1,1,0,1,0] (fun (k : Nat) => [(0,.slice ad l.length cap),(1,.slice ad2 l2.length cap2),(5,.int .i64 (k : Int))]) (fun (k : Nat) w1 => ∃ (Y1 : Hid),St E0 w X w1 Y1 [] ∧ Le (rd w X) (rd w1 Y1) ∧ (l.take k = l2.take k) ∧ (k ≤ l.length)) (fun (k : Nat) => l.length - k) 0 ?_ ?_
 refine ⟨_,C0,Le.refl _,rfl,Nat.zero_le _⟩
 rintro k w5 K5 H5 ⟨Y5,C5,B5,hp5_0,hp5_1⟩
 refine zz 9 <| zt 14 (p := (k : Int) < (l.length : Int)) (fun Q6 => ?_) (fun Q6 => ?_)
 obtain ⟨b1,off1,rfl,_⟩ := h.addr (by omega)
 have hx1 := getD_some (l := l) (k := k) (by omega)
 obtain ⟨b2,off2,rfl,_⟩ := h2.addr (by omega)
 have hx2 := getD_some (l := l2) (k := k) (by omega)
 refine zz 6 <| zdr C5 <| gz [0,1] <| gi 2 (b := b1) (off := off1) (len := l.length) (cap := cap) (kd := .i64) (i := (k : Int)) 1 (off1 + k) <| gl 3 ((h.cell (i := k) (by omega)).mono B5) <| gz [4,5] <| gi 6 (b := b2) (off := off2) (len := l2.length) (cap := cap2) (kd := .i64) (i := (k : Int)) 1 (off2 + k) <| gl 7 ((h2.cell (i := k) (by omega)).mono B5) <| gz [8] ?_
 refine yO (fun w7 Y7 C7 B7 => ?_)
 refine zz 1 <| zb 25 (b := (((l.getD k 0 : Nat) : Int) != ((l2.getD k 0 : Nat) : Int))) (fun T8 => ?_) (fun T8 => ?_)
 have Q9 : ((l.getD k 0 : Nat) : Int) ≠ ((l2.getD k 0 : Nat) : Int) := by simpa using T8
 refine zz 12 <| zr' (v := .bool false) ?_
 exact ⟨C7.upd,_,rfl,zEz ((decide_eq_false (qCw hx1 hx2 (fun e => Q9 (by rw [e])))).symm)⟩
 have Q10 : ((l.getD k 0 : Nat) : Int) = ((l2.getD k 0 : Nat) : Int) := by simpa using T8
 refine zz 7 <| zw 16 (x := (k : Int) + 1) <| zz 2 <| zP (fun a h => H5 (k + 1) _ a h ⟨_,C7,(Le2 B5 B7),zYs hp5_0 hx1 (by rw [show l.getD k 0 = l2.getD k 0 by omega]; exact hx2),by omega⟩ ?_)
 first | omega | (simp <;> omega)
 refine zz 12 <| zr' (v := .bool true) ?_
 exact ⟨C5.upd,_,rfl,zEz ((decide_eq_true (zTh hp5_0 hlen (by omega))).symm)⟩
include hX in
theorem nP (ad : Option Addr) (len cap : Nat) (l : List Nat) (h : zL (rd w X) ad len cap l) (ad2 : Option Addr) (len2 cap2 : Nat) (l2 : List Nat) (h2 : zL (rd w X) ad2 len2 cap2 l2) : Calls Tryz.prog 68 #[.slice ad len cap,.slice ad2 len2 cap2] w (Ret E0 w fun _ v => v = .bool (decide (l = l2))) := by
 obtain rfl := h.hlen
 obtain rfl := h2.hlen
 have hcap := h.hcap
 have hbig := h.hbig
 have hcap2 := h2.hcap
 have hbig2 := h2.hbig
 refine zen Tryz.func68 ?_
 have C0 : St E0 w X w X [] := St.start hX
 refine zz 9 <| zc C0 (zLv _ _ C0.lt _ _ _ _ h _ _ _ _ h2) ?_
 rintro v3 w3 C3 B3 V3 rfl
 refine zz 4 <| zr' (v := .bool (decide (l = l2))) ?_
 exact ⟨C3.upd,_,rfl,rfl⟩
theorem zLh {a b : Raw} : a = b ↔ a.neg = b.neg ∧ a.ln = b.ln ∧ a.ld = b.ld := by cases a; cases b; simp
include hX in
theorem zOo (a : Raw) (ad₁ : Option Addr) (len₁ cap₁ : Nat) (h₁ : zL (rd w X) ad₁ len₁ cap₁ a.ln) (ae₁ : Option Addr) (le₁ ce₁ : Nat) (k₁ : zL (rd w X) ae₁ le₁ ce₁ a.ld) (b : Raw) (ad₂ : Option Addr) (len₂ cap₂ : Nat) (h₂ : zL (rd w X) ad₂ len₂ cap₂ b.ln) (ae₂ : Option Addr) (le₂ ce₂ : Nat) (k₂ : zL (rd w X) ae₂ le₂ ce₂ b.ld) : Calls Tryz.prog 23 #[.agg #[.bool a.neg,.slice ad₁ len₁ cap₁,.slice ae₁ le₁ ce₁],.agg #[.bool b.neg,.slice ad₂ len₂ cap₂,.slice ae₂ le₂ ce₂]] w (Ret E0 w fun _ v => v = .bool (decide (a = b))) := by
 refine zen Tryz.func23 ?_
 have C0 : St E0 w X w X [] := St.start hX
 refine zz 2 <| zn pn (.cells #[.bool a.neg,.slice ad₁ len₁ cap₁,.slice ae₁ le₁ ce₁] 28 (0,0)) C0 fun b3 w3 Y3 C3 B3 V3 => zn pn (.cells #[.bool b.neg,.slice ad₂ len₂ cap₂,.slice ae₂ le₂ ce₂] 28 (0,0)) C3 fun b5 w5 Y5 C5 B5 V5 => zz 6 <| zo 1 C5 <| zz 1 <| zo 0 C5 <| zz 2 <| zb 10 (b := (a.neg == b.neg)) (fun T6 => ?_) (fun T6 => ?_)
 have Q7 : a.neg = b.neg := by simpa using T6
 refine zz 1 <| zo 1 C5 <| zz 1 <| zo 0 C5 <| zc C5 (nP _ _ C5.lt _ _ _ _ (h₁.mono (Le2 B3 B5)) _ _ _ _ (h₂.mono (Le2 B3 B5))) ?_
 rintro v9 w9 C9 B9 V9 rfl
 refine zz 2 <| zb 17 (b := (decide (a.ln = b.ln))) (fun T10 => ?_) (fun T10 => ?_)
 have Q11 : a.ln = b.ln := of_decide_eq_true T10
 refine zz 1 <| zo 1 C9 <| zz 1 <| zo 0 C9 <| zc C9 (nP _ _ C9.lt _ _ _ _ (k₁.mono (Le3 B3 B5 B9)) _ _ _ _ (k₂.mono (Le3 B3 B5 B9))) ?_
 rintro v13 w13 C13 B13 V13 rfl
 refine zz 5 <| zr' (v := .bool (decide (a.ld = b.ld))) ?_
 refine ⟨C13.upd,_,rfl,zEz ?_⟩
 refine Bool.eq_iff_iff.2 ?_; rw [show (decide (a = b) = true) ↔ _ from decide_eq_true_iff.trans zLh]; simp_all
 have Q14 : ¬ (a.ln = b.ln) := of_decide_eq_false T10
 refine zz 10 <| zr' (v := .bool false) ?_
 refine ⟨C9.upd,_,rfl,zEz ?_⟩
 refine Bool.eq_iff_iff.2 ?_; rw [show (decide (a = b) = true) ↔ _ from decide_eq_true_iff.trans zLh]; simp_all
 have Q15 : a.neg ≠ b.neg := by simpa using T6
 refine zz 17 <| zr' (v := .bool false) ?_
 refine ⟨C5.upd,_,rfl,zEz ?_⟩
 refine Bool.eq_iff_iff.2 ?_; rw [show (decide (a = b) = true) ↔ _ from decide_eq_true_iff.trans zLh]; simp_all
end
section
variable (w : World) (X : Hid) (hX : ∀ k o,X k o → k < w.heap.size)
set_option maxHeartbeats 1000000
include hX in
theorem zEn (ad : Option Addr) (len cap : Nat) (l : List Nat) (h : zL (rd w X) ad len cap l) :
    Calls Tryz.prog 155 #[.slice ad len cap] w (Ret E0 w fun _ v => v = .slice ad (kN l) cap) := by
 obtain rfl := h.hlen
 have hl := h.hlen
 have hcap := h.hcap
 have hbig := h.hbig
 refine zen Tryz.func155 ?_
 have C0 : St E0 w X w X [] := St.start hX
 refine zz 7 <| zlp Tryz.f155 [] [1,0,0] (fun (k : Nat) => [(0,.slice ad k cap)]) (fun (k : Nat) w1 => ∃ (Y1 : Hid),St E0 w X w1 Y1 [] ∧ Le (rd w X) (rd w1 Y1) ∧ (k ≤ l.length) ∧ (sF l k = sF l l.length)) (fun (k : Nat) => k) l.length ?_ ?_
 ·
  refine ⟨_,C0,Le.refl _,Nat.le_refl _,rfl⟩
 rintro k w2 K2 H2 ⟨Y2,C2,B2,hp2_0,hp2_1⟩
 have hk := hp2_0
 have ht := hp2_1
 refine zz 7 <| zt 6 (p := (k : Int) > 0) (fun Q3 => ?_) (fun Q3 => ?_)
 ·
  obtain ⟨bk4,of5,rfl,_⟩ := h.addr (by omega)
  have hcell := (h.cell (i := k - 1) (by omega))
  refine zz 4 <| zw 10 (x := (k : Int) - 1) <| zi (b := bk4) (off := of5) (len := k) (cap := cap) (kd := .i64) (i := (k : Int) - 1) 1 (of5 + (k - 1)) ?_ (hoff := (by first | omega | (simp; done) | (simp; omega)))
  refine zl ((hcell.mono B2)).cells <| zz 4 <| zb 14 (b := (((l.getD (k - 1) 0 : Nat) : Int) == 0)) (fun T6 => ?_) (fun T6 => ?_)
  ·
   have Q7 : ((l.getD (k - 1) 0 : Nat) : Int) = 0 := by simpa using T6
   have hk2 := zFk (l := l) (k := k) (by omega) (by omega)
   refine zz 9 <| zw 18 (x := (k : Int) - 1) <| zop (at1 [K2] Tryz.f155 [1,0,0,0,1,0]) 4 (fun a8 _ G8 hz8 => zF (d := 19) (v := .slice (some ⟨bk4,of5,none⟩) (k - 1) cap) G8 kr (zDw (t := 26) (e := 179) (ad := (some ⟨bk4,of5,none⟩)) (len := k) (cap := cap) (kd := .i64) (i := (k : Int) - 1) (h' := (k - 1)) (g := false) (m := 1) rfl kr kr kr kr (by omega) (by omega) (by first | omega | (simp; done) | (simp; omega)) _) ?_)
   intro a9 G9
   refine hz8 G9 <| zz 3 <| zP (fun a h => H2 (k - 1) _ a h ⟨_,C2,B2,by omega,by omega⟩ ?_)
   first | omega | (simp <;> omega)
  have Q10 : ((l.getD (k - 1) 0 : Nat) : Int) ≠ 0 := by simpa using T6
  have hk2 := zFj (l := l) (k := k) (by omega) (by omega)
  refine zz 13 <| zr' (v := .slice (some ⟨bk4,of5,none⟩) k cap) ?_
  exact ⟨C2.upd,_,rfl,by unfold kN; first | rw [← ht,hk2] | rw [← ht]; rfl⟩
 obtain rfl : k = 0 := by omega
 refine zz 23 <| zr' (v := .slice ad 0 cap) ?_
 exact ⟨C2.upd,_,rfl,by unfold kN; first | rw [← ht,hk2] | rw [← ht]; rfl⟩
include hX in
theorem zNf (ad : Option Addr) (len cap : Nat) (l : List Nat) (h : zL (rd w X) ad len cap l) : Calls Tryz.prog 139 #[.slice ad len cap] w (Ret E0 w fun _ v => v = .int .i64 (xX l)) := by
 obtain rfl := h.hlen
 have hcap := h.hcap
 have hbig := h.hbig
 refine zen Tryz.func139 ?_
 have C0 : St E0 w X w X [] := St.start hX
 refine zz 13 <| zt 5 (p := (l.length : Int) > 512) (fun Q2 => ?_) (fun Q2 => ?_)
 refine zz 8 <| zr' (v := .int .i64 4) ?_
 exact ⟨C0.upd,_,rfl,zR (by unfold xX; (repeat' split) <;> first | rfl | omega)⟩
 refine zz 10 <| zt 9 (p := (l.length : Int) > 0) (fun Q3 => ?_) (fun Q3 => ?_)
 obtain ⟨bk4,of5,rfl,_⟩ := h.addr (by omega)
 refine zz 4 <| zw 13 (x := (l.length : Int) - 1) <| zi (b := bk4) (off := of5) (len := l.length) (cap := cap) (kd := .i64) (i := (l.length : Int) - 1) 1 (of5 + (l.length - 1)) ?_ (hoff := (by first | omega | (simp; done) | (simp; omega)))
 refine zl ((h.cell (i := (l.length - 1)) (by omega)).mono (Le.refl _)).cells <| zz 4 <| zb 17 (b := (((l.getD (l.length - 1) 0 : Nat) : Int) == 0)) (fun T6 => ?_) (fun T6 => ?_)
 have Q7 : ((l.getD (l.length - 1) 0 : Nat) : Int) = 0 := by simpa using T6
 refine zz 8 <| zr' (v := .int .i64 2) ?_
 exact ⟨C0.upd,_,rfl,zR (by unfold xX; (repeat' split) <;> first | rfl | omega)⟩
 have Q8 : ((l.getD (l.length - 1) 0 : Nat) : Int) ≠ 0 := by simpa using T6
 refine zz 9 <| zr' (v := .int .i64 0) ?_
 exact ⟨C0.upd,_,rfl,zR (by unfold xX; (repeat' split) <;> first | rfl | omega)⟩
 refine zz 19 <| zr' (v := .int .i64 0) ?_
 exact ⟨C0.upd,_,rfl,zR (by unfold xX; (repeat' split) <;> first | rfl | omega)⟩
include hX in
theorem dA (ad : Option Addr) (len cap : Nat) (l : List Nat) (h : zL (rd w X) ad len cap l) (i : Nat) : Calls Tryz.prog 156 #[.slice ad len cap,.int .i64 (i : Int)] w (Ret E0 w fun _ v => v = .int .u64 ((l.getD i 0 : Nat) : Int)) := by
 obtain rfl := h.hlen
 have hcap := h.hcap
 have hbig := h.hbig
 have hlt := h.getD_lt i
 refine zen Tryz.func156 ?_
 have C0 : St E0 w X w X [] := St.start hX
 refine zz 14 <| zt 8 (p := (i : Int) < (l.length : Int)) (fun Q2 => ?_) (fun Q2 => ?_)
 obtain ⟨bk3,of4,rfl,_⟩ := h.addr (by omega)
 refine zz 5 <| zi (b := bk3) (off := of4) (len := l.length) (cap := cap) (kd := .i64) (i := (i : Int)) 1 (of4 + i) <| zl ((h.cell (i := i) (by omega)).mono (Le.refl _)).cells <| zz 1 <| zs 13 (v := .int .u64 (IntKind.u64.wrap (((l.getD i 0 : Nat) : Int)))) (v' := .int .u64 ((l.getD i 0 : Nat) : Int)) (zR (lW (by omega) (by omega))) <| zz 5 <| zr' (v := .int .u64 ((l.getD i 0 : Nat) : Int)) ?_
 exact ⟨C0.upd,_,rfl,zR (by first | rfl | (rw [List.getD_eq_getElem?_getD,List.getElem?_eq_none (by omega)]; rfl))⟩
 refine zz 9 <| zr' (v := .int .u64 0) ?_
 exact ⟨C0.upd,_,rfl,zR (by first | rfl | (rw [List.getD_eq_getElem?_getD,List.getElem?_eq_none (by omega)]; rfl))⟩
end
set_option maxHeartbeats 1000000
theorem zIp {len : Nat} (l : List Nat) (h : len = l.length) : kN l ≤ len := by rw [h]; exact gQ l _
theorem mx1 {l l2 : List Nat} {k c : Nat} (hc : ¬ 0 < c) (h1 : ¬ k < l.length) (h2 : ¬ k < l2.length) {v : Nat} (h : v + c * 4294967296 ^ k = val (l.take k) + val (l2.take k)) : v = val l + val l2 := by
 rw [List.take_of_length_le (by omega),List.take_of_length_le (by omega),show c = 0 by omega] at h; omega
theorem zQb {ls : List Nat} {x : Nat} (h : ∀ y ∈ ls,y < 4294967296) (hx : x < 4294967296) : ∀ y ∈ ls ++ [x],y < 4294967296 := fun y hy => by
 rcases List.mem_append.1 hy with h1 | h1
 ·exact h y h1
 ·obtain rfl := List.mem_singleton.1 h1; exact hx
theorem zCv {l : List Nat} {k : Nat} (h : l.length ≤ k) : l.getD k 0 = 0 := by rw [List.getD_eq_getElem?_getD,List.getElem?_eq_none h]; rfl
theorem zPc (w : World) (X : Hid) (hX : ∀ k o,X k o → k < w.heap.size) (ad : Option Addr) (len cap : Nat) (l : List Nat) (h : zL (rd w X) ad len cap l) (ad2 : Option Addr) (len2 cap2 : Nat) (l2 : List Nat) (h2 : zL (rd w X) ad2 len2 cap2 l2) (hm : len ≤ 1000000) (hm2 : len2 ≤ 1000000) : Calls Tryz.prog 122 #[.slice ad len cap,.slice ad2 len2 cap2] w (Ret E0 w fun w' v => aD X w' v (val l + val l2)) := by
 obtain rfl := h.hlen
 obtain rfl := h2.hlen
 have hcap := h.hcap
 have hbig := h.hbig
 have hcap2 := h2.hcap
 have hbig2 := h2.hbig
 refine zen Tryz.func122 ?_
 have C0 : St E0 w X w X [] := St.start hX
 refine zz 22 <| zlp Tryz.f122 [] [1,1,1,0,1,0] (fun ((k,ad8,cap8,c) : Nat × (Option Addr) × Nat × Nat) => [(0,.slice ad l.length cap),(1,.slice ad2 l2.length cap2),(5,.slice ad8 k cap8),(6,.int .u64 (c : Int)),(7,.int .i64 (k : Int))]) (fun ((k,ad8,cap8,c) : Nat × (Option Addr) × Nat × Nat) w1 => ∃ (Y1 : Hid) (rb : List (Nat × Obj)) (ls : List Nat),St E0 w X w1 Y1 (rb) ∧ Le (rd w X) (rd w1 Y1) ∧ (mK 179 1 rb ad8 k cap8 (U32 ls)) ∧ (ls.length = k) ∧ (∀ x ∈ ls,x < 4294967296) ∧ (val ls + c * 4294967296 ^ k = val (l.take k) + val (l2.take k)) ∧ (c ≤ 1) ∧ (k ≤ max l.length l2.length + 1) ∧ (k = max l.length l2.length + 1 → c = 0)) (fun ((k,ad8,cap8,c) : Nat × (Option Addr) × Nat × Nat) => max l.length l2.length + 1 - k) (0,none,0,0) ?_ ?_
 refine ⟨_,[],[],C0,Le.refl _,mK.nil _ _,rfl,fun _ h => absurd h (by simp),by simp [val],by omega,Nat.zero_le _,fun _ => rfl⟩
 rintro ⟨k,ad8,cap8,c⟩ w2 K2 H2 ⟨Y2,rb,ls,C2,B2,hp2_0,hp2_1,hp2_2,hp2_3,hp2_4,hp2_5,hp2_6⟩
 have hrw := hp2_0
 have hrl := hp2_1
 have hrt := hp2_2
 have hv := hp2_3
 have hc := hp2_4
 have hk := hp2_5
 have hkc := hp2_6
 have hlt1 := h.getD_lt k
 have hlt2 := h2.getD_lt k
 refine zz 1 ?_
 refine yT (fun (bj3_22 : Bool) => [(0,.slice ad l.length cap),(1,.slice ad2 l2.length cap2),(5,.slice ad8 k cap8),(6,.int .u64 (c : Int)),(7,.int .i64 (k : Int)),(22,.bool bj3_22)]) (fun bj3_22 w1 => ∃ Y1 : Hid,St E0 w X w1 Y1 (rb) ∧ Le (rd w2 Y2) (rd w1 Y1) ∧ (bj3_22 = true ↔ (k < l.length ∨ k < l2.length ∨ 0 < c))) ?_ ?_
 rintro bj3_22 w3 ⟨Y3,C3,B3,hjp3⟩
 refine zb 22 (b := bj3_22) (fun T4 => ?_) (fun T4 => ?_)
 have Q5 : bj3_22 = true := by simpa using T4
 have hgo := hjp3.1 Q5
 refine zz 9 <| zc C3 (dA _ X0 (zM _) _ _ _ l ((h.mono (Le2 B2 B3)).mono Le.x0) k) ?_
 rintro v7 w7 C7 B7 V7 rfl
 refine zz 2 <| zc C7 (dA _ X0 (zM _) _ _ _ l2 ((h2.mono (Le3 B2 B3 B7)).mono Le.x0) k) ?_
 rintro v9 w9 C9 B9 V9 rfl
 refine zz 1 <| zs 31 (v := .int .u64 (IntKind.u64.wrap (((l.getD k 0 : Nat) : Int) + ((l2.getD k 0 : Nat) : Int)))) (v' := .int .u64 (((l.getD k 0 : Nat) : Int) + ((l2.getD k 0 : Nat) : Int))) (zR (lW (by omega) (by omega))) <| zz 2 <| zs 33 (v := .int .u64 (IntKind.u64.wrap ((((l.getD k 0 : Nat) : Int) + ((l2.getD k 0 : Nat) : Int)) + (c : Int)))) (v' := .int .u64 (((l.getD k 0 + l2.getD k 0 + c) : Nat) : Int)) (zR ((lW (by omega) (by omega)).trans (by omega))) <| zz 8 <| zs 36 (v := .int .u64 (Int.tmod ((((l.getD k 0 + l2.getD k 0 + c) : Nat) : Int)) (4294967296))) (v' := .int .u64 (((l.getD k 0 + l2.getD k 0 + c) % 4294967296 : Nat) : Int)) (zR (by rfl)) <| zz 1 <| zs 37 (v := .int .u32 (IntKind.u32.wrap ((((l.getD k 0 + l2.getD k 0 + c) % 4294967296 : Nat) : Int)))) (v' := .int .u32 (((l.getD k 0 + l2.getD k 0 + c) % 4294967296 : Nat) : Int)) (zR (zOs (by omega) (by omega))) <| zn (fun b => .slice (some ⟨b,0,none⟩) 1 1) (.cells #[.int .u32 (((l.getD k 0 + l2.getD k 0 + c) % 4294967296 : Nat) : Int)] 179 (0,0)) C9 fun b11 w11 Y11 C11 B11 V11 => ?_
 refine zop (at1 [K2] Tryz.f122 [1,1,1,0,1,0,0,1,0,0,1,0]) 5 (fun a12 _ G12 hz12 => tK (b := 4) (m := 1) (c := 1) (ad := ⟨b11,0,none⟩) (news := [.int .u32 (((l.getD k 0 + l2.getD k 0 + c) % 4294967296 : Nat) : Int)]) (i0 := Tryz.t179) (R1 := []) 1 G12 C11 rfl hrw (C11.cells 0 rfl rfl) (by omega) (by omega) ?_)
 intro rb13 ad13 cap13 w13 Y13 F13 C13 B13 a14 G14
 have hrw13 : mK 179 1 rb13 ad13 (k + 1) cap13 (U32 (ls ++ [(l.getD k 0 + l2.getD k 0 + c) % 4294967296])) := by rw [← zGs]; exact F13
 refine hz12 G14 <| zz 6 <| zs 41 (v := .int .u64 (IntKind.u64.wrap (Int.tdiv ((((l.getD k 0 + l2.getD k 0 + c) : Nat) : Int)) (4294967296)))) (v' := .int .u64 (((l.getD k 0 + l2.getD k 0 + c) / 4294967296 : Nat) : Int)) (zR (zGl _ (by omega))) <| zz 7 <| zw 24 (x := (k : Int) + 1) <| zz 2 ?_
 have T1_ := (Le5 B2 B3 B7 B9 B11).trans B13
 refine zP (fun a h => H2 ((k + 1,ad13,cap13,(l.getD k 0 + l2.getD k 0 + c) / 4294967296)) _ a h ⟨_,rb13,(ls ++ [(l.getD k 0 + l2.getD k 0 + c) % 4294967296]),C13.tail,T1_,hrw13,by rw [List.length_append,hrl]; rfl,zQb hrt (by omega),zXs _ _ _ _ _ hrl hv,by omega,by omega,fun hk9 => by have e1 : l.getD k 0 = 0 := zCv (by omega); have e2 : l2.getD k 0 = 0 := zCv (by omega); omega⟩ ?_)
 first | omega | (simp <;> omega)
 have Q15 : bj3_22 = false := by simpa using T4
 have hno : ¬ (k < l.length ∨ k < l2.length ∨ 0 < c) := fun e => by rw [hjp3.2 e] at Q15; cases Q15
 have hend := mx1 (fun e => hno (.inr (.inr e))) (fun e => hno (.inl e)) (fun e => hno (.inr (.inl e))) hv
 refine zz 9 ?_
 obtain ⟨Y17,hSx17,B17,hL17⟩ := St.pubLimbs (A := []) (B := []) (fun rb => (rb)) C3 (fun _ => by simp only [List.append_assoc,List.cons_append,List.nil_append,List.append_nil]) hrw hrl.symm hrt
 have C17 : St E0 w X w3 Y17 [] := hSx17
 refine zc C17 (zEn _ _ C17.lt _ _ _ ls hL17) ?_
 rintro v18 w18 C18 B18 V18 rfl
 refine zz 4 <| zr' (v := .slice ad8 (kN ls) cap8) ?_
 exact ⟨C18.upd,_,rfl,_,_,_,rfl,_,((hL17.sub (zIp _ hL17.hlen)).mono (Le.trans B18 C18.le)),kR _,by rw [show List.take (kN ls) ls = Go.Gv.trimmed ls from rfl,xO]; exact hend⟩
 intro K19 H19
 refine zz 6 <| zt 13 (p := (k : Int) < (l.length : Int)) (fun Q20 => ?_) (fun Q20 => ?_)
 refine zz 10 ?_
 exact zP (fun a h => H19 true _ a h ⟨_,C2,(Le.refl _),by first | exact ⟨fun _ => by omega,fun _ => rfl⟩ | exact ⟨fun e => by have := of_decide_eq_true e; omega,fun e => decide_eq_true (by omega)⟩⟩)
 refine zz 6 <| zt 19 (p := (k : Int) < (l2.length : Int)) (fun Q21 => ?_) (fun Q21 => ?_)
 refine zz 4 ?_
 exact zP (fun a h => H19 true _ a h ⟨_,C2,(Le.refl _),by first | exact ⟨fun _ => by omega,fun _ => rfl⟩ | exact ⟨fun e => by have := of_decide_eq_true e; omega,fun e => decide_eq_true (by omega)⟩⟩)
 refine zz 4 ?_
 exact zP (fun a h => H19 (decide ((c : Int) > 0)) _ a h ⟨_,C2,(Le.refl _),by first | exact ⟨fun _ => by omega,fun _ => rfl⟩ | exact ⟨fun e => by have := of_decide_eq_true e; omega,fun e => decide_eq_true (by omega)⟩⟩)
set_option maxHeartbeats 1000000
theorem zGf (w : World) (X : Hid) (hX : ∀ k o,X k o → k < w.heap.size) (ad : Option Addr) (len cap : Nat) (l : List Nat) (h : zL (rd w X) ad len cap l) (ad2 : Option Addr) (len2 cap2 : Nat) (l2 : List Nat) (h2 : zL (rd w X) ad2 len2 cap2 l2) (hm : len ≤ 1000000) (hll : l2.length ≤ l.length) (hle : val l2 ≤ val l) : Calls Tryz.prog 124 #[.slice ad len cap,.slice ad2 len2 cap2] w (Ret E0 w fun w' v => aD X w' v (val l - val l2)) := by
 obtain rfl := h.hlen
 obtain rfl := h2.hlen
 have hcap := h.hcap
 have hbig := h.hbig
 have hcap2 := h2.hcap
 have hbig2 := h2.hbig
 refine zen Tryz.func124 ?_
 have C0 : St E0 w X w X [] := St.start hX
 refine zz 22 <| zlp Tryz.f124 [] [1,1,1,0,1,0] (fun ((k,ad8,cap8,c) : Nat × (Option Addr) × Nat × Nat) => [(0,.slice ad l.length cap),(1,.slice ad2 l2.length cap2),(5,.slice ad8 k cap8),(6,.int .u64 (c : Int)),(7,.int .i64 (k : Int))]) (fun ((k,ad8,cap8,c) : Nat × (Option Addr) × Nat × Nat) w1 => ∃ (Y1 : Hid) (rb : List (Nat × Obj)) (ls : List Nat),St E0 w X w1 Y1 (rb) ∧ Le (rd w X) (rd w1 Y1) ∧ (mK 179 1 rb ad8 k cap8 (U32 ls)) ∧ (ls.length = k) ∧ (∀ x ∈ ls,x < 4294967296) ∧ (val ls + val (l2.take k) = val (l.take k) + c * 4294967296 ^ k) ∧ (c ≤ 1) ∧ (k ≤ l.length)) (fun ((k,ad8,cap8,c) : Nat × (Option Addr) × Nat × Nat) => l.length - k) (0,none,0,0) ?_ ?_
 refine ⟨_,[],[],C0,Le.refl _,mK.nil _ _,rfl,fun _ h => absurd h (by simp),by simp [val],by omega,Nat.zero_le _⟩
 rintro ⟨k,ad8,cap8,c⟩ w2 K2 H2 ⟨Y2,rb,ls,C2,B2,hp2_0,hp2_1,hp2_2,hp2_3,hp2_4,hp2_5⟩
 have hrw := hp2_0
 have hrl := hp2_1
 have hrt := hp2_2
 have hv := hp2_3
 have hc := hp2_4
 have hk := hp2_5
 have hlt1 := h.getD_lt k
 have hlt2 := h2.getD_lt k
 refine zz 9 <| zt 12 (p := (k : Int) < (l.length : Int)) (fun Q3 => ?_) (fun Q3 => ?_)
 refine zz 9 <| zc C2 (dA _ X0 (zM _) _ _ _ l ((h.mono B2).mono Le.x0) k) ?_
 rintro v5 w5 C5 B5 V5 rfl
 refine zz 1 <| zs 18 (v := .int .u64 (IntKind.u64.wrap ((4294967296 : Int) + ((l.getD k 0 : Nat) : Int)))) (v' := .int .u64 ((4294967296 : Int) + ((l.getD k 0 : Nat) : Int))) (zR (lW (by omega) (by omega))) <| zz 2 <| zc C5 (dA _ X0 (zM _) _ _ _ l2 ((h2.mono (Le2 B2 B5)).mono Le.x0) k) ?_
 rintro v7 w7 C7 B7 V7 rfl
 refine zz 1 <| zs 22 (v := .int .u64 (IntKind.u64.wrap (((4294967296 : Int) + ((l.getD k 0 : Nat) : Int)) - ((l2.getD k 0 : Nat) : Int)))) (v' := .int .u64 (((4294967296 : Int) + ((l.getD k 0 : Nat) : Int)) - ((l2.getD k 0 : Nat) : Int))) (zR (lW (by omega) (by omega))) <| zz 2 <| zs 24 (v := .int .u64 (IntKind.u64.wrap ((((4294967296 : Int) + ((l.getD k 0 : Nat) : Int)) - ((l2.getD k 0 : Nat) : Int)) - (c : Int)))) (v' := .int .u64 (((4294967296 + l.getD k 0 - l2.getD k 0 - c) : Nat) : Int)) (zR ((lW (by omega) (by omega)).trans (by omega))) <| zz 8 <| zs 27 (v := .int .u64 (Int.tmod ((((4294967296 + l.getD k 0 - l2.getD k 0 - c) : Nat) : Int)) (4294967296))) (v' := .int .u64 (((4294967296 + l.getD k 0 - l2.getD k 0 - c) % 4294967296 : Nat) : Int)) (zR (by rfl)) <| zz 1 <| zs 28 (v := .int .u32 (IntKind.u32.wrap ((((4294967296 + l.getD k 0 - l2.getD k 0 - c) % 4294967296 : Nat) : Int)))) (v' := .int .u32 (((4294967296 + l.getD k 0 - l2.getD k 0 - c) % 4294967296 : Nat) : Int)) (zR (zOs (by omega) (by omega))) <| zn (fun b => .slice (some ⟨b,0,none⟩) 1 1) (.cells #[.int .u32 (((4294967296 + l.getD k 0 - l2.getD k 0 - c) % 4294967296 : Nat) : Int)] 179 (0,0)) C7 fun b9 w9 Y9 C9 B9 V9 => ?_
 refine zop (at1 [K2] Tryz.f124 [1,1,1,0,1,0,0,1,0,0,1,0]) 5 (fun a10 _ G10 hz10 => tK (b := 4) (m := 1) (c := 1) (ad := ⟨b9,0,none⟩) (news := [.int .u32 (((4294967296 + l.getD k 0 - l2.getD k 0 - c) % 4294967296 : Nat) : Int)]) (i0 := Tryz.t179) (R1 := []) 1 G10 C9 rfl hrw (C9.cells 0 rfl rfl) (by omega) (by omega) ?_)
 intro rb11 ad11 cap11 w11 Y11 F11 C11 B11 a12 G12
 have hrw11 : mK 179 1 rb11 ad11 (k + 1) cap11 (U32 (ls ++ [(4294967296 + l.getD k 0 - l2.getD k 0 - c) % 4294967296])) := by rw [← zGs]; exact F11
 refine hz10 G12 <| zz 6 <| zs 32 (v := .int .u64 (IntKind.u64.wrap (Int.tdiv ((((4294967296 + l.getD k 0 - l2.getD k 0 - c) : Nat) : Int)) (4294967296)))) (v' := .int .u64 (((4294967296 + l.getD k 0 - l2.getD k 0 - c) / 4294967296 : Nat) : Int)) (zR (zGl _ (by omega))) <| zz 1 <| zs 33 (v := .int .u64 (IntKind.u64.wrap ((1 : Int) - (((4294967296 + l.getD k 0 - l2.getD k 0 - c) / 4294967296 : Nat) : Int)))) (v' := .int .u64 ((1 - (4294967296 + l.getD k 0 - l2.getD k 0 - c) / 4294967296 : Nat) : Int)) (zR ((lW (by omega) (by omega)).trans (by omega))) <| zz 7 <| zw 14 (x := (k : Int) + 1) <| zz 2 ?_
 have T1_ := (Le4 B2 B5 B7 B9).trans B11
 refine zP (fun a h => H2 ((k + 1,ad11,cap11,(1 - (4294967296 + l.getD k 0 - l2.getD k 0 - c) / 4294967296))) _ a h ⟨_,rb11,(ls ++ [(4294967296 + l.getD k 0 - l2.getD k 0 - c) % 4294967296]),C11.tail,T1_,hrw11,by rw [List.length_append,hrl]; rfl,zQb hrt (by omega),zTl _ _ _ _ _ hrl hlt1 hlt2 hc hv,by omega,by omega⟩ ?_)
 first | omega | (simp <;> omega)
 have hend := zWf hrl (by omega) hrt hll hle hc hv
 refine zz 9 ?_
 obtain ⟨Y14,hSx14,B14,hL14⟩ := St.pubLimbs (A := []) (B := []) (fun rb => (rb)) C2 (fun _ => by simp only [List.append_assoc,List.cons_append,List.nil_append,List.append_nil]) hrw hrl.symm hrt
 have C14 : St E0 w X w2 Y14 [] := hSx14
 refine zc C14 (zEn _ _ C14.lt _ _ _ ls hL14) ?_
 rintro v15 w15 C15 B15 V15 rfl
 refine zz 4 <| zr' (v := .slice ad8 (kN ls) cap8) ?_
 exact ⟨C15.upd,_,rfl,_,_,_,rfl,_,((hL14.sub (zIp _ hL14.hlen)).mono (Le.trans B15 C15.le)),kR _,by rw [show List.take (kN ls) ls = Go.Gv.trimmed ls from rfl,xO]; exact hend⟩
theorem zIi (w : World) (X : Hid) (hX : ∀ k o,X k o → k < w.heap.size) (ad : Option Addr) (len cap : Nat) (l : List Nat) (h : zL (rd w X) ad len cap l) (ad2 : Option Addr) (len2 cap2 : Nat) (l2 : List Nat) (h2 : zL (rd w X) ad2 len2 cap2 l2) (hm : len ≤ 1000000) (hm2 : len2 ≤ 1000000) : Calls Tryz.prog 123 #[.slice ad len cap,.slice ad2 len2 cap2] w (Ret E0 w fun _ v => v = .int .i64 (kE (val l) (val l2))) := by
 obtain rfl := h.hlen
 obtain rfl := h2.hlen
 have hcap := h.hcap
 have hbig := h.hbig
 have hcap2 := h2.hcap
 have hbig2 := h2.hbig
 refine zen Tryz.func123 ?_
 have C0 : St E0 w X w X [] := St.start hX
 refine zz 13 <| zs 10 (v := .int .i64 (if (l2.length : Int) > (l.length : Int) then (l2.length : Int) else (l.length : Int))) (v' := .int .i64 ((max l.length l2.length : Nat) : Int)) (zR (by split <;> omega)) <| zz 1 <| zw 11 (x := ((max l.length l2.length : Nat) : Int) - 1) <| zz 4 <| zlp Tryz.f123 [] [1,0,1,0] (fun (k : Nat) => [(0,.slice ad l.length cap),(1,.slice ad2 l2.length cap2),(5,.int .i64 ((k : Int) - 1))]) (fun (k : Nat) w1 => ∃ (Y1 : Hid),St E0 w X w1 Y1 [] ∧ Le (rd w X) (rd w1 Y1) ∧ (k ≤ max l.length l2.length) ∧ (∀ j,k ≤ j → l.getD j 0 = l2.getD j 0)) (fun (k : Nat) => k) (max l.length l2.length) ?_ ?_
 refine ⟨_,C0,Le.refl _,Nat.le_refl _,fun j hj => (zCv (by omega)).trans (zCv (by omega)).symm⟩
 rintro k w2 K2 H2 ⟨Y2,C2,B2,hp2_0,hp2_1⟩
 have hk := hp2_0
 have he := hp2_1
 have hlt1 := h.getD_lt (k - 1)
 have hlt2 := h2.getD_lt (k - 1)
 refine zz 7 <| zt 13 (p := ((k : Int) - 1) ≥ 0) (fun Q3 => ?_) (fun Q3 => ?_)
 refine zz 10 <| zs 17 (v := .int .i64 ((k : Int) - 1)) (v' := .int .i64 ((k - 1 : Nat) : Int)) (zR (by omega)) <| zc C2 (dA _ X0 (zM _) _ _ _ l ((h.mono B2).mono Le.x0) (k - 1)) ?_
 rintro v5 w5 C5 B5 V5 rfl
 refine zz 2 <| zs 20 (v := .int .i64 ((k : Int) - 1)) (v' := .int .i64 ((k - 1 : Nat) : Int)) (zR (by omega)) <| zc C5 (dA _ X0 (zM _) _ _ _ l2 ((h2.mono (Le2 B2 B5)).mono Le.x0) (k - 1)) ?_
 rintro v7 w7 C7 B7 V7 rfl
 refine zz 3 <| zt 22 (p := ((l.getD (k - 1) 0 : Nat) : Int) < ((l2.getD (k - 1) 0 : Nat) : Int)) (fun Q8 => ?_) (fun Q8 => ?_)
 refine zz 13 <| zr' (v := .int .i64 (-1)) ?_
 exact ⟨C7.upd,_,rfl,zR (Eq.symm (by have h9 := zTu h.hlt (k := k - 1) (fun j hj => he j (by omega)) (by omega); unfold kE; rw [if_pos (by omega)]))⟩
 refine zz 7 <| zs 24 (v := .int .i64 ((k : Int) - 1)) (v' := .int .i64 ((k - 1 : Nat) : Int)) (zR (by omega)) <| zc C7 (dA _ X0 (zM _) _ _ _ l ((h.mono (Le3 B2 B5 B7)).mono Le.x0) (k - 1)) ?_
 rintro v10 w10 C10 B10 V10 rfl
 refine zz 2 <| zs 27 (v := .int .i64 ((k : Int) - 1)) (v' := .int .i64 ((k - 1 : Nat) : Int)) (zR (by omega)) ?_
 have T1_ := (Le3 B2 B5 B7).trans B10
 refine zc C10 (dA _ X0 (zM _) _ _ _ l2 ((h2.mono T1_).mono Le.x0) (k - 1)) ?_
 rintro v12 w12 C12 B12 V12 rfl
 refine zz 3 <| zt 29 (p := ((l.getD (k - 1) 0 : Nat) : Int) > ((l2.getD (k - 1) 0 : Nat) : Int)) (fun Q13 => ?_) (fun Q13 => ?_)
 refine zz 12 <| zr' (v := .int .i64 1) ?_
 exact ⟨C12.upd,_,rfl,zR (Eq.symm (by have h9 := zTu h2.hlt (k := k - 1) (fun j hj => (he j (by omega)).symm) (by omega); unfold kE; rw [if_neg (by omega),if_pos (by omega)]))⟩
 refine zz 7 <| zs 15 (v := .int .i64 (i64.wrap (((k : Int) - 1) - 1))) (v' := .int .i64 (((k - 1 : Nat) : Int) - 1)) (zR ((jE (by omega) (by omega)).trans (by omega))) <| zz 2 ?_
 have T2_ := T1_.trans B12
 refine zP (fun a h => H2 (k - 1) _ a h ⟨_,C12,T2_,by omega,fun j hj => by rcases Nat.lt_or_ge j k with h9 | h9; obtain rfl : j = k - 1 := (by omega); omega; exact he j h9⟩ ?_)
 first | omega | (simp <;> omega)
 have hend := zCm l l2 (fun j => he j (by omega))
 refine zz 12 <| zr' (v := .int .i64 0) ?_
 exact ⟨C2.upd,_,rfl,zR (Eq.symm (by unfold kE; rw [hend,if_neg (Int.lt_irrefl _),if_neg (Int.lt_irrefl _)]))⟩
set_option maxHeartbeats 1000000
theorem zDq (w : World) (X : Hid) (hX : ∀ k o,X k o → k < w.heap.size) (ad : Option Addr) (len cap : Nat) (l : List Nat) (h : zL (rd w X) ad len cap l) (ad2 : Option Addr) (len2 cap2 : Nat) (l2 : List Nat) (h2 : zL (rd w X) ad2 len2 cap2 l2) (hm : len ≤ 1000000) (hm2 : len2 ≤ 1000000) : Calls Tryz.prog 120 #[.slice ad len cap,.slice ad2 len2 cap2] w (Ret E0 w fun w' v => aD X w' v (val l * val l2)) := by
 obtain rfl := h.hlen
 obtain rfl := h2.hlen
 have hcap := h.hcap
 have hbig := h.hbig
 have hcap2 := h2.hcap
 have hbig2 := h2.hbig
 refine zen Tryz.func120 ?_
 have C0 : St E0 w X w X [] := St.start hX
 refine zz 12 <| zs 14 (v := .int .i64 (i64.wrap ((l.length : Int) + (l2.length : Int)))) (v' := .int .i64 ((l.length + l2.length : Nat) : Int)) (zR ((jE (by omega) (by omega)).trans (by omega))) <| zop (at1 [] Tryz.f120 [1,0]) 5 (fun a2 _ G2 hz2 => zAe (l := ((l.length + l2.length : Nat) : Int)) (e := 179) (z := .int .u32 0) (i0 := Tryz.t179) (l.length + l2.length) 4 G2 C0 ?_)
 intro b3 w3 Y3 C3 B3 V3 a4 G4
 have F3 := jM.zeros (l.length + l2.length) (by simp only [maxLen]; omega)
 refine hz2 G4 <| zz 10 <| zlp Tryz.f120 [] [1,1,0,1,0] (fun (i : Nat) => [(0,.slice ad l.length cap),(1,.slice ad2 l2.length cap2),(5,.slice (some ⟨b3,0,none⟩) (l.length + l2.length) (l.length + l2.length)),(6,.int .i64 (i : Int))]) (fun (i : Nat) w1 => ∃ (Y1 : Hid) (cur : Array Value) (ls : List Nat),St E0 w X w1 Y1 [(b3,.cells cur 179 (0,0))] ∧ Le (rd w3 Y3) (rd w1 Y1) ∧ (jM (l.length + l2.length) (l.length + l2.length) cur ls) ∧ (val ls = val (l.take i) * val l2) ∧ (∀ j,i + l2.length ≤ j → ls.getD j 0 = 0) ∧ (i ≤ l.length)) (fun (i : Nat) => l.length - i) 0 ?_ ?_
 refine ⟨_,(List.replicate (l.length + l2.length) (Value.int .u32 0)).toArray,(List.replicate (l.length + l2.length) 0),C3,Le.refl _,F3,by rw [rD]; simp [val],fun j _ => by simp [List.getD_eq_getElem?_getD,List.getElem?_replicate]; split <;> rfl,Nat.zero_le _⟩
 rintro i w5 K5 H5 ⟨Y5,cur,ls,C5,B5,hp5_0,hp5_1,hp5_2,hp5_3⟩
 have hrow := hp5_0
 have hv := hp5_1
 have hz := hp5_2
 have hi := hp5_3
 have hlen := hrow.len
 have hlt1 := h.getD_lt i
 refine zz 9 <| zt 19 (p := (i : Int) < (l.length : Int)) (fun Q6 => ?_) (fun Q6 => ?_)
 obtain ⟨b1,off1,rfl,_⟩ := h.addr (by omega)
 refine zz 17 <| zlp Tryz.f120 [K5] [1,1,0,1,0,0,1,0,0,1,0,1,0] (fun ((k,c) : Nat × Nat) => [(0,.slice (some ⟨b1,off1,none⟩) l.length cap),(1,.slice ad2 l2.length cap2),(5,.slice (some ⟨b3,0,none⟩) (l.length + l2.length) (l.length + l2.length)),(6,.int .i64 (i : Int)),(7,.int .u64 (c : Int)),(8,.int .i64 (k : Int))]) (fun ((k,c) : Nat × Nat) w1 => ∃ (Y1 : Hid) (cur2 : Array Value) (ls2 : List Nat),St E0 w X w1 Y1 [(b3,.cells cur2 179 (0,0))] ∧ Le (rd w5 Y5) (rd w1 Y1) ∧ (jM (l.length + l2.length) (l.length + l2.length) cur2 ls2) ∧ (val ls2 + c * 4294967296 ^ (i + k) = (val (l.take i) * val l2) + l.getD i 0 * 4294967296 ^ i * val (l2.take k)) ∧ (∀ j,i + l2.length ≤ j → ls2.getD j 0 = 0) ∧ (c < 4294967296) ∧ (k ≤ l2.length)) (fun ((k,c) : Nat × Nat) => l2.length - k) (0,0) ?_ ?_
 refine ⟨_,cur,ls,C5,Le.refl _,hrow,by rw [hv]; simp [val],hz,by omega,Nat.zero_le _⟩
 rintro ⟨k,c⟩ w7 K7 H7 ⟨Y7,cur2,ls2,C7,B7,hp7_0,hp7_1,hp7_2,hp7_3,hp7_4⟩
 have F2 := hp7_0
 have hv2 := hp7_1
 have hzr2 := hp7_2
 have hc := hp7_3
 have hk := hp7_4
 have hlen2 := F2.len
 have hlt2 := h2.getD_lt k
 have hlt3 := F2.getD_lt (i + k)
 have hps := zYf hlt1 hlt2 hlt3 hc
 refine zz 9 <| zt 25 (p := (k : Int) < (l2.length : Int)) (fun Q8 => ?_) (fun Q8 => ?_)
 obtain ⟨b2,off2,rfl,_⟩ := h2.addr (by omega)
 refine zz 6 <| zEb [0] C7 <| gz [0,1] <| gi 2 (b := b1) (off := off1) (len := l.length) (cap := cap) (kd := .i64) (i := (i : Int)) 1 (off1 + i) <| gl 3 ((h.cell (i := i) (by omega)).mono (Le3 B3 B5 B7)) <| gz [4] <| zIn 32 (v := .int .u64 (IntKind.u64.wrap (((l.getD i 0 : Nat) : Int)))) (v' := .int .u64 ((l.getD i 0 : Nat) : Int)) (zR (lW (by omega) (by omega))) <| gz [5,6] <| gi 7 (b := b2) (off := off2) (len := l2.length) (cap := cap2) (kd := .i64) (i := (k : Int)) 1 (off2 + k) ?_
 refine gl 8 ((h2.cell (i := k) (by omega)).mono (Le3 B3 B5 B7)) <| gz [9] <| zIn 37 (v := .int .u64 (IntKind.u64.wrap (((l2.getD k 0 : Nat) : Int)))) (v' := .int .u64 ((l2.getD k 0 : Nat) : Int)) (zR (lW (by omega) (by omega))) <| gz [10] <| zIn 38 (v := .int .u64 (IntKind.u64.wrap (((l.getD i 0 : Nat) : Int) * ((l2.getD k 0 : Nat) : Int)))) (v' := .int .u64 ((l.getD i 0 * l2.getD k 0 : Nat) : Int)) (zR (zZk (by omega))) <| gz [11,12,13,14] <| zIn 42 (v := .int .i64 (i64.wrap ((i : Int) + (k : Int)))) (v' := .int .i64 ((i + k : Nat) : Int)) (zR ((jE (by omega) (by omega)).trans (by omega))) <| gi 15 (b := b3) (off := 0) (len := (l.length + l2.length)) (cap := (l.length + l2.length)) (kd := .i64) (i := ((i + k : Nat) : Int)) 1 ((((i + k : Nat) : Int)).toNat) <| gr 16 0 ((((i + k : Nat) : Int)).toNat) F2 (by have := F2.len; (try simp only [List.length_set] at *); omega) ?_
 refine gz [17] <| zIn 45 (v := .int .u64 (IntKind.u64.wrap (((ls2.getD ((((i + k : Nat) : Int)).toNat) 0 : Nat) : Int)))) (v' := .int .u64 ((ls2.getD (i + k) 0 : Nat) : Int)) (zR (lW (x := ((ls2.getD (i + k) 0 : Nat) : Int)) (by omega) (by omega))) <| gz [18] <| zIn 46 (v := .int .u64 (IntKind.u64.wrap (((l.getD i 0 * l2.getD k 0 : Nat) : Int) + ((ls2.getD (i + k) 0 : Nat) : Int)))) (v' := .int .u64 ((l.getD i 0 * l2.getD k 0 + ls2.getD (i + k) 0 : Nat) : Int)) (zR (zQv (by omega))) <| gz [19,20] <| zIn 48 (v := .int .u64 (IntKind.u64.wrap (((l.getD i 0 * l2.getD k 0 + ls2.getD (i + k) 0 : Nat) : Int) + (c : Int)))) (v' := .int .u64 (((l.getD i 0 * l2.getD k 0 + ls2.getD (i + k) 0 + c) : Nat) : Int)) (zR (zQv (by omega))) <| gz [21] ?_
 refine yO (fun w9 Y9 C9 B9 => ?_)
 refine zz 7 <| zs 52 (v := .int .i64 (i64.wrap ((i : Int) + (k : Int)))) (v' := .int .i64 ((i + k : Nat) : Int)) (zR ((jE (by omega) (by omega)).trans (by omega))) <| zz 2 <| zs 54 (v := .int .u64 (Int.tmod ((((l.getD i 0 * l2.getD k 0 + ls2.getD (i + k) 0 + c) : Nat) : Int)) (4294967296))) (v' := .int .u64 (((l.getD i 0 * l2.getD k 0 + ls2.getD (i + k) 0 + c) % 4294967296 : Nat) : Int)) (zR (by rfl)) <| zz 1 <| zs 55 (v := .int .u32 (IntKind.u32.wrap ((((l.getD i 0 * l2.getD k 0 + ls2.getD (i + k) 0 + c) % 4294967296 : Nat) : Int)))) (v' := .int .u32 (((l.getD i 0 * l2.getD k 0 + ls2.getD (i + k) 0 + c) % 4294967296 : Nat) : Int)) (zR (zOs (by omega) (by omega))) <| zi (b := b3) (off := 0) (len := (l.length + l2.length)) (cap := (l.length + l2.length)) (kd := .i64) (i := ((i + k : Nat) : Int)) 1 ((((i + k : Nat) : Int)).toNat) <| zop (at1 [K5,K7] Tryz.f120 [1,1,0,1,0,0,1,0,0,1,0,1,0,0,1,0,0,1,0]) 8 (fun a10 _ G10 hz10 => sW (y := ((l.getD i 0 * l2.getD k 0 + ls2.getD (i + k) 0 + c) % 4294967296)) (k := (((i + k : Nat) : Int)).toNat) (e := (((l.getD i 0 * l2.getD k 0 + ls2.getD (i + k) 0 + c) % 4294967296 : Nat) : Int)) 0 G10 C9 (by first | rfl | omega | (simp; omega)) rfl F2 (by have := F2.len; (try simp only [List.length_set] at *); omega) (by first | omega | (simp; omega)) ?_)
 intro cur11 w11 F11 C11 B11
 refine hz10 G10 <| zz 5 <| zs 58 (v := .int .u64 (IntKind.u64.wrap (Int.tdiv ((((l.getD i 0 * l2.getD k 0 + ls2.getD (i + k) 0 + c) : Nat) : Int)) (4294967296)))) (v' := .int .u64 (((l.getD i 0 * l2.getD k 0 + ls2.getD (i + k) 0 + c) / 4294967296 : Nat) : Int)) (zR (zGl _ (by omega))) <| zz 7 <| zw 27 (x := (k : Int) + 1) <| zz 2 <| zP (fun a h => H7 ((k + 1,(l.getD i 0 * l2.getD k 0 + ls2.getD (i + k) 0 + c) / 4294967296)) _ a h ⟨_,cur11,(ls2.set ((((i + k : Nat) : Int)).toNat) ((l.getD i 0 * l2.getD k 0 + ls2.getD (i + k) 0 + c) % 4294967296)),C11,(Le3 B7 B9 B11),F11,(by have h9 := zUg _ _ _ _ (l.getD i 0) (l2.getD k 0) (by omega) hv2; rw [← Nat.add_assoc]; exact h9.trans (zYx l2 i k _ _ _ rfl)),fun j hj => by rw [wV (by omega)]; exact hzr2 j (by omega),by omega,by omega⟩ ?_)
 first | omega | (simp <;> omega)
 obtain rfl : k = l2.length := by omega
 rw [List.take_length] at hv2
 refine zz 12 <| zs 63 (v := .int .i64 (i64.wrap ((i : Int) + (l2.length : Int)))) (v' := .int .i64 ((i + l2.length : Nat) : Int)) (zR ((jE (by omega) (by omega)).trans (by omega))) <| zz 2 <| zs 65 (v := .int .u32 (IntKind.u32.wrap ((c : Int)))) (v' := .int .u32 ((c : Nat) : Int)) (zR (zOs (by omega) (by omega))) <| zi (b := b3) (off := 0) (len := (l.length + l2.length)) (cap := (l.length + l2.length)) (kd := .i64) (i := ((i + l2.length : Nat) : Int)) 1 ((((i + l2.length : Nat) : Int)).toNat) <| zop (at1 [K5,K7] Tryz.f120 [1,1,0,1,0,0,1,0,0,1,1]) 8 (fun a12 _ G12 hz12 => sW (y := c) (k := (((i + l2.length : Nat) : Int)).toNat) (e := ((c : Nat) : Int)) 0 G12 C7 (by first | rfl | omega | (simp; omega)) rfl F2 (by have := F2.len; (try simp only [List.length_set] at *); omega) (by first | omega | (simp; omega)) ?_)
 intro cur13 w13 F13 C13 B13
 refine hz12 G12 <| zz 6 <| zw 21 (x := (i : Int) + 1) <| zz 2 <| zP (fun a h => H5 (i + 1) _ a h ⟨_,cur13,(ls2.set ((((i + l2.length : Nat) : Int)).toNat) c),C13,(Le3 B5 B7 B13),F13,zWj _ _ _ _ _ (by omega) (hzr2 _ (by omega)) hv2,fun j hj => by rw [wV (by omega)]; exact hzr2 j (by omega),by omega⟩ ?_)
 first | omega | (simp <;> omega)
 have hend : val ls = val l * val l2 := by rw [hv,List.take_of_length_le (by omega)]
 refine zz 9 <| zc C5 (zEn _ X0 (zM _) _ _ _ ls (jM.limbs (Y := X0) hrow (C5.get 0 rfl) (fun _ h => h.elim))) ?_ (vs := #[.slice (some ⟨b3,0,none⟩) (l.length + l2.length) (l.length + l2.length)])
 rintro v15 w15 C15 B15 V15 rfl
 refine zz 4 <| zr' (v := .slice (some ⟨b3,0,none⟩) (kN ls) (l.length + l2.length)) ?_
 exact ⟨C15.upd,_,rfl,_,_,_,rfl,_,jM.limbs (hrow.trimmed) (C15.get 0 rfl) (fun o h9 => Nat.not_lt.2 (C15.own_ge 0 rfl) (hX _ _ h9)),kR _,by rw [xO]; exact hend⟩
set_option maxHeartbeats 1000000
theorem zQm (w : World) (X : Hid) (hX : ∀ k o,X k o → k < w.heap.size) (x : Nat) (hx : x < 18446744073709551616) : Calls Tryz.prog 142 #[.int .u64 (x : Int)] w (Ret E0 w fun w' v => aD X w' v x) := by
 refine zen Tryz.func142 ?_
 have C0 : St E0 w X w X [] := St.start hX
 refine zz 9 <| zs 4 (v := .int .u64 (Int.tmod ((x : Int)) (4294967296))) (v' := .int .u64 ((x % 4294967296 : Nat) : Int)) (zR (by rfl)) <| zz 1 <| zs 5 (v := .int .u32 (IntKind.u32.wrap (((x % 4294967296 : Nat) : Int)))) (v' := .int .u32 ((x % 4294967296 : Nat) : Int)) (zR (zOs (by omega) (by omega))) <| zz 2 <| zs 7 (v := .int .u64 (IntKind.u64.wrap (Int.tdiv ((x : Int)) (4294967296)))) (v' := .int .u64 ((x / 4294967296 : Nat) : Int)) (zR (zGl _ (by omega))) <| zz 1 <| zs 8 (v := .int .u32 (IntKind.u32.wrap (((x / 4294967296 : Nat) : Int)))) (v' := .int .u32 ((x / 4294967296 : Nat) : Int)) (zR (zOs (by omega) (by omega))) <| zn (fun b => .slice (some ⟨b,0,none⟩) 2 2) (.cells #[.int .u32 ((x % 4294967296 : Nat) : Int),.int .u32 ((x / 4294967296 : Nat) : Int)] 179 (0,0)) C0 fun b3 w3 Y3 C3 B3 V3 => ?_
 have F5 : jM 2 2 #[.int .u32 ((x % 4294967296 : Nat) : Int),.int .u32 ((x / 4294967296 : Nat) : Int)] [x % 4294967296,x / 4294967296] := jM.of [x % 4294967296,x / 4294967296] (by intro y hy; simp at hy; omega) (by simp [maxLen]) (by simp [U32]) (by simp)
 refine zc C3 (zEn _ X0 (zM _) _ _ _ ([x % 4294967296,x / 4294967296]) (jM.limbs (Y := X0) F5 (C3.get 0 rfl) (fun _ h => h.elim))) ?_ (vs := #[.slice (some ⟨b3,0,none⟩) 2 2])
 rintro v6 w6 C6 B6 V6 rfl
 refine zz 4 <| zr' (v := .slice (some ⟨b3,0,none⟩) (kN ([x % 4294967296,x / 4294967296])) 2) ?_
 exact ⟨C6.upd,_,rfl,_,_,_,rfl,_,jM.limbs (F5.trimmed) (C6.get 0 rfl) (fun o h9 => Nat.not_lt.2 (C6.own_ge 0 rfl) (hX _ _ h9)),kR _,by rw [xO]; simp only [val]; omega⟩
set_option maxHeartbeats 1000000
theorem zXd (w : World) (X : Hid) (hX : ∀ k o,X k o → k < w.heap.size) (ad : Option Addr) (len cap : Nat) (l : List Nat) (h : zL (rd w X) ad len cap l) (ad2 : Option Addr) (len2 cap2 : Nat) (l2 : List Nat) (h2 : zL (rd w X) ad2 len2 cap2 l2) (hm : len ≤ 100000) (hm2 : len2 ≤ 100000) (T1 : jC l) (T2 : jC l2) (hd : 0 < val l2) (hlo : l.length < l2.length) : Calls Tryz.prog 141 #[.slice ad len cap,.slice ad2 len2 cap2] w (Ret E0 w fun w' v => ∃ u u2,v = .tuple #[u,u2] ∧ aD X w' u (val l / val l2) ∧ aD X w' u2 (val l % val l2)) := by
 obtain rfl := h.hlen
 obtain rfl := h2.hlen
 have hcap := h.hcap
 have hbig := h.hbig
 have hcap2 := h2.hcap
 have hbig2 := h2.hbig
 have hlo2 := qDo h.hlt T2 hlo
 refine zen Tryz.func141 ?_
 have C0 : St E0 w X w X [] := St.start hX
 refine zz 13 <| zw 14 (x := (l.length : Int) - (l2.length : Int)) <| zz 1 <| zs 15 (v := .int .i64 (i64.wrap (((l.length : Int) - (l2.length : Int)) + 1))) (v' := .int .i64 ((l.length : Int) - (l2.length : Int) + 1)) (zR (jE (by omega) (by omega))) <| zz 10 <| zt 17 (p := ((l.length : Int) - (l2.length : Int) + 1) ≤ 0) (fun Q2 => ?_) (fun Q2 => ?_)
 refine zz 4 <| zop (at1 [] Tryz.f141 [1,1,0,1,0,0]) 1 (fun a3 _ G3 hz3 => zLc (e := 179) (i0 := Tryz.t179) G3 C0 h (by first | omega | (simp; omega)) ?_)
 intro ad4 cap4 w4 C4 B4 hL4 a5 G5
 refine hz3 G5 <| zz 6 <| zr' (v := .tuple #[.slice none 0 0,.slice ad4 l.length cap4]) ?_
 exact ⟨C4.upd,_,rfl,_,_,rfl,⟨_,_,_,rfl,[],zL.nil none (by omega),.inl rfl,(Nat.div_eq_of_lt hlo2).symm⟩,⟨_,_,_,rfl,l,(hL4).mono C4.le,T1,(Nat.mod_eq_of_lt hlo2).symm⟩⟩
 omega
theorem zXa (w : World) (X : Hid) (hX : ∀ k o,X k o → k < w.heap.size) (ad : Option Addr) (len cap : Nat) (l : List Nat) (h : zL (rd w X) ad len cap l) (ad2 : Option Addr) (len2 cap2 : Nat) (l2 : List Nat) (h2 : zL (rd w X) ad2 len2 cap2 l2) (hm : len ≤ 100000) (hm2 : len2 ≤ 100000) (T1 : jC l) (T2 : jC l2) (hd : 0 < val l2) (N : Nat) (hN : l.length + 1 = N + l2.length) (h0 : 0 < N) : Calls Tryz.prog 141 #[.slice ad len cap,.slice ad2 len2 cap2] w (Ret E0 w fun w' v => ∃ u u2,v = .tuple #[u,u2] ∧ aD X w' u (val l / val l2) ∧ aD X w' u2 (val l % val l2)) := by
 obtain rfl := h.hlen
 obtain rfl := h2.hlen
 have hcap := h.hcap
 have hbig := h.hbig
 have hcap2 := h2.hcap
 have hbig2 := h2.hbig
 have hl2 := zYd hd
 refine zen Tryz.func141 ?_
 have C0 : St E0 w X w X [] := St.start hX
 refine zz 13 <| zw 14 (x := (l.length : Int) - (l2.length : Int)) <| zz 1 <| zs 15 (v := .int .i64 (i64.wrap (((l.length : Int) - (l2.length : Int)) + 1))) (v' := .int .i64 (N : Int)) (zR ((jE (by omega) (by omega)).trans (by omega))) <| zz 10 <| zt 17 (p := (N : Int) ≤ 0) (fun Q2 => ?_) (fun Q2 => ?_)
 omega
 refine zz 6 <| zop (at1 [] Tryz.f141 [1,1,1,0]) 1 (fun a3 _ G3 hz3 => zAe (l := (N : Int)) (e := 179) (z := .int .u32 0) (i0 := Tryz.t179) N 4 G3 C0 ?_)
 intro b4 w4 Y4 C4 B4 V4 a5 G5
 have F4 := jM.zeros N (by simp only [maxLen]; omega)
 refine hz3 G5 <| zz 7 <| zop (at1 [] Tryz.f141 [1,1,1,1,0]) 2 (fun a6 _ G6 hz6 => zF (d := 24) (v := .slice (adF ad cap N) (l.length - N) (cap - N)) G6 kr (zJe (t := 26) (e := 179) (ad := ad) (len := l.length) (cap := cap) (k := N) (kd := .i64) (g := false) rfl kr kr kr kr (by omega) _) ?_)
 intro a7 G7
 refine hz6 G7 <| zop (at1 [] Tryz.f141 [1,1,1,1,0]) 3 (fun a8 _ G8 hz8 => zLc (e := 179) (i0 := Tryz.t179) G8 C4 ((h.drop (k := N) (by omega)).mono B4) (by first | omega | (simp; omega)) ?_)
 intro ad9 cap9 w9 C9 B9 hL9 a10 G10
 refine hz8 G10 <| zc C9 (zEn _ _ C9.lt _ _ _ (l.drop N) hL9) ?_
 rintro v12 w12 C12 B12 V12 rfl
 have hT13 := ((hL9.mono B12)).sub (zIp _ ((hL9.mono B12)).hlen)
 refine zz 8 <| zw 28 (x := (32 : Int) * (N : Int)) <| zz 1 <| zs 29 (v := .int .i64 (i64.wrap (((32 : Int) * (N : Int)) - 1))) (v' := .int .i64 (((32 * N : Nat) : Int) - 1)) (zR ((jE (by omega) (by omega)).trans (by omega))) <| zz 4 <| zlp Tryz.f141 [] [1,1,1,1,1,0,1,0] (fun ((k,adr,lenr,capr) : Nat × (Option Addr) × Nat × Nat) => [(0,.slice ad l.length cap),(1,.slice ad2 l2.length cap2),(7,.slice (some ⟨b4,0,none⟩) N N),(8,.slice adr lenr capr),(9,.int .i64 ((k : Int) - 1))]) (fun ((k,adr,lenr,capr) : Nat × (Option Addr) × Nat × Nat) w1 => ∃ (Y1 : Hid) (curq : Array Value) (lq : List Nat) (lr : List Nat) (q : Nat),St E0 w X w1 Y1 [(b4,.cells curq 179 (0,0))] ∧ Le (rd w12 Y4) (rd w1 Y1) ∧ (jM N N curq lq) ∧ (zL (rd w1 Y1) adr lenr capr lr) ∧ (jC lr) ∧ (val lq = 2 ^ k * q) ∧ (val l / 2 ^ k = q * val l2 + val lr) ∧ (val lr < val l2) ∧ (k ≤ 32 * N)) (fun ((k,adr,lenr,capr) : Nat × (Option Addr) × Nat × Nat) => k) ((32 * N),ad9,kN (l.drop N),cap9) ?_ ?_
 refine ⟨_,(List.replicate N (Value.int .u32 0)).toArray,(List.replicate N 0),(Go.Gv.trimmed (l.drop N)),0,C12,Le.refl _,F4,hT13,kR _,by rw [rD]; simp,by rw [Nat.zero_mul,Nat.zero_add,xO]; exact zTy l h.hlt N (by omega),by rw [xO]; exact zWu h.hlt T2 hd hN,Nat.le_refl _⟩
 rintro ⟨k,adr,lenr,capr⟩ w14 K14 H14 ⟨Y14,curq,lq,lr,q,C14,B14,hp14_0,hp14_1,hp14_2,hp14_3,hp14_4,hp14_5,hp14_6⟩
 have hrowq := hp14_0
 have hr := hp14_1
 have hcanr := hp14_2
 have hvq := hp14_3
 have hdiv := hp14_4
 have hlt := hp14_5
 have hkN := hp14_6
 have hrlen := hr.hlen
 have hrl := yC h2.hlt hcanr (Nat.le_of_lt hlt)
 obtain rfl := hrlen
 refine zz 7 <| zt 31 (p := ((k : Int) - 1) ≥ 0) (fun Q15 => ?_) (fun Q15 => ?_)
 obtain ⟨i,rfl⟩ : ∃ i,k = i + 1 := ⟨k - 1,by omega⟩
 obtain ⟨b1,off1,rfl,_⟩ := h.addr (by omega)
 refine zz 9 <| zc C14 (zPc _ _ C14.lt _ _ _ lr hr _ _ _ lr hr (by first | omega | (simp; done) | (simp; omega)) (by first | omega | (simp; done) | (simp; omega))) ?_
 rintro v17 w17 C17 B17 V17 ⟨ad17,len17,cap17,rfl,ls17,hL17,hcan17,hval17⟩
 have hlen17 := hL17.hlen
 have hdl17 := zKh hcan17 h2.hlt hlt (by omega)
 refine zz 8 <| zs 38 (v := .int .i64 (((i + 1 : Nat) : Int) - 1)) (v' := .int .i64 (i : Int)) (zR (by omega)) <| zz 1 <| zs 39 (v := .int .i64 (i64.wrap (Int.tdiv ((i : Int)) (32)))) (v' := .int .i64 ((i / 32 : Nat) : Int)) (zR (zAk _ (by omega))) <| zi (b := b1) (off := off1) (len := l.length) (cap := cap) (kd := .i64) (i := ((i / 32 : Nat) : Int)) 1 (off1 + i / 32) ?_
 have T1_ := (Le4 B4 B9 B12 B14).trans B17
 refine zl ((h.cell (i := i / 32) (by omega)).mono T1_).cells <| zz 1 <| zs 42 (v := .int .i64 (((i + 1 : Nat) : Int) - 1)) (v' := .int .i64 (i : Int)) (zR (by omega)) <| zz 1 <| zs 43 (v := .int .i64 (Int.tmod ((i : Int)) (32))) (v' := .int .i64 ((i % 32 : Nat) : Int)) (zR (zEg _)) <| zz 1 <| zs 44 (v := .int .u64 (IntKind.u64.wrap (((i % 32 : Nat) : Int)))) (v' := .int .u64 ((i % 32 : Nat) : Int)) (zR (lW (by omega) (by omega))) <| zop (at1 [K14] Tryz.f141 [1,1,1,1,1,0,1,0,0,1,0,0,1,0,0]) 8 (fun a18 _ G18 hz18 => zF (d := 45) (v := .int .u32 ((l.getD (i / 32) 0 / 2 ^ (i % 32) : Nat) : Int)) G18 kr (zWc rfl rfl rfl (by omega)) ?_)
 intro a19 G19
 refine hz18 G19 <| zz 1 <| zs 46 (v := .int .u32 (Int.tmod (((l.getD (i / 32) 0 / 2 ^ (i % 32) : Nat) : Int)) (2))) (v' := .int .u32 (((val l / 2 ^ i % 2) : Nat) : Int)) (zR (by rw [← zHn l h.hlt i (by omega)]; rfl)) <| zz 3 <| zb 47 (b := ((((val l / 2 ^ i % 2) : Nat) : Int) == 1)) (fun T20 => ?_) (fun T20 => ?_)
 have Q21 : (((val l / 2 ^ i % 2) : Nat) : Int) = 1 := by simpa using T20
 have hbit : val l / 2 ^ i % 2 = 1 := Int.ofNat_inj.1 Q21
 refine zz 3 <| zn (fun b => .slice (some ⟨b,0,none⟩) 1 1) (.cells #[.int .u32 1] 179 (0,0)) C17 fun b23 w23 Y23 C23 B23 V23 => ?_
 obtain ⟨hSx25,B25,hat25⟩ := St.publish C23 (C23.own_ge 0 rfl)
 have C25 : St E0 w X w23 (zPv b23 Y23) [(b4,.cells curq 179 (0,0))] := hSx25
 have hL25 := qAp (x := 1) hat25 (by omega)
 refine zc C25 (zPc _ _ C25.lt _ _ _ ls17 (hL17.mono (Le2 B23 B25)) _ _ _ ([1]) hL25 (by first | omega | (simp; done) | (simp; omega)) (by first | omega | (simp; done) | (simp; omega))) ?_
 rintro v26 w26 C26 B26 V26 ⟨ad26,len26,cap26,rfl,ls26,hL26,hcan26,hval26⟩
 have hlen26 := hL26.hlen
 have hv126 : val [1] = 1 := rfl
 have hdl26 := zKh hcan26 h2.hlt hlt (by omega)
 refine zz 7 ?_
 have T2_ := ((T1_.trans B23).trans B25).trans B26
 refine zc C26 (zIi _ _ C26.lt _ _ _ ls26 hL26 _ _ _ l2 (h2.mono T2_) (by first | omega | (simp; done) | (simp; omega)) (by first | omega | (simp; done) | (simp; omega))) ?_
 rintro v28 w28 C28 B28 V28 rfl
 refine zz 3 <| zt 54 (p := (kE (val ls26) (val l2)) ≥ 0) (fun Q29 => ?_) (fun Q29 => ?_)
 have hcmp := zBn Q29
 obtain ⟨hset1,hset2,hset3⟩ := zMa lq hrowq.lt i q (by rw [hrowq.len]; omega) hvq
 refine zz 5 ?_
 have T3_ := T2_.trans B28
 refine zc C28 (zGf _ _ C28.lt _ _ _ ls26 (hL26.mono B28) _ _ _ l2 (h2.mono T3_) (by first | omega | (simp; done) | (simp; omega)) (yC ((hL26.mono B28)).hlt T2 hcmp) (by omega)) ?_
 rintro v31 w31 C31 B31 V31 ⟨ad31,len31,cap31,rfl,ls31,hL31,hcan31,hval31⟩
 have hlen31 := hL31.hlen
 refine zz 6 <| zs 59 (v := .int .i64 (((i + 1 : Nat) : Int) - 1)) (v' := .int .i64 (i : Int)) (zR (by omega)) <| zz 1 <| zs 60 (v := .int .i64 (i64.wrap (Int.tdiv ((i : Int)) (32)))) (v' := .int .i64 ((i / 32 : Nat) : Int)) (zR (zAk _ (by omega))) <| zz 2 <| zs 62 (v := .int .i64 (((i + 1 : Nat) : Int) - 1)) (v' := .int .i64 (i : Int)) (zR (by omega)) <| zz 1 <| zs 63 (v := .int .i64 (i64.wrap (Int.tdiv ((i : Int)) (32)))) (v' := .int .i64 ((i / 32 : Nat) : Int)) (zR (zAk _ (by omega))) <| zi (b := b4) (off := 0) (len := N) (cap := N) (kd := .i64) (i := ((i / 32 : Nat) : Int)) 1 (i / 32) ?_
 refine zl (ad := ⟨b4,i / 32,none⟩) (C31.rowCells 0 rfl hrowq (by have := hrowq.len; (try simp only [List.length_set] at *); omega)) <| zz 1 <| zs 66 (v := .int .i64 (((i + 1 : Nat) : Int) - 1)) (v' := .int .i64 (i : Int)) (zR (by omega)) <| zz 1 <| zs 67 (v := .int .i64 (Int.tmod ((i : Int)) (32))) (v' := .int .i64 ((i % 32 : Nat) : Int)) (zR (zEg _)) <| zz 1 <| zs 68 (v := .int .u64 (IntKind.u64.wrap (((i % 32 : Nat) : Int)))) (v' := .int .u64 ((i % 32 : Nat) : Int)) (zR (lW (by omega) (by omega))) <| zop (at1 [K14] Tryz.f141 [1,1,1,1,1,0,1,0,0,1,0,0,1,1,1,0,1]) 11 (fun a32 _ G32 hz32 => zF (d := 69) (v := .int .u32 ((2 ^ (i % 32) : Nat) : Int)) G32 kr (zJh rfl rfl rfl (by omega)) ?_)
 intro a33 G33
 refine hz32 G33 <| zz 1 <| zs 70 (v := .int .u32 (fB ((lq.getD (i / 32) 0 : Nat) : Int) ((2 ^ (i % 32) : Nat) : Int))) (v' := .int .u32 ((lq.getD (i / 32) 0 + 2 ^ (i % 32) : Nat) : Int)) (zR hset1) <| zi (b := b4) (off := 0) (len := N) (cap := N) (kd := .i64) (i := ((i / 32 : Nat) : Int)) 1 (i / 32) <| zop (at1 [K14] Tryz.f141 [1,1,1,1,1,0,1,0,0,1,0,0,1,1,1,0,1]) 14 (fun a34 _ G34 hz34 => sW (y := (lq.getD (i / 32) 0 + 2 ^ (i % 32))) (k := i / 32) (e := ((lq.getD (i / 32) 0 + 2 ^ (i % 32) : Nat) : Int)) 0 G34 C31 (rfl) rfl hrowq (by have := hrowq.len; (try simp only [List.length_set] at *); omega) (hset2) ?_)
 intro cur35 w35 F35 C35 B35
 refine hz34 G34 <| zz 6 <| zs 33 (v := .int .i64 (i64.wrap ((((i + 1 : Nat) : Int) - 1) - 1))) (v' := .int .i64 ((i : Int) - 1)) (zR ((jE (by omega) (by omega)).trans (by omega))) <| zz 2 ?_
 have T4_ := (Le7 B14 B17 B23 B25 B26 B28 B31).trans B35
 refine zP (fun a h => H14 ((i,ad31,len31,cap31)) _ a h ⟨_,cur35,(lq.set (i / 32) (lq.getD (i / 32) 0 + 2 ^ (i % 32))),ls31,(2 * q + 1),C35,T4_,F35,(hL31.mono B35),hcan31,by rw [hset3,hvq,Nat.pow_succ,Nat.mul_add,Nat.mul_one]; congr 1; ac_rfl,zZn hdiv (by rw [hbit]; omega) (by rw [hbit]; omega),by omega,by omega⟩ ?_)
 first | omega | (simp <;> omega)
 have hcmp := dW Q29
 refine zz 7 <| zs 33 (v := .int .i64 (i64.wrap ((((i + 1 : Nat) : Int) - 1) - 1))) (v' := .int .i64 ((i : Int) - 1)) (zR ((jE (by omega) (by omega)).trans (by omega))) <| zz 2 ?_
 have T5_ := (Le5 B14 B17 B23 B25 B26).trans B28
 refine zP (fun a h => H14 ((i,ad26,len26,cap26)) _ a h ⟨_,curq,lq,ls26,(2 * q),C28,T5_,hrowq,(hL26.mono B28),hcan26,by rw [hvq,Nat.pow_succ]; ac_rfl,zUu hdiv (by rw [hbit]; omega),by omega,by omega⟩ ?_)
 first | omega | (simp <;> omega)
 have Q36 : (((val l / 2 ^ i % 2) : Nat) : Int) ≠ 1 := by simpa using T20
 have hbit : val l / 2 ^ i % 2 = 0 := (Nat.mod_two_eq_zero_or_one _).resolve_right (fun e => Q36 (congrArg (fun x : Nat => (x : Int)) e))
 refine zz 7 <| zc C17 (zIi _ _ C17.lt _ _ _ ls17 hL17 _ _ _ l2 (h2.mono T1_) (by first | omega | (simp; done) | (simp; omega)) (by first | omega | (simp; done) | (simp; omega))) ?_
 rintro v38 w38 C38 B38 V38 rfl
 refine zz 3 <| zt 54 (p := (kE (val ls17) (val l2)) ≥ 0) (fun Q39 => ?_) (fun Q39 => ?_)
 have hcmp := zBn Q39
 obtain ⟨hset1,hset2,hset3⟩ := zMa lq hrowq.lt i q (by rw [hrowq.len]; omega) hvq
 refine zz 5 ?_
 have T6_ := T1_.trans B38
 refine zc C38 (zGf _ _ C38.lt _ _ _ ls17 (hL17.mono B38) _ _ _ l2 (h2.mono T6_) (by first | omega | (simp; done) | (simp; omega)) (yC ((hL17.mono B38)).hlt T2 hcmp) (by omega)) ?_
 rintro v41 w41 C41 B41 V41 ⟨ad41,len41,cap41,rfl,ls41,hL41,hcan41,hval41⟩
 have hlen41 := hL41.hlen
 refine zz 6 <| zs 59 (v := .int .i64 (((i + 1 : Nat) : Int) - 1)) (v' := .int .i64 (i : Int)) (zR (by omega)) <| zz 1 <| zs 60 (v := .int .i64 (i64.wrap (Int.tdiv ((i : Int)) (32)))) (v' := .int .i64 ((i / 32 : Nat) : Int)) (zR (zAk _ (by omega))) <| zz 2 <| zs 62 (v := .int .i64 (((i + 1 : Nat) : Int) - 1)) (v' := .int .i64 (i : Int)) (zR (by omega)) <| zz 1 <| zs 63 (v := .int .i64 (i64.wrap (Int.tdiv ((i : Int)) (32)))) (v' := .int .i64 ((i / 32 : Nat) : Int)) (zR (zAk _ (by omega))) <| zi (b := b4) (off := 0) (len := N) (cap := N) (kd := .i64) (i := ((i / 32 : Nat) : Int)) 1 (i / 32) ?_
 refine zl (ad := ⟨b4,i / 32,none⟩) (C41.rowCells 0 rfl hrowq (by have := hrowq.len; (try simp only [List.length_set] at *); omega)) <| zz 1 <| zs 66 (v := .int .i64 (((i + 1 : Nat) : Int) - 1)) (v' := .int .i64 (i : Int)) (zR (by omega)) <| zz 1 <| zs 67 (v := .int .i64 (Int.tmod ((i : Int)) (32))) (v' := .int .i64 ((i % 32 : Nat) : Int)) (zR (zEg _)) <| zz 1 <| zs 68 (v := .int .u64 (IntKind.u64.wrap (((i % 32 : Nat) : Int)))) (v' := .int .u64 ((i % 32 : Nat) : Int)) (zR (lW (by omega) (by omega))) <| zop (at1 [K14] Tryz.f141 [1,1,1,1,1,0,1,0,0,1,0,0,1,1,1,0,1]) 11 (fun a42 _ G42 hz42 => zF (d := 69) (v := .int .u32 ((2 ^ (i % 32) : Nat) : Int)) G42 kr (zJh rfl rfl rfl (by omega)) ?_)
 intro a43 G43
 refine hz42 G43 <| zz 1 <| zs 70 (v := .int .u32 (fB ((lq.getD (i / 32) 0 : Nat) : Int) ((2 ^ (i % 32) : Nat) : Int))) (v' := .int .u32 ((lq.getD (i / 32) 0 + 2 ^ (i % 32) : Nat) : Int)) (zR hset1) <| zi (b := b4) (off := 0) (len := N) (cap := N) (kd := .i64) (i := ((i / 32 : Nat) : Int)) 1 (i / 32) <| zop (at1 [K14] Tryz.f141 [1,1,1,1,1,0,1,0,0,1,0,0,1,1,1,0,1]) 14 (fun a44 _ G44 hz44 => sW (y := (lq.getD (i / 32) 0 + 2 ^ (i % 32))) (k := i / 32) (e := ((lq.getD (i / 32) 0 + 2 ^ (i % 32) : Nat) : Int)) 0 G44 C41 (rfl) rfl hrowq (by have := hrowq.len; (try simp only [List.length_set] at *); omega) (hset2) ?_)
 intro cur45 w45 F45 C45 B45
 refine hz44 G44 <| zz 6 <| zs 33 (v := .int .i64 (i64.wrap ((((i + 1 : Nat) : Int) - 1) - 1))) (v' := .int .i64 ((i : Int) - 1)) (zR ((jE (by omega) (by omega)).trans (by omega))) <| zz 2 ?_
 have T7_ := (Le4 B14 B17 B38 B41).trans B45
 refine zP (fun a h => H14 ((i,ad41,len41,cap41)) _ a h ⟨_,cur45,(lq.set (i / 32) (lq.getD (i / 32) 0 + 2 ^ (i % 32))),ls41,(2 * q + 1),C45,T7_,F45,(hL41.mono B45),hcan41,by rw [hset3,hvq,Nat.pow_succ,Nat.mul_add,Nat.mul_one]; congr 1; ac_rfl,zZn hdiv (by rw [hbit]; omega) (by rw [hbit]; omega),by omega,by omega⟩ ?_)
 first | omega | (simp <;> omega)
 have hcmp := dW Q39
 refine zz 7 <| zs 33 (v := .int .i64 (i64.wrap ((((i + 1 : Nat) : Int) - 1) - 1))) (v' := .int .i64 ((i : Int) - 1)) (zR ((jE (by omega) (by omega)).trans (by omega))) <| zz 2 <| zP (fun a h => H14 ((i,ad17,len17,cap17)) _ a h ⟨_,curq,lq,ls17,(2 * q),C38,(Le3 B14 B17 B38),hrowq,(hL17.mono B38),hcan17,by rw [hvq,Nat.pow_succ]; ac_rfl,zUu hdiv (by rw [hbit]; omega),by omega,by omega⟩ ?_)
 first | omega | (simp <;> omega)
 obtain rfl : k = 0 := by omega
 obtain ⟨he1,he2⟩ := zPm hdiv hlt hvq
 refine zz 9 <| zc C14 (zEn _ X0 (zM _) _ _ _ lq (jM.limbs (Y := X0) hrowq (C14.get 0 rfl) (fun _ h => h.elim))) ?_ (vs := #[.slice (some ⟨b4,0,none⟩) N N])
 rintro v47 w47 C47 B47 V47 rfl
 refine zz 6 <| zr' (v := .tuple #[.slice (some ⟨b4,0,none⟩) (kN lq) N,.slice adr lr.length capr]) ?_
 exact ⟨C47.upd,_,rfl,_,_,rfl,⟨_,_,_,rfl,_,jM.limbs (hrowq.trimmed) (C47.get 0 rfl) (fun o h9 => Nat.not_lt.2 (C47.own_ge 0 rfl) (hX _ _ h9)),kR _,by rw [xO]; exact he1⟩,⟨_,_,_,rfl,lr,((hr.mono B47)).mono C47.le,hcanr,he2⟩⟩
set_option maxHeartbeats 1000000
theorem zPb (w : World) (X : Hid) (hX : ∀ k o,X k o → k < w.heap.size) (ad : Option Addr) (len cap : Nat) (l : List Nat) (h : zL (rd w X) ad len cap l) (ad2 : Option Addr) (len2 cap2 : Nat) (l2 : List Nat) (h2 : zL (rd w X) ad2 len2 cap2 l2) (hm : len ≤ 100000) (hm2 : len2 ≤ 100000) (T1 : jC l) (T2 : jC l2) (hd : 0 < val l2)  : Calls Tryz.prog 141 #[.slice ad len cap,.slice ad2 len2 cap2] w (Ret E0 w fun w' v => ∃ u u2,v = .tuple #[u,u2] ∧ aD X w' u (val l / val l2) ∧ aD X w' u2 (val l % val l2)) := by
 rcases Nat.lt_or_ge l.length l2.length with h9 | h9
 ·exact zXd w X hX ad len cap l h ad2 len2 cap2 l2 h2 hm hm2 T1 T2 hd h9
 ·exact zXa w X hX ad len cap l h ad2 len2 cap2 l2 h2 hm hm2 T1 T2 hd (l.length + 1 - l2.length) (by omega) (by omega)
theorem zRw {x lr l2 : List Nat} (hc : jC lr) (h2 : ∀ y ∈ l2,y < 4294967296) (h0 : 0 < val l2) (h : val lr = val x % val l2) : lr.length ≤ l2.length := yC h2 hc (by rw [h]; exact Nat.le_of_lt (Nat.mod_lt _ h0))
theorem gM {l : List Nat} (hc : jC l) (h : 0 < l.length) : 0 < val l := by
 have := sV hc
 omega
theorem zOp (w : World) (X : Hid) (hX : ∀ k o,X k o → k < w.heap.size) (ad : Option Addr) (len cap : Nat) (l : List Nat) (h : zL (rd w X) ad len cap l) (ad2 : Option Addr) (len2 cap2 : Nat) (l2 : List Nat) (h2 : zL (rd w X) ad2 len2 cap2 l2) (hm : len ≤ 100000) (hm2 : len2 ≤ 100000) (T1 : jC l) (T2 : jC l2) : Calls Tryz.prog 140 #[.slice ad len cap,.slice ad2 len2 cap2] w (Ret E0 w fun w' v => aD X w' v (Nat.gcd (val l) (val l2))) := by
 obtain rfl := h.hlen
 obtain rfl := h2.hlen
 have hcap := h.hcap
 have hbig := h.hbig
 have hcap2 := h2.hcap
 have hbig2 := h2.hbig
 refine zen Tryz.func140 ?_
 have C0 : St E0 w X w X [] := St.start hX
 refine zz 7 <| zlp Tryz.f140 [] [1,0,0] (fun ((lb,ad8,la,cap8,ad9,cap9) : List Nat × (Option Addr) × (List Nat) × Nat × (Option Addr) × Nat) => [(0,.slice ad8 la.length cap8),(1,.slice ad9 lb.length cap9)]) (fun ((lb,ad8,la,cap8,ad9,cap9) : List Nat × (Option Addr) × (List Nat) × Nat × (Option Addr) × Nat) w1 => ∃ (Y1 : Hid),St E0 w X w1 Y1 [] ∧ Le (rd w X) (rd w1 Y1) ∧ (zL (rd w1 Y1) ad8 la.length cap8 la) ∧ (zL (rd w1 Y1) ad9 lb.length cap9 lb) ∧ (jC la) ∧ (jC lb) ∧ (la.length ≤ 100000) ∧ (lb.length ≤ 100000) ∧ (Nat.gcd (val la) (val lb) = Nat.gcd (val l) (val l2))) (fun ((lb,ad8,la,cap8,ad9,cap9) : List Nat × (Option Addr) × (List Nat) × Nat × (Option Addr) × Nat) => val lb) (l2,ad,l,cap,ad2,cap2) ?_ ?_
 refine ⟨_,C0,Le.refl _,h,h2,T1,T2,hm,hm2,rfl⟩
 rintro ⟨lb,ad8,la,cap8,ad9,cap9⟩ w2 K2 H2 ⟨Y2,C2,B2,hp2_0,hp2_1,hp2_2,hp2_3,hp2_4,hp2_5,hp2_6⟩
 have ha := hp2_0
 have hb := hp2_1
 have hca := hp2_2
 have hcb := hp2_3
 have hla := hp2_4
 have hlb := hp2_5
 have hg := hp2_6
 refine zz 8 <| zt 9 (p := (lb.length : Int) > 0) (fun Q3 => ?_) (fun Q3 => ?_)
 have hpos := gM hcb (by omega)
 refine zz 8 <| zc C2 (zPb _ _ C2.lt _ _ _ la ha _ _ _ lb hb (by first | omega | (simp; done) | (simp; omega)) (by first | omega | (simp; done) | (simp; omega)) hca hcb hpos) ?_
 rintro v5 w5 C5 B5 V5 ⟨_,_,rfl,⟨ad5,len5,cap5,rfl,ls5,hL5,hcan5,hval5⟩,⟨ae5,le5,ce5,rfl,lr5,hM5,hcam5,hvam5⟩⟩
 obtain rfl := hL5.hlen
 obtain rfl := hM5.hlen
 refine zz 14 ?_
 have hmod := zRw hcam5 hb.hlt hpos hvam5
 have hml := Nat.mod_lt (val la) hpos
 refine zP (fun a h => H2 ((lr5,ad9,lb,cap9,ae5,ce5)) _ a h ⟨_,C5,(Le2 B2 B5),(hb.mono B5),hM5,hcb,hcam5,hlb,by omega,by rw [hvam5,← hg]; exact (Nat.gcd_comm _ _).trans ((Nat.gcd_rec (val lb) (val la)).symm.trans (Nat.gcd_comm _ _))⟩ ?_)
 first | omega | (simp <;> omega)
 have hz : val lb = 0 := by rw [List.eq_nil_of_length_eq_zero (l := lb) (by omega)]; rfl
 rw [hz,Nat.gcd_zero_right] at hg
 refine zz 9 <| zop (at1 [K2] Tryz.f140 [1,1,0]) 1 (fun a6 _ G6 hz6 => zLc (e := 179) (i0 := Tryz.t179) G6 C2 ha (by first | omega | (simp; omega)) ?_)
 intro ad7 cap7 w7 C7 B7 hL7 a8 G8
 refine hz6 G8 <| zz 4 <| zr' (v := .slice ad7 la.length cap7) ?_
 exact ⟨C7.upd,_,rfl,_,_,_,rfl,_,(hL7).mono C7.le,hca,hg⟩
set_option maxHeartbeats 1000000
theorem zCg (w : World) (X : Hid) (hX : ∀ k o,X k o → k < w.heap.size) : Calls Tryz.prog 108 #[] w (Ret E0 w fun w' v => ∃ ad cap,v = .slice ad 1 cap ∧ zL (rd w' X) ad 1 cap [1]) := by
 refine zen Tryz.func108 ?_
 have C0 : St E0 w X w X [] := St.start hX
 refine zz 7 <| zn (fun b => .slice (some ⟨b,0,none⟩) 1 1) (.cells #[.int .u32 1] 179 (0,0)) C0 fun b3 w3 Y3 C3 B3 V3 => zz 4 <| zr' (v := .slice (some ⟨b3,0,none⟩) 1 1) ?_
 have F4 : jM 1 1 #[.int .u32 1] [1] := jM.of [1] (by simp) (by simp [maxLen]) (by simp [U32]) (by simp)
 exact ⟨C3.upd,_,rfl,_,_,rfl,jM.limbs F4 (C3.get 0 rfl) (fun o h9 => Nat.not_lt.2 (C3.own_ge 0 rfl) (hX _ _ h9))⟩
theorem zKi : jC [1] := .inr (by decide)
def zCa (l : List Nat) : List Nat := if l.length = 0 then [1] else l
theorem zUb {l : List Nat} (h : ¬ (l.length : Int) = 0) : zCa l = l := if_neg (by omega)
theorem zVs {l : List Nat} (h : (l.length : Int) = 0) : zCa l = [1] := if_pos (by omega)
theorem zGj {l : List Nat} {k : Nat} (h : l.length ≤ k) (h0 : 0 < k) : (zCa l).length ≤ k := by unfold zCa; split; exact h0; exact h
theorem zEd (a : Raw) (h : jC a.ld) : val (zCa a.ld) = a.d := by
 have h1 := sV h
 unfold zCa Raw.d
 by_cases h2 : a.ld.length = 0
 ·rw [if_pos h2,if_pos (h1.1 h2)]; rfl
 ·rw [if_neg h2,if_neg (fun e => h2 (h1.2 e))]
theorem zEt (w : World) (X : Hid) (hX : ∀ k o,X k o → k < w.heap.size) (a : Raw) (ad : Option Addr) (len cap : Nat) (h : zL (rd w X) ad len cap a.ln) (ad2 : Option Addr) (len2 cap2 : Nat) (h2 : zL (rd w X) ad2 len2 cap2 a.ld) : Calls Tryz.prog 121 #[.agg #[.bool a.neg,.slice ad len cap,.slice ad2 len2 cap2]] w (Ret E0 w fun w' v => ∃ ad len cap,v = .slice ad len cap ∧ zL (rd w' X) ad len cap (zCa a.ld)) := by
 obtain rfl := h.hlen
 obtain rfl := h2.hlen
 have hcap := h.hcap
 have hbig := h.hbig
 have hcap2 := h2.hcap
 have hbig2 := h2.hbig
 refine zen Tryz.func121 ?_
 have C0 : St E0 w X w X [] := St.start hX
 refine zz 2 <| zn pn (.cells #[.bool a.neg,.slice ad a.ln.length cap,.slice ad2 a.ld.length cap2] 28 (0,0)) C0 fun b3 w3 Y3 C3 B3 V3 => zz 7 <| zo 0 C3 <| zz 4 <| zb 6 (b := ((a.ld.length : Int) == 0)) (fun T4 => ?_) (fun T4 => ?_)
 have Q5 : (a.ld.length : Int) = 0 := by simpa using T4
 refine zz 3 <| zc C3 (zCg _ _ C3.lt) ?_
 rintro v7 w7 C7 B7 V7 ⟨ad7,cap7,rfl,hL7⟩
 refine zz 5 <| zr' (v := .slice ad7 1 cap7) ?_
 exact ⟨C7.upd,_,rfl,_,_,_,rfl,by rw [zVs Q5]; exact (hL7).mono C7.le⟩
 have Q8 : (a.ld.length : Int) ≠ 0 := by simpa using T4
 refine zz 6 <| zo 0 C3 <| zz 4 <| zr' (v := .slice ad2 a.ld.length cap2) ?_
 exact ⟨C3.upd,_,rfl,_,_,_,rfl,by rw [zUb Q8]; exact ((h2.mono B3)).mono C3.le⟩
set_option maxHeartbeats 1000000
theorem lL {l : List Nat} (hl : ∀ x ∈ l,x < 4294967296) (hc : jC l) : l = [1] ↔ val l = 1 :=
 ⟨fun h => by rw [h]; rfl,fun h => zJs hl (by intro x hx; simp at hx; omega) hc zKi (h.trans rfl)⟩
theorem qCq (w : World) (X : Hid) (hX : ∀ k o,X k o → k < w.heap.size) (ad : Option Addr) (len cap : Nat) (l : List Nat) (h : zL (rd w X) ad len cap l) (ad2 : Option Addr) (len2 cap2 : Nat) (l2 : List Nat) (h2 : zL (rd w X) ad2 len2 cap2 l2) (sg : Bool) (hm : len ≤ 100000) (hm2 : len2 ≤ 100000) (T1 : jC l) (T2 : jC l2) (hd : 0 < val l2) : Calls Tryz.prog 106 #[.bool sg,.slice ad len cap,.slice ad2 len2 cap2] w (Ret E0 w fun w' v => zCe X w' v (mkRat (sgn sg (val l)) (val l2))) := by
 obtain rfl := h.hlen
 obtain rfl := h2.hlen
 have hcap := h.hcap
 have hbig := h.hbig
 have hcap2 := h2.hcap
 have hbig2 := h2.hbig
 refine zen Tryz.func106 ?_
 have C0 : St E0 w X w X [] := St.start hX
 refine zz 2 <| zn pn (.cells #[.bool false,.slice none 0 0,.slice none 0 0] 28 (0,0)) C0 fun b3 w3 Y3 C3 B3 V3 => zz 10 <| zb 10 (b := ((l.length : Int) == 0)) (fun T4 => ?_) (fun T4 => ?_)
 have Q5 : (l.length : Int) = 0 := by simpa using T4
 refine zz 4 <| zx 0 #[.bool false,.slice none 0 0,.slice none 0 0] C3 fun w6 C6 B6 => zz 4 <| zrS [.cell 6 28] (v := .agg #[.bool false,.slice none 0 0,.slice none 0 0]) (Res.cM C6 0 Res.nil) ?_
 exact ⟨C6.upd,_,rfl,by rw [(sV T1).1 (by omega)]; exact zNe _⟩
 have Q7 : (l.length : Int) ≠ 0 := by simpa using T4
 refine zz 7 <| zc C3 (zOp _ _ C3.lt _ _ _ l (h.mono B3) _ _ _ l2 (h2.mono B3) (by first | omega | (simp; done) | (simp; omega)) (by first | omega | (simp; done) | (simp; omega)) T1 T2) ?_
 rintro v9 w9 C9 B9 V9 ⟨ad9,len9,cap9,rfl,ls9,hL9,hcan9,hval9⟩
 obtain rfl := hL9.hlen
 have hgp : 0 < val ls9 := by rw [hval9]; exact Nat.gcd_pos_of_pos_right _ hd
 have hgl := yC h2.hlt hcan9 (by rw [hval9]; exact Nat.gcd_le_right _ hd)
 refine zz 7 <| zc C9 (zPb _ _ C9.lt _ _ _ l (h.mono (Le2 B3 B9)) _ _ _ ls9 hL9 (by first | omega | (simp; done) | (simp; omega)) (by first | omega | (simp; done) | (simp; omega)) T1 hcan9 hgp) ?_
 rintro v11 w11 C11 B11 V11 ⟨_,_,rfl,⟨ad11,len11,cap11,rfl,ls11,hL11,hcan11,hval11⟩,⟨ae11,le11,ce11,rfl,lr11,hM11,hcam11,hvam11⟩⟩
 obtain rfl := hL11.hlen
 obtain rfl := hM11.hlen
 have hql11 := nW hcan11 (k := 100000) (Nat.lt_of_le_of_lt (hval11 ▸ Nat.div_le_self _ _) ((kC h.hlt T1 100000).1 (by omega)))
 refine zz 10 <| zc C11 (zPb _ _ C11.lt _ _ _ l2 (h2.mono (Le3 B3 B9 B11)) _ _ _ ls9 (hL9.mono B11) (by first | omega | (simp; done) | (simp; omega)) (by first | omega | (simp; done) | (simp; omega)) T2 hcan9 hgp) ?_
 rintro v13 w13 C13 B13 V13 ⟨_,_,rfl,⟨ad13,len13,cap13,rfl,ls13,hL13,hcan13,hval13⟩,⟨ae13,le13,ce13,rfl,lr13,hM13,hcam13,hvam13⟩⟩
 obtain rfl := hL13.hlen
 obtain rfl := hM13.hlen
 have hql13 := nW hcan13 (k := 100000) (Nat.lt_of_le_of_lt (hval13 ▸ Nat.div_le_self _ _) ((kC h2.hlt T2 100000).1 (by omega)))
 refine zz 10 <| zc C13 (zCg _ _ C13.lt) ?_
 rintro v15 w15 C15 B15 V15 ⟨ad15,cap15,rfl,hL15⟩
 refine zc C15 (nP _ _ C15.lt _ _ _ _ (hL13.mono B15) _ _ _ _ hL15) ?_
 rintro v17 w17 C17 B17 V17 rfl
 refine zz 2 <| zb 29 (b := (decide (ls13 = [1]))) (fun T18 => ?_) (fun T18 => ?_)
 have Q19 : ls13 = [1] := of_decide_eq_true T18
 refine zz 11 <| zx 0 #[.bool sg,.slice ad11 ls11.length cap11,.slice none 0 0] C17 fun w20 C20 B20 => zz 3 <| zrS [.cell 6 28] (v := .agg #[.bool sg,.slice ad11 ls11.length cap11,.slice none 0 0]) (Res.cM C20 0 Res.nil) ?_
 have hn0 : val l ≠ 0 := fun e => Q7 (by have := (sV T1).2 e; omega)
 have T1_ := (Le3 B13 B15 B17).trans B20
 exact ⟨C20.upd,_,rfl,zBd hn0 hd ⟨ls11,((hL11.mono T1_)).mono C20.le,hcan11,by rw [← hval9]; exact hval11⟩ (by rw [← hval9,← hval13,(lL hL13.hlt hcan13).1 (by simpa using Q19)]; exact kM.nil none (by omega))⟩
 have Q21 : ¬ (ls13 = [1]) := of_decide_eq_false T18
 refine zz 9 <| zx 0 #[.bool sg,.slice ad11 ls11.length cap11,.slice ad13 ls13.length cap13] C17 fun w22 C22 B22 => zz 3 <| zrS [.cell 6 28] (v := .agg #[.bool sg,.slice ad11 ls11.length cap11,.slice ad13 ls13.length cap13]) (Res.cM C22 0 Res.nil) ?_
 have hn0 : val l ≠ 0 := fun e => Q7 (by have := (sV T1).2 e; omega)
 have T2_ := (Le3 B13 B15 B17).trans B22
 exact ⟨C22.upd,_,rfl,zBd hn0 hd ⟨ls11,((hL11.mono T2_)).mono C22.le,hcan11,by rw [← hval9]; exact hval11⟩ (by rw [← hval9,← hval13,dK,if_neg (fun e => by have := (lL hL13.hlt hcan13).2 e; simp [this] at Q21)]; exact ⟨ls13,((hL13.mono (Le3 B15 B17 B22))).mono C22.le,hcan13,rfl⟩)⟩
set_option maxHeartbeats 1000000
theorem zRp (w : World) (X : Hid) (hX : ∀ k o,X k o → k < w.heap.size) (a : Raw) (ad : Option Addr) (len cap : Nat) (h : zL (rd w X) ad len cap a.ln) (ad2 : Option Addr) (len2 cap2 : Nat) (h2 : zL (rd w X) ad2 len2 cap2 a.ld) : Calls Tryz.prog 101 #[.agg #[.bool a.neg,.slice ad len cap,.slice ad2 len2 cap2]] w (Ret E0 w fun _ v => v = .int .i64 a.chk) := by
 obtain rfl := h.hlen
 obtain rfl := h2.hlen
 have hcap := h.hcap
 have hbig := h.hbig
 have hcap2 := h2.hcap
 have hbig2 := h2.hbig
 refine zen Tryz.func101 ?_
 have C0 : St E0 w X w X [] := St.start hX
 refine zz 2 <| zn pn (.cells #[.bool a.neg,.slice ad a.ln.length cap,.slice ad2 a.ld.length cap2] 28 (0,0)) C0 fun b3 w3 Y3 C3 B3 V3 => zz 7 <| zo 0 C3 <| zz 3 <| zt 7 (p := (a.ln.length : Int) > 128) (fun Q4 => ?_) (fun Q4 => ?_)
 refine zz 15 <| zr' (v := .int .i64 4) ?_
 exact ⟨C3.upd,_,rfl,zR (zQz (by omega)).symm⟩
 refine zz 1 <| zo 0 C3 <| zz 5 <| zt 12 (p := (a.ld.length : Int) > 128) (fun Q5 => ?_) (fun Q5 => ?_)
 refine zz 8 <| zr' (v := .int .i64 4) ?_
 exact ⟨C3.upd,_,rfl,zR (zQz (by omega)).symm⟩
 have hlong : ¬ (128 < a.ln.length ∨ 128 < a.ld.length) := by omega
 refine zz 7 <| zo 0 C3 <| zc C3 (zNf _ X0 (zM _) _ _ _ a.ln ((h.mono B3).mono Le.x0)) ?_
 rintro v7 w7 C7 B7 V7 rfl
 refine zz 2 <| zb 17 (b := ((xX a.ln) != 0)) (fun T8 => ?_) (fun T8 => ?_)
 have Q9 : (xX a.ln) ≠ 0 := by simpa using T8
 refine zz 15 <| zr' (v := .int .i64 2) ?_
 exact ⟨C7.upd,_,rfl,zR (zBa hlong (.inl (by simpa using Q9))).symm⟩
 have Q10 : (xX a.ln) = 0 := by simpa using T8
 have cn : xX a.ln = 0 := by simpa using Q10
 have hcn := (dD cn).2
 have hzn := sV hcn
 refine zz 1 <| zo 0 C7 <| zc C7 (zNf _ X0 (zM _) _ _ _ a.ld ((h2.mono (Le2 B3 B7)).mono Le.x0)) ?_
 rintro v12 w12 C12 B12 V12 rfl
 refine zz 4 <| zb 22 (b := ((xX a.ld) != 0)) (fun T13 => ?_) (fun T13 => ?_)
 have Q14 : (xX a.ld) ≠ 0 := by simpa using T13
 refine zz 8 <| zr' (v := .int .i64 2) ?_
 exact ⟨C12.upd,_,rfl,zR (zBa hlong (.inr (.inl (by simpa using Q14)))).symm⟩
 have Q15 : (xX a.ld) = 0 := by simpa using T13
 have cd : xX a.ld = 0 := by simpa using Q15
 have hcd := (dD cd).2
 have hzd := sV hcd
 refine zz 5 <| zdr C12 <| gz [0] <| gw 1 0 <| gz [2,3,4] <| gb 27 (b := ((a.ln.length : Int) == 0)) (fun T16 => ?_) (fun T16 => ?_)
 have Q17 : (a.ln.length : Int) = 0 := by simpa using T16
 refine gz [5] <| gw 6 0 <| gz [7] <| gb 30 (b := a.neg) (fun T18 => ?_) (fun T18 => ?_)
 have Q19 : a.neg = true := by simpa using T18
 have un : a.neg = true := by simpa using Q19
 refine gz [8,9,10,11,12,13,14,15,16,17,18,19] ?_
 refine yO (fun w20 Y20 C20 B20 => ?_)
 refine zz 9 <| zr' (v := .int .i64 2) ?_
 exact ⟨C20.upd,_,rfl,zR (zBa hlong (.inr (.inr (.inr ⟨by omega,.inl un⟩)))).symm⟩
 have Q21 : a.neg = false := by simpa using T18
 have un : a.neg = false := by simpa using Q21
 refine gz [8] <| gw 9 0 <| gz [10,11,12,13,14] <| gt 37 (p := (a.ld.length : Int) > 0) (fun Q22 => ?_) (fun Q22 => ?_)
 refine gz [15,16,17,18,19] ?_
 refine yO (fun w23 Y23 C23 B23 => ?_)
 refine zz 9 <| zr' (v := .int .i64 2) ?_
 exact ⟨C23.upd,_,rfl,zR (zBa hlong (.inr (.inr (.inr ⟨by omega,.inr (by omega)⟩)))).symm⟩
 refine gz [15] <| gw 16 0 <| gC 17 (fun w24 Y24 _ C24 B24 => (zCg _ _ C24.lt)) ?_
 rintro v25 w24 Y25 w25 C24 B25 ⟨ad25,cap25,rfl,hL25⟩
 have T1_ := (Le3 B3 B7 B12).trans B25
 refine gC 18 (fun w26 Y26 _ C26 B26 => (nP _ _ C26.lt _ _ _ _ (h2.mono (T1_.trans B26)) _ _ _ _ (hL25.mono B26))) ?_
 rintro v27 w26 Y27 w27 C26 B27 rfl
 refine gz [19] ?_
 refine yO (fun w28 Y28 C28 B28 => ?_)
 refine zz 1 <| zb 42 (b := (decide (a.ld = [1]))) (fun T29 => ?_) (fun T29 => ?_)
 have Q30 : a.ld = [1] := of_decide_eq_true T29
 have u1 : val a.ld = 1 := (lL h2.hlt hcd).1 (by simpa using Q30)
 refine zz 8 <| zr' (v := .int .i64 2) ?_
 exact ⟨C28.upd,_,rfl,zR (zBa hlong (.inr (.inr (.inl u1)))).symm⟩
 have Q31 : ¬ (a.ld = [1]) := of_decide_eq_false T29
 have u1 : val a.ld ≠ 1 := fun e => absurd ((lL h2.hlt hcd).2 e) (by simpa using Q31)
 have hok : ¬ (xX a.ln ≠ 0 ∨ xX a.ld ≠ 0 ∨ val a.ld = 1 ∨ (val a.ln = 0 ∧ (a.neg = true ∨ 0 < val a.ld))) := by rintro (e | e | e | ⟨e,e2 | e2⟩); exact e cn; exact e cd; exact u1 e; (first | omega | (rw [un] at e2; cases e2)); omega
 refine zz 7 <| zo 0 C28 <| zz 3 <| zt 47 (p := (a.ld.length : Int) > 0) (fun Q32 => ?_) (fun Q32 => ?_)
 have hdp : 0 < val a.ld := by omega
 refine zz 1 <| zo 0 C28 <| zz 1 <| zo 0 C28 ?_
 have T2_ := (T1_.trans B27).trans B28
 refine zc C28 (zOp _ _ C28.lt _ _ _ a.ln (h.mono T2_) _ _ _ a.ld (h2.mono T2_) (by first | omega | (simp; done) | (simp; omega)) (by first | omega | (simp; done) | (simp; omega)) hcn hcd) ?_
 rintro v34 w34 C34 B34 V34 ⟨ad34,len34,cap34,rfl,ls34,hL34,hcan34,hval34⟩
 obtain rfl := hL34.hlen
 refine zc C34 (zCg _ _ C34.lt) ?_
 rintro v36 w36 C36 B36 V36 ⟨ad36,cap36,rfl,hL36⟩
 refine zc C36 (nP _ _ C36.lt _ _ _ _ (hL34.mono B36) _ _ _ _ hL36) ?_
 rintro v38 w38 C38 B38 V38 rfl
 refine zz 4 <| zb 56 (b := !(decide (ls34 = [1]))) (fun T39 => ?_) (fun T39 => ?_)
 have Q40 : ¬ (ls34 = [1]) := by simpa using T39
 have ug : Nat.gcd (val a.ln) (val a.ld) ≠ 1 := by rw [← hval34]; exact fun e => absurd ((lL hL34.hlt hcan34).2 e) (by simpa using Q40)
 refine zz 8 <| zr' (v := .int .i64 2) ?_
 exact ⟨C38.upd,_,rfl,zR (zQx hlong hok ⟨by omega,ug⟩).symm⟩
 have Q41 : ls34 = [1] := by simpa using T39
 have ug : Nat.gcd (val a.ln) (val a.ld) = 1 := by rw [← hval34]; exact (lL hL34.hlt hcan34).1 (by simpa using Q41)
 refine zz 9 <| zr' (v := .int .i64 0) ?_
 exact ⟨C38.upd,_,rfl,zR (zFg hlong hok (fun hh => hh.2 ug)).symm⟩
 refine zz 20 <| zr' (v := .int .i64 0) ?_
 exact ⟨C28.upd,_,rfl,zR (zFg hlong hok (fun hh => by omega)).symm⟩
 have Q42 : (a.ln.length : Int) ≠ 0 := by simpa using T16
 refine gz [5,6,7,8,9,10,11,12,13,14,15] <| gw 16 0 <| gC 17 (fun w43 Y43 _ C43 B43 => (zCg _ _ C43.lt)) ?_
 rintro v44 w43 Y44 w44 C43 B44 ⟨ad44,cap44,rfl,hL44⟩
 have T3_ := (Le3 B3 B7 B12).trans B44
 refine gC 18 (fun w45 Y45 _ C45 B45 => (nP _ _ C45.lt _ _ _ _ (h2.mono (T3_.trans B45)) _ _ _ _ (hL44.mono B45))) ?_
 rintro v46 w45 Y46 w46 C45 B46 rfl
 refine gz [19] ?_
 refine yO (fun w47 Y47 C47 B47 => ?_)
 refine zz 1 <| zb 42 (b := (decide (a.ld = [1]))) (fun T48 => ?_) (fun T48 => ?_)
 have Q49 : a.ld = [1] := of_decide_eq_true T48
 have u1 : val a.ld = 1 := (lL h2.hlt hcd).1 (by simpa using Q49)
 refine zz 8 <| zr' (v := .int .i64 2) ?_
 exact ⟨C47.upd,_,rfl,zR (zBa hlong (.inr (.inr (.inl u1)))).symm⟩
 have Q50 : ¬ (a.ld = [1]) := of_decide_eq_false T48
 have u1 : val a.ld ≠ 1 := fun e => absurd ((lL h2.hlt hcd).2 e) (by simpa using Q50)
 have hok : ¬ (xX a.ln ≠ 0 ∨ xX a.ld ≠ 0 ∨ val a.ld = 1 ∨ (val a.ln = 0 ∧ (a.neg = true ∨ 0 < val a.ld))) := by rintro (e | e | e | ⟨e,e2 | e2⟩); exact e cn; exact e cd; exact u1 e; (first | omega | (rw [un] at e2; cases e2)); omega
 refine zz 7 <| zo 0 C47 <| zz 3 <| zt 47 (p := (a.ld.length : Int) > 0) (fun Q51 => ?_) (fun Q51 => ?_)
 have hdp : 0 < val a.ld := by omega
 refine zz 1 <| zo 0 C47 <| zz 1 <| zo 0 C47 ?_
 have T4_ := (T3_.trans B46).trans B47
 refine zc C47 (zOp _ _ C47.lt _ _ _ a.ln (h.mono T4_) _ _ _ a.ld (h2.mono T4_) (by first | omega | (simp; done) | (simp; omega)) (by first | omega | (simp; done) | (simp; omega)) hcn hcd) ?_
 rintro v53 w53 C53 B53 V53 ⟨ad53,len53,cap53,rfl,ls53,hL53,hcan53,hval53⟩
 obtain rfl := hL53.hlen
 refine zc C53 (zCg _ _ C53.lt) ?_
 rintro v55 w55 C55 B55 V55 ⟨ad55,cap55,rfl,hL55⟩
 refine zc C55 (nP _ _ C55.lt _ _ _ _ (hL53.mono B55) _ _ _ _ hL55) ?_
 rintro v57 w57 C57 B57 V57 rfl
 refine zz 4 <| zb 56 (b := !(decide (ls53 = [1]))) (fun T58 => ?_) (fun T58 => ?_)
 have Q59 : ¬ (ls53 = [1]) := by simpa using T58
 have ug : Nat.gcd (val a.ln) (val a.ld) ≠ 1 := by rw [← hval53]; exact fun e => absurd ((lL hL53.hlt hcan53).2 e) (by simpa using Q59)
 refine zz 8 <| zr' (v := .int .i64 2) ?_
 exact ⟨C57.upd,_,rfl,zR (zQx hlong hok ⟨by omega,ug⟩).symm⟩
 have Q60 : ls53 = [1] := by simpa using T58
 have ug : Nat.gcd (val a.ln) (val a.ld) = 1 := by rw [← hval53]; exact (lL hL53.hlt hcan53).1 (by simpa using Q60)
 refine zz 9 <| zr' (v := .int .i64 0) ?_
 exact ⟨C57.upd,_,rfl,zR (zFg hlong hok (fun hh => hh.2 ug)).symm⟩
 refine zz 20 <| zr' (v := .int .i64 0) ?_
 exact ⟨C47.upd,_,rfl,zR (zFg hlong hok (fun hh => by omega)).symm⟩
section
variable (w : World) (X : Hid) (hX : ∀ k o,X k o → k < w.heap.size)
set_option maxHeartbeats 1000000
include hX in
theorem zMk (ad : Option Addr) (len cap : Nat) (l : List Nat) (h : zL (rd w X) ad len cap l) (hm : len * 4 ≤ 140737488351232) : Calls Tryz.prog 119 #[.slice ad len cap] w (Ret E0 w fun w' v => ∃ ad len cap,v = .slice ad len cap ∧ zL (rd w' X) ad len cap l) := by
 obtain rfl := h.hlen
 have hcap := h.hcap
 have hbig := h.hbig
 refine zen Tryz.func119 ?_
 have C0 : St E0 w X w X [] := St.start hX
 refine zz 17 <| zlp Tryz.f119 [] [1,1,0,1,0] (fun ((k,adr,capr) : Nat × (Option Addr) × Nat) => [(0,.slice ad l.length cap),(3,.slice adr k capr),(4,.int .i64 (k : Int))]) (fun ((k,adr,capr) : Nat × (Option Addr) × Nat) w1 => ∃ (Y1 : Hid) (rb1 : List (Nat × Obj)),St E0 w X w1 Y1 (rb1) ∧ Le (rd w X) (rd w1 Y1) ∧ (mK 179 1 rb1 adr k capr (U32 (l.take k))) ∧ (k ≤ l.length)) (fun ((k,adr,capr) : Nat × (Option Addr) × Nat) => l.length - k) (0,none,0) ?_ ?_
 refine ⟨_,[],C0,Le.refl _,mK.nil _ _,Nat.zero_le _⟩
 rintro ⟨k,adr,capr⟩ w2 K2 H2 ⟨Y2,rb1,C2,B2,hp2_0,hp2_1⟩
 have hr1 := hp2_0
 have hkl := hp2_1
 refine zz 9 <| zt 8 (p := (k : Int) < (l.length : Int)) (fun Q3 => ?_) (fun Q3 => ?_)
 obtain ⟨b1,off1,rfl,_⟩ := h.addr (by omega)
 have hx1 := getD_some (l := l) (k := k) (by omega)
 refine zz 9 <| zi (b := b1) (off := off1) (len := l.length) (cap := cap) (kd := .i64) (i := (k : Int)) 1 (off1 + k) <| zl ((h.cell (i := k) (by omega)).mono B2).cells <| zn (fun b => .slice (some ⟨b,0,none⟩) 1 1) (.cells #[.int .u32 ((l.getD k 0 : Nat) : Int)] 179 (0,0)) C2 fun b5 w5 Y5 C5 B5 V5 => zop (at1 [K2] Tryz.f119 [1,1,0,1,0,0,1,0,0]) 6 (fun a6 _ G6 hz6 => tK (b := 4) (m := 1) (c := 1) (ad := ⟨b5,0,none⟩) (news := [.int .u32 ((l.getD k 0 : Nat) : Int)]) (i0 := Tryz.t179) (R1 := []) 1 G6 C5 rfl hr1 (C5.cells 0 rfl rfl) (by omega) (by omega) ?_)
 intro rb7 ad7 cap7 w7 Y7 F7 C7 B7 a8 G8
 have hrw7 : mK 179 1 rb7 ad7 (k + 1) cap7 (U32 (l.take k ++ [l.getD k 0])) := by rw [← zGs]; exact F7
 refine hz6 G8 <| zz 7 <| zw 10 (x := (k : Int) + 1) <| zz 2 <| zP (fun a h => H2 ((k + 1,ad7,cap7)) _ a h ⟨_,rb7,C7.tail,(Le3 B2 B5 B7),by rw [zEp hx1]; exact hrw7,by omega⟩ ?_)
 first | omega | (simp <;> omega)
 refine zz 13 <| zr' (v := .slice adr k capr) ?_
 have hlt := h.hlt
 have htk : l.take k = l := List.take_of_length_le (by omega)
 rw [htk] at hr1
 obtain ⟨Yz,hSz,hlez,hRz⟩ := St.pubLimbs (A := []) (B := []) (fun rb => rb) C2 (fun _ => by simp) hr1 (by omega) hlt
 exact ⟨hSz.upd,_,rfl,_,_,_,rfl,hRz.mono hSz.le⟩
include hX in
theorem zKb (ad : Option Addr) (len cap : Nat) (l : List Nat) (h : zL (rd w X) ad len cap l) (hm : len * 4 ≤ 140737488351232) : Calls Tryz.prog 86 #[.slice ad len cap] w (Ret E0 w fun w' v => ∃ ad len cap,v = .slice ad len cap ∧ zL (rd w' X) ad len cap l) := by
 obtain rfl := h.hlen
 have hcap := h.hcap
 have hbig := h.hbig
 refine zen Tryz.func86 ?_
 have C0 : St E0 w X w X [] := St.start hX
 refine zz 8 <| zc C0 (zMk _ _ C0.lt _ _ _ _ h (by omega)) ?_
 rintro v3 w3 C3 B3 V3 ⟨ad3,len3,cap3,rfl,hN3⟩
 refine zz 4 <| zr' (v := .slice ad3 len3 cap3) ?_
 exact ⟨C3.upd,_,rfl,_,_,_,rfl,hN3.mono C3.le⟩
include hX in
theorem zRj (a : Raw) (ad₁ : Option Addr) (len₁ cap₁ : Nat) (h₁ : zL (rd w X) ad₁ len₁ cap₁ a.ln) (ae₁ : Option Addr) (le₁ ce₁ : Nat) (k₁ : zL (rd w X) ae₁ le₁ ce₁ a.ld) (hm : len₁ * 4 ≤ 140737488351232) (hm2 : le₁ * 4 ≤ 140737488351232) : Calls Tryz.prog 46 #[.agg #[.bool a.neg,.slice ad₁ len₁ cap₁,.slice ae₁ le₁ ce₁]] w (Ret E0 w fun w' v => zFb X w' v a) := by
 refine zen Tryz.func46 ?_
 have C0 : St E0 w X w X [] := St.start hX
 refine zz 2 <| zn pn (.cells #[.bool a.neg,.slice ad₁ len₁ cap₁,.slice ae₁ le₁ ce₁] 28 (0,0)) C0 fun b3 w3 Y3 C3 B3 V3 => zn pn (.cells #[.bool false,.slice none 0 0,.slice none 0 0] 28 (0,0)) C3 fun b5 w5 Y5 C5 B5 V5 => zz 3 <| zdr C5 <| gz [0] <| gw 1 1 <| gz [2] <| gw 3 1 ?_
 refine gz [5] <| gw 6 1 <| gC 4 (fun w6 Y6 _ C6 B6 => (zKb _ _ C6.lt _ _ _ _ (h₁.mono (Le3 B3 B5 B6)) (by omega))) ?_
 rintro v7 w6 Y7 w7 C6 B7 ⟨ad7,len7,cap7,rfl,hN7⟩
 have T1_ := (Le2 B3 B5).trans B7
 refine gC 7 (fun w8 Y8 _ C8 B8 => (zKb _ _ C8.lt _ _ _ _ (k₁.mono (T1_.trans B8)) (by omega))) ?_
 rintro v9 w8 Y9 w9 C8 B9 ⟨ad9,len9,cap9,rfl,hN9⟩
 refine gz [8] <| gX 9 0 #[.bool a.neg,.slice ad7 len7 cap7,.slice ad9 len9 cap9] fun w10 Y10 B10 => ?_
 refine yO (fun w11 Y11 C11 B11 => ?_)
 refine zz 2 <| zrS [.cell 2 28] (v := .agg #[.bool a.neg,.slice ad7 len7 cap7,.slice ad9 len9 cap9]) (Res.cM C11 0 Res.nil) ?_
 exact ⟨C11.upd,_,rfl,⟨_,_,_,_,_,_,rfl,(hN7.mono (Le3 B9 B10 B11)).mono C11.le,(hN9.mono (Le2 B10 B11)).mono C11.le⟩⟩
end
set_option maxHeartbeats 1000000
theorem zAf {l l2 l3 : List Nat} (k : Nat) (hc : jC l3) (h : val l3 = val l * val l2) (h1 : ∀ x ∈ l,x < 4294967296) (h2 : ∀ x ∈ l2,x < 4294967296) (k1 : l.length ≤ k) (k2 : l2.length ≤ k) : l3.length ≤ k + k :=
 nW hc (by rw [h,Nat.pow_add]; exact Nat.mul_lt_mul'' (Nat.lt_of_lt_of_le (wZ h1) (Nat.pow_le_pow_right (by omega) k1)) (Nat.lt_of_lt_of_le (wZ h2) (Nat.pow_le_pow_right (by omega) k2)))
def Vr (a : Raw) : Prop := jC a.ln ∧ jC a.ld ∧ a.ln.length ≤ 1000 ∧ a.ld.length ≤ 1000
theorem zJr (w : World) (X : Hid) (hX : ∀ k o,X k o → k < w.heap.size) (ad : Option Addr) (len cap : Nat) (l : List Nat) (h : zL (rd w X) ad len cap l) (ad2 : Option Addr) (len2 cap2 : Nat) (l2 : List Nat) (h2 : zL (rd w X) ad2 len2 cap2 l2) (sg : Bool) (hm : len ≤ 100000) (hm2 : len2 ≤ 100000) (T1 : jC l) (T2 : jC l2) (hd : 0 < val l2) (z : Rat) (hz : mkRat (sgn sg (val l)) (val l2) = z) : Calls Tryz.prog 106 #[.bool sg,.slice ad len cap,.slice ad2 len2 cap2] w (Ret E0 w fun w' v => zCe X w' v z) := by
 subst hz; exact qCq w X hX ad len cap l h ad2 len2 cap2 l2 h2 sg hm hm2 T1 T2 hd
theorem qDh (a b : Raw) : mkRat (sgn (a.neg != b.neg) (val a.ln * val b.ln)) (a.d * b.d) = a.rat * b.rat := by
 unfold Raw.rat; rw [Rat.mkRat_mul_mkRat]; congr 1; cases a.neg <;> cases b.neg <;> simp [sgn,Int.neg_mul,Int.mul_neg]
theorem zBl {l : List Nat} (h : ∀ x ∈ l,x < 4294967296) : ∀ x ∈ zCa l,x < 4294967296 := by unfold zCa; split; (intro x hx; simp at hx; omega); exact h
theorem zTp (w : World) (X : Hid) (hX : ∀ k o,X k o → k < w.heap.size) (a : Raw) (ad₁ : Option Addr) (len₁ cap₁ : Nat) (h₁ : zL (rd w X) ad₁ len₁ cap₁ a.ln) (ae₁ : Option Addr) (le₁ ce₁ : Nat) (k₁ : zL (rd w X) ae₁ le₁ ce₁ a.ld) (b : Raw) (ad₂ : Option Addr) (len₂ cap₂ : Nat) (h₂ : zL (rd w X) ad₂ len₂ cap₂ b.ln) (ae₂ : Option Addr) (le₂ ce₂ : Nat) (k₂ : zL (rd w X) ae₂ le₂ ce₂ b.ld) (va : Vr a) (vb : Vr b) : Calls Tryz.prog 88 #[.agg #[.bool a.neg,.slice ad₁ len₁ cap₁,.slice ae₁ le₁ ce₁],.agg #[.bool b.neg,.slice ad₂ len₂ cap₂,.slice ae₂ le₂ ce₂]] w (Ret E0 w fun w' v => zCe X w' v (a.rat * b.rat)) := by
 refine zen Tryz.func88 ?_
 have C0 : St E0 w X w X [] := St.start hX
 obtain ⟨hca,hda,hla,hma⟩ := va
 obtain ⟨hcb,hdb,hlb,hmb⟩ := vb
 have lh₁ := h₁.hlen
 have lk₁ := k₁.hlen
 have lh₂ := h₂.hlen
 have lk₂ := k₂.hlen
 have dla := zGj hma (by omega)
 have dva := zEd a hda
 have dpa := Raw.d_pos a
 have dlb := zGj hmb (by omega)
 have dvb := zEd b hdb
 have dpb := Raw.d_pos b
 refine zz 2 <| zn pn (.cells #[.bool a.neg,.slice ad₁ len₁ cap₁,.slice ae₁ le₁ ce₁] 28 (0,0)) C0 fun b3 w3 Y3 C3 B3 V3 => zn pn (.cells #[.bool b.neg,.slice ad₂ len₂ cap₂,.slice ae₂ le₂ ce₂] 28 (0,0)) C3 fun b5 w5 Y5 C5 B5 V5 => zn pn (.cells #[.bool false,.slice none 0 0,.slice none 0 0] 28 (0,0)) C5 fun b7 w7 Y7 C7 B7 V7 => zz 3 <| zdr C7 <| gz [0] <| gw 1 2 <| gz [2] ?_
 refine gw 3 1 <| gz [4,5] <| gw 6 2 <| gz [7] <| gw 8 1 <| gw 10 2 <| gw 12 1 ?_
 have T1_ := (Le2 B3 B5).trans B7
 refine gC 9 (fun w8 Y8 _ C8 B8 => (zDq _ _ C8.lt _ _ _ a.ln (h₁.mono (T1_.trans B8)) _ _ _ b.ln (h₂.mono (T1_.trans B8)) (by first | omega | (simp; done) | (simp; omega)) (by first | omega | (simp; done) | (simp; omega)))) ?_
 rintro v9 w8 Y9 w9 C8 B9 ⟨ad9,len9,cap9,rfl,ls9,hL9,hcan9,hval9⟩
 have hlen9 := hL9.hlen
 have T2_ := T1_.trans B9
 refine gC 11 (fun w10 Y10 _ C10 B10 => (zEt _ _ C10.lt a _ _ _ (h₁.mono (T2_.trans B10)) _ _ _ (k₁.mono (T2_.trans B10)))) ?_
 rintro v11 w10 Y11 w11 C10 B11 ⟨ad11,len11,cap11,rfl,hL11⟩
 obtain rfl := hL11.hlen
 have T3_ := T2_.trans B11
 refine gC 13 (fun w12 Y12 _ C12 B12 => (zEt _ _ C12.lt b _ _ _ (h₂.mono (T3_.trans B12)) _ _ _ (k₂.mono (T3_.trans B12)))) ?_
 rintro v13 w12 Y13 w13 C12 B13 ⟨ad13,len13,cap13,rfl,hL13⟩
 obtain rfl := hL13.hlen
 refine gC 14 (fun w14 Y14 _ C14 B14 => (zDq _ _ C14.lt _ _ _ (zCa a.ld) (hL11.mono (Le2 B13 B14)) _ _ _ (zCa b.ld) (hL13.mono B14) (by first | omega | (simp; done) | (simp; omega)) (by first | omega | (simp; done) | (simp; omega)))) ?_
 rintro v15 w14 Y15 w15 C14 B15 ⟨ad15,len15,cap15,rfl,ls15,hL15,hcan15,hval15⟩
 have hlen15 := hL15.hlen
 have T4_ := (Le2 B11 B13).trans B15
 refine gC 15 (fun w16 Y16 _ C16 B16 => (zJr _ _ C16.lt _ _ _ ls9 (hL9.mono (T4_.trans B16)) _ _ _ ls15 (hL15.mono B16) _ (by have := zAf 1000 hcan9 hval9 h₁.hlt h₂.hlt hla hlb; omega) (by have := zAf 1000 hcan15 hval15 (zBl k₁.hlt) (zBl k₂.hlt) dla dlb; omega) hcan9 hcan15 (by rw [hval15,dva,dvb]; exact Nat.mul_pos dpa dpb) (a.rat * b.rat) (by rw [hval9,hval15,dva,dvb]; exact qDh a b))) ?_
 rintro v17 w16 Y17 w17 C16 B17 ⟨ad17,len17,cap17,ae17,le17,ce17,rfl,hN17,hD17⟩
 refine gX 16 0 #[.bool (decide ((a.rat * b.rat).num < 0)),.slice ad17 len17 cap17,.slice ae17 le17 ce17] fun w18 Y18 B18 => ?_
 refine yO (fun w19 Y19 C19 B19 => ?_)
 refine zz 2 <| zrS [.cell 4 28] (v := .agg #[.bool (decide ((a.rat * b.rat).num < 0)),.slice ad17 len17 cap17,.slice ae17 le17 ce17]) (Res.cM C19 0 Res.nil) ?_
 exact ⟨C19.upd,_,rfl,_,_,_,_,_,_,rfl,hN17.mono (Le.trans (Le2 B18 B19) C19.le),hD17.mono (Le.trans (Le2 B18 B19) C19.le)⟩
set_option maxHeartbeats 1000000
theorem zLm {l l2 l3 : List Nat} (k : Nat) (hc : jC l3) (h : val l3 ≤ val l + val l2) (h1 : ∀ x ∈ l,x < 4294967296) (h2 : ∀ x ∈ l2,x < 4294967296) (k1 : l.length ≤ k) (k2 : l2.length ≤ k) : l3.length ≤ k + 1 :=
 nW hc (by
  have e1 := Nat.lt_of_lt_of_le (wZ h1) (Nat.pow_le_pow_right (by omega) k1)
  have e2 := Nat.lt_of_lt_of_le (wZ h2) (Nat.pow_le_pow_right (by omega) k2)
  rw [Nat.pow_succ]; omega)
theorem zMj (s : Bool) (n d : Nat) : sgn s n * (d : Int) = sgn s (n * d) := by cases s <;> simp [sgn,Int.neg_mul]
theorem zIj (a b : Raw) {z : Int} (h : sgn a.neg (val a.ln * b.d) + sgn b.neg (val b.ln * a.d) = z) : mkRat z (a.d * b.d) = a.rat + b.rat := by
 have h1 := Raw.d_pos a
 have h2 := Raw.d_pos b
 unfold Raw.rat; rw [Rat.mkRat_add_mkRat _ _ (by omega) (by omega),zMj,zMj,h]
theorem zYw {s t : Bool} {p q : Nat} (h : s = t) : sgn s p + sgn t q = sgn s (p + q) := by subst h; cases s <;> simp [sgn] <;> omega
theorem zWx {s t : Bool} {p q : Nat} (h : s ≠ t) (k : q ≤ p) : sgn s p + sgn t q = sgn s (p - q) := by cases s <;> cases t <;> simp [sgn] at * <;> omega
theorem zXt {s t : Bool} {p q : Nat} (h : s ≠ t) (k : p < q) : sgn s p + sgn t q = sgn t (q - p) := by cases s <;> cases t <;> simp [sgn] at * <;> omega
theorem zYr (w : World) (X : Hid) (hX : ∀ k o,X k o → k < w.heap.size) (a : Raw) (ad₁ : Option Addr) (len₁ cap₁ : Nat) (h₁ : zL (rd w X) ad₁ len₁ cap₁ a.ln) (ae₁ : Option Addr) (le₁ ce₁ : Nat) (k₁ : zL (rd w X) ae₁ le₁ ce₁ a.ld) (b : Raw) (ad₂ : Option Addr) (len₂ cap₂ : Nat) (h₂ : zL (rd w X) ad₂ len₂ cap₂ b.ln) (ae₂ : Option Addr) (le₂ ce₂ : Nat) (k₂ : zL (rd w X) ae₂ le₂ ce₂ b.ld) (va : Vr a) (vb : Vr b) : Calls Tryz.prog 87 #[.agg #[.bool a.neg,.slice ad₁ len₁ cap₁,.slice ae₁ le₁ ce₁],.agg #[.bool b.neg,.slice ad₂ len₂ cap₂,.slice ae₂ le₂ ce₂]] w (Ret E0 w fun w' v => zCe X w' v (a.rat + b.rat)) := by
 refine zen Tryz.func87 ?_
 have C0 : St E0 w X w X [] := St.start hX
 obtain ⟨hca,hda,hla,hma⟩ := va
 obtain ⟨hcb,hdb,hlb,hmb⟩ := vb
 have lh₁ := h₁.hlen
 have lk₁ := k₁.hlen
 have lh₂ := h₂.hlen
 have lk₂ := k₂.hlen
 have dla := zGj hma (by omega)
 have dva := zEd a hda
 have dpa := Raw.d_pos a
 have dlb := zGj hmb (by omega)
 have dvb := zEd b hdb
 have dpb := Raw.d_pos b
 refine zz 2 <| zn pn (.cells #[.bool a.neg,.slice ad₁ len₁ cap₁,.slice ae₁ le₁ ce₁] 28 (0,0)) C0 fun b3 w3 Y3 C3 B3 V3 => zn pn (.cells #[.bool b.neg,.slice ad₂ len₂ cap₂,.slice ae₂ le₂ ce₂] 28 (0,0)) C3 fun b5 w5 Y5 C5 B5 V5 => zn pn (.cells #[.bool false,.slice none 0 0,.slice none 0 0] 28 (0,0)) C5 fun b7 w7 Y7 C7 B7 V7 => zz 3 <| zdr C7 <| gz [0] <| gw 1 2 <| gw 2 1 ?_
 have T1_ := (Le2 B3 B5).trans B7
 refine gC 3 (fun w8 Y8 _ C8 B8 => (zEt _ _ C8.lt b _ _ _ (h₂.mono (T1_.trans B8)) _ _ _ (k₂.mono (T1_.trans B8)))) ?_
 rintro v9 w8 Y9 w9 C8 B9 ⟨ad9,len9,cap9,rfl,hL9⟩
 obtain rfl := hL9.hlen
 have T2_ := T1_.trans B9
 refine gC 4 (fun w10 Y10 _ C10 B10 => (zDq _ _ C10.lt _ _ _ a.ln (h₁.mono (T2_.trans B10)) _ _ _ (zCa b.ld) (hL9.mono B10) (by first | omega | (simp; done) | (simp; omega)) (by first | omega | (simp; done) | (simp; omega)))) ?_
 rintro v11 w10 Y11 w11 C10 B11 ⟨ad11,len11,cap11,rfl,ls11,hL11,hcan11,hval11⟩
 have hlen11 := hL11.hlen
 have pl11 := zAf 1000 hcan11 hval11 h₁.hlt (zBl k₂.hlt) hla dlb
 rw [dvb] at hval11
 refine gz [5] ?_
 refine yO (fun w12 Y12 C12 B12 => ?_)
 refine zz 2 <| zdr C12 <| gz [0] <| gw 1 1 <| gw 2 2 ?_
 have T3_ := (T2_.trans B11).trans B12
 refine gC 3 (fun w13 Y13 _ C13 B13 => (zEt _ _ C13.lt a _ _ _ (h₁.mono (T3_.trans B13)) _ _ _ (k₁.mono (T3_.trans B13)))) ?_
 rintro v14 w13 Y14 w14 C13 B14 ⟨ad14,len14,cap14,rfl,hL14⟩
 obtain rfl := hL14.hlen
 have T4_ := T3_.trans B14
 refine gC 4 (fun w15 Y15 _ C15 B15 => (zDq _ _ C15.lt _ _ _ b.ln (h₂.mono (T4_.trans B15)) _ _ _ (zCa a.ld) (hL14.mono B15) (by first | omega | (simp; done) | (simp; omega)) (by first | omega | (simp; done) | (simp; omega)))) ?_
 rintro v16 w15 Y16 w16 C15 B16 ⟨ad16,len16,cap16,rfl,ls16,hL16,hcan16,hval16⟩
 have hlen16 := hL16.hlen
 have pl16 := zAf 1000 hcan16 hval16 h₂.hlt (zBl k₁.hlt) hlb dla
 rw [dva] at hval16
 refine gz [5] ?_
 refine yO (fun w17 Y17 C17 B17 => ?_)
 refine zz 2 <| zdr C17 <| gw 0 2 <| gw 2 1 ?_
 have T5_ := (T4_.trans B16).trans B17
 refine gC 1 (fun w18 Y18 _ C18 B18 => (zEt _ _ C18.lt a _ _ _ (h₁.mono (T5_.trans B18)) _ _ _ (k₁.mono (T5_.trans B18)))) ?_
 rintro v19 w18 Y19 w19 C18 B19 ⟨ad19,len19,cap19,rfl,hL19⟩
 obtain rfl := hL19.hlen
 have T6_ := T5_.trans B19
 refine gC 3 (fun w20 Y20 _ C20 B20 => (zEt _ _ C20.lt b _ _ _ (h₂.mono (T6_.trans B20)) _ _ _ (k₂.mono (T6_.trans B20)))) ?_
 rintro v21 w20 Y21 w21 C20 B21 ⟨ad21,len21,cap21,rfl,hL21⟩
 obtain rfl := hL21.hlen
 refine gC 4 (fun w22 Y22 _ C22 B22 => (zDq _ _ C22.lt _ _ _ (zCa a.ld) (hL19.mono (Le2 B21 B22)) _ _ _ (zCa b.ld) (hL21.mono B22) (by first | omega | (simp; done) | (simp; omega)) (by first | omega | (simp; done) | (simp; omega)))) ?_
 rintro v23 w22 Y23 w23 C22 B23 ⟨ad23,len23,cap23,rfl,ls23,hL23,hcan23,hval23⟩
 have hlen23 := hL23.hlen
 have pl23 := zAf 1000 hcan23 hval23 (zBl k₁.hlt) (zBl k₂.hlt) dla dlb
 rw [dva,dvb] at hval23
 refine gz [5] ?_
 refine yO (fun w24 Y24 C24 B24 => ?_)
 refine zz 5 <| zo 2 C24 <| zz 1 <| zo 1 C24 <| zz 3 <| zb 27 (b := (a.neg == b.neg)) (fun T25 => ?_) (fun T25 => ?_)
 have Q26 : a.neg = b.neg := by simpa using T25
 have hne : a.neg = b.neg := by simpa using Q26
 refine zz 2 <| zdr C24 <| gz [0] <| gw 1 2 <| gz [2,3,5] ?_
 have T7_ := (Le7 B12 B14 B16 B17 B19 B21 B23).trans B24
 have T8_ := (Le4 B17 B19 B21 B23).trans B24
 refine gC 4 (fun w27 Y27 _ C27 B27 => (zPc _ _ C27.lt _ _ _ ls11 (hL11.mono (T7_.trans B27)) _ _ _ ls16 (hL16.mono (T8_.trans B27)) (by first | omega | (simp; done) | (simp; omega)) (by first | omega | (simp; done) | (simp; omega)))) ?_
 rintro v28 w27 Y28 w28 C27 B28 ⟨ad28,len28,cap28,rfl,ls28,hL28,hcan28,hval28⟩
 have hlen28 := hL28.hlen
 have pl28 := zLm 2000 hcan28 (by omega) hL11.hlt hL16.hlt pl11 pl16
 refine gC 6 (fun w29 Y29 _ C29 B29 => (zJr _ _ C29.lt _ _ _ ls28 (hL28.mono B29) _ _ _ ls23 (hL23.mono (Le3 B24 B28 B29)) _ (by omega) (by omega) hcan28 hcan23 (by rw [hval23]; exact Nat.mul_pos dpa dpb) (a.rat + b.rat) (by rw [hval28,hval11,hval16,hval23]; exact zIj a b (zYw hne)))) ?_
 rintro v30 w29 Y30 w30 C29 B30 ⟨ad30,len30,cap30,ae30,le30,ce30,rfl,hN30,hD30⟩
 refine gX 7 0 #[.bool (decide ((a.rat + b.rat).num < 0)),.slice ad30 len30 cap30,.slice ae30 le30 ce30] fun w31 Y31 B31 => ?_
 refine yO (fun w32 Y32 C32 B32 => ?_)
 refine zz 3 <| zrS [.cell 4 28] (v := .agg #[.bool (decide ((a.rat + b.rat).num < 0)),.slice ad30 len30 cap30,.slice ae30 le30 ce30]) (Res.cM C32 0 Res.nil) ?_
 exact ⟨C32.upd,_,rfl,_,_,_,_,_,_,rfl,hN30.mono (Le.trans (Le2 B31 B32) C32.le),hD30.mono (Le.trans (Le2 B31 B32) C32.le)⟩
 have Q33 : a.neg ≠ b.neg := by simpa using T25
 have hne : a.neg ≠ b.neg := by simpa using Q33
 refine zz 8 ?_
 have T9_ := (Le7 B12 B14 B16 B17 B19 B21 B23).trans B24
 have T10_ := (Le4 B17 B19 B21 B23).trans B24
 refine zc C24 (zIi _ _ C24.lt _ _ _ ls11 (hL11.mono T9_) _ _ _ ls16 (hL16.mono T10_) (by first | omega | (simp; done) | (simp; omega)) (by first | omega | (simp; done) | (simp; omega))) ?_
 rintro v35 w35 C35 B35 V35 rfl
 refine zz 3 <| zt 38 (p := (kE (val ls11) (val ls16)) ≥ 0) (fun Q36 => ?_) (fun Q36 => ?_)
 have hcmp := zBn Q36
 refine zz 2 <| zdr C35 <| gz [0] <| gw 1 2 <| gz [2,3,5] ?_
 have T11_ := T9_.trans B35
 have T12_ := T10_.trans B35
 refine gC 4 (fun w37 Y37 _ C37 B37 => (zGf _ _ C37.lt _ _ _ ls11 (hL11.mono (T11_.trans B37)) _ _ _ ls16 (hL16.mono (T12_.trans B37)) (by first | omega | (simp; done) | (simp; omega)) (yC hL11.hlt hcan16 (by omega)) (by omega))) ?_
 rintro v38 w37 Y38 w38 C37 B38 ⟨ad38,len38,cap38,rfl,ls38,hL38,hcan38,hval38⟩
 have hlen38 := hL38.hlen
 have pl38 := zLm 2000 hcan38 (by omega) hL11.hlt hL16.hlt pl11 pl16
 have T13_ := (Le2 B24 B35).trans B38
 refine gC 6 (fun w39 Y39 _ C39 B39 => (zJr _ _ C39.lt _ _ _ ls38 (hL38.mono B39) _ _ _ ls23 (hL23.mono (T13_.trans B39)) _ (by omega) (by omega) hcan38 hcan23 (by rw [hval23]; exact Nat.mul_pos dpa dpb) (a.rat + b.rat) (by rw [hval38,hval11,hval16,hval23]; exact zIj a b (zWx hne (by rw [← hval11,← hval16]; exact hcmp))))) ?_
 rintro v40 w39 Y40 w40 C39 B40 ⟨ad40,len40,cap40,ae40,le40,ce40,rfl,hN40,hD40⟩
 refine gX 7 0 #[.bool (decide ((a.rat + b.rat).num < 0)),.slice ad40 len40 cap40,.slice ae40 le40 ce40] fun w41 Y41 B41 => ?_
 refine yO (fun w42 Y42 C42 B42 => ?_)
 refine zz 3 <| zrS [.cell 4 28] (v := .agg #[.bool (decide ((a.rat + b.rat).num < 0)),.slice ad40 len40 cap40,.slice ae40 le40 ce40]) (Res.cM C42 0 Res.nil) ?_
 exact ⟨C42.upd,_,rfl,_,_,_,_,_,_,rfl,hN40.mono (Le.trans (Le2 B41 B42) C42.le),hD40.mono (Le.trans (Le2 B41 B42) C42.le)⟩
 have hcmp := dW Q36
 refine zz 4 <| zdr C35 <| gz [0] <| gw 1 1 <| gz [2,3,5] ?_
 have T14_ := T10_.trans B35
 have T15_ := T9_.trans B35
 refine gC 4 (fun w43 Y43 _ C43 B43 => (zGf _ _ C43.lt _ _ _ ls16 (hL16.mono (T14_.trans B43)) _ _ _ ls11 (hL11.mono (T15_.trans B43)) (by first | omega | (simp; done) | (simp; omega)) (yC hL16.hlt hcan11 (by omega)) (by omega))) ?_
 rintro v44 w43 Y44 w44 C43 B44 ⟨ad44,len44,cap44,rfl,ls44,hL44,hcan44,hval44⟩
 have hlen44 := hL44.hlen
 have pl44 := zLm 2000 hcan44 (by omega) hL16.hlt hL11.hlt pl16 pl11
 have T16_ := (Le2 B24 B35).trans B44
 refine gC 6 (fun w45 Y45 _ C45 B45 => (zJr _ _ C45.lt _ _ _ ls44 (hL44.mono B45) _ _ _ ls23 (hL23.mono (T16_.trans B45)) _ (by omega) (by omega) hcan44 hcan23 (by rw [hval23]; exact Nat.mul_pos dpa dpb) (a.rat + b.rat) (by rw [hval44,hval11,hval16,hval23]; exact zIj a b (zXt hne (by rw [← hval11,← hval16]; exact hcmp))))) ?_
 rintro v46 w45 Y46 w46 C45 B46 ⟨ad46,len46,cap46,ae46,le46,ce46,rfl,hN46,hD46⟩
 refine gX 7 0 #[.bool (decide ((a.rat + b.rat).num < 0)),.slice ad46 len46 cap46,.slice ae46 le46 ce46] fun w47 Y47 B47 => ?_
 refine yO (fun w48 Y48 C48 B48 => ?_)
 refine zz 2 <| zrS [.cell 4 28] (v := .agg #[.bool (decide ((a.rat + b.rat).num < 0)),.slice ad46 len46 cap46,.slice ae46 le46 ce46]) (Res.cM C48 0 Res.nil) ?_
 exact ⟨C48.upd,_,rfl,_,_,_,_,_,_,rfl,hN46.mono (Le.trans (Le2 B47 B48) C48.le),hD46.mono (Le.trans (Le2 B47 B48) C48.le)⟩
set_option maxHeartbeats 1000000
theorem zJi {a : Raw} (h : a.chk = 0) : Vr a := by
 obtain ⟨h1,h2,h3,h4,_⟩ := Raw.chk_ok h
 exact ⟨h3,h4,by omega,by omega⟩
theorem zSg {z : Rat} (h : z.num.natAbs < xL ∧ dK z.den < xL) : xM z = 0 := if_pos h
set_option maxHeartbeats 1000000
def Nf (r : Raw) : Prop := r = .of r.rat ∧ xM r.rat = 0
theorem Nf.zero : Nf .zero := by
 unfold Nf; rw [zSa]; exact ⟨by decide,zSg ⟨Nat.pow_pos (by omega),by show 0 < _; exact Nat.pow_pos (by omega)⟩⟩
theorem Nf.op {a b : Raw} {z : Rat} (h : opE a b z = 0) : Nf (opR a b z) := by
 have h1 : opR a b z = .of z := if_pos h
 rw [h1,Nf,Raw.of_rat]; exact ⟨rfl,(zHj h).2⟩
theorem Nf.chk {r : Raw} (h : Nf r) : r.chk = 0 := by rw [h.1]; exact Raw.of_chk h.2
section
variable {r x y : Raw} {xs ys : List Raw} {k : Nat}
end
theorem int6 (n : Int) : mkRat (sgn (decide (n < 0)) n.natAbs) 1 = (n : Rat) := by rw [zLn]; first | exact Rat.mkRat_one _ | simp [Rat.mkRat_one] | (rw [Rat.mkRat_eq_div]; simp)
theorem zOv (w : World) (X : Hid) (hX : ∀ k o,X k o → k < w.heap.size) (n : Int) (h1 : -9223372036854775808 ≤ n) (h2 : n ≤ 9223372036854775807) : Calls Tryz.prog 107 #[.int .i64 n] w (Ret E0 w fun w' v => aD X w' v n.natAbs) := by
 refine zen Tryz.func107 ?_
 have C0 : St E0 w X w X [] := St.start hX
 refine zz 12 <| zt 4 (p := (n) < 0) (fun Q2 => ?_) (fun Q2 => ?_)
 refine zz 5 <| zs 6 (v := .int .u64 (IntKind.u64.wrap (n))) (v' := .int .u64 (n + 18446744073709551616)) (zR (by rw [cZ]; omega)) <| zz 1 <| zs 7 (v := .int .u64 (IntKind.u64.wrap ((0 : Int) - (n + 18446744073709551616)))) (v' := .int .u64 ((n.natAbs : Nat) : Int)) (zR (by rw [cZ]; omega)) <| zc C0 (zQm _ _ C0.lt n.natAbs (by omega)) ?_
 rintro v4 w4 C4 B4 V4 ⟨ad4,len4,cap4,rfl,hN4⟩
 refine zz 5 <| zr' (v := .slice ad4 len4 cap4) ?_
 exact ⟨C4.upd,_,rfl,C4.lastN hN4⟩
 refine zz 7 <| zs 10 (v := .int .u64 (IntKind.u64.wrap (n))) (v' := .int .u64 ((n.natAbs : Nat) : Int)) (zR (by rw [cZ]; omega)) <| zc C0 (zQm _ _ C0.lt n.natAbs (by omega)) ?_
 rintro v6 w6 C6 B6 V6 ⟨ad6,len6,cap6,rfl,hN6⟩
 refine zz 4 <| zr' (v := .slice ad6 len6 cap6) ?_
 exact ⟨C6.upd,_,rfl,C6.lastN hN6⟩
theorem zWb (w : World) (X : Hid) (hX : ∀ k o,X k o → k < w.heap.size) (n : Int) (h1 : -9223372036854775808 ≤ n) (h2 : n ≤ 9223372036854775807) : Calls Tryz.prog 76 #[.int .i64 n] w (Ret E0 w fun w' v => zFb X w' v (.of (n : Rat))) := by
 refine zen Tryz.func76 ?_
 have C0 : St E0 w X w X [] := St.start hX
 refine zz 2 <| zn pn (.cells #[.bool false,.slice none 0 0,.slice none 0 0] 28 (0,0)) C0 fun b3 w3 Y3 C3 B3 V3 => zz 7 <| zc C3 (zOv _ _ C3.lt n (by omega) (by omega)) ?_
 rintro v5 w5 C5 B5 V5 ⟨ad5,len5,cap5,rfl,ls5,hL5,hcan5,hval5⟩
 obtain rfl := hL5.hlen
 have hsh5 : ls5.length ≤ 100000 := by have := nW hcan5 (k := 3) (by rw [hval5]; exact Nat.lt_of_lt_of_le (show _ < 18446744073709551616 by omega) (by decide)); omega
 refine zc C5 (zCg _ _ C5.lt) ?_
 rintro v7 w7 C7 B7 V7 ⟨ad7,cap7,rfl,hL7⟩
 refine zc C7 (zJr _ _ C7.lt _ _ _ ls5 (hL5.mono B7) _ _ _ ([1]) hL7 _ (by omega) (by simp) hcan5 zKi (by decide) (n : Rat) (by rw [hval5]; exact int6 n)) ?_
 rintro v9 w9 C9 B9 V9 ⟨ad9,len9,cap9,ae9,le9,ce9,rfl,hN9,hD9⟩
 refine zx 0 #[.bool (decide ((n : Rat).num < 0)),.slice ad9 len9 cap9,.slice ae9 le9 ce9] C9 fun w10 C10 B10 => zz 3 <| zrS [.cell 2 28] (v := .agg #[.bool (decide ((n : Rat).num < 0)),.slice ad9 len9 cap9,.slice ae9 le9 ce9]) (Res.cM C10 0 Res.nil) ?_
 exact ⟨C10.upd,_,rfl,zCe.raw ⟨_,_,_,_,_,_,rfl,hN9.mono (Le.trans B10 C10.le),hD9.mono (Le.trans B10 C10.le)⟩⟩
theorem qAk (w : World) (X : Hid) (hX : ∀ k o,X k o → k < w.heap.size) (p q : Int) (h1 : -9223372036854775808 ≤ p) (h2 : p ≤ 9223372036854775807) (h3 : -9223372036854775808 ≤ q) (h4 : q ≤ 9223372036854775807) (hq : q ≠ 0) : Calls Tryz.prog 157 #[.int .i64 p,.int .i64 q] w (Ret E0 w fun w' v => ∃ u,v = .tuple #[u,.int .i64 0] ∧ zFb X w' u (.of (mkRat (sgn (decide (p < 0) != decide (q < 0)) p.natAbs) q.natAbs))) := by
 refine zen Tryz.func157 ?_
 have C0 : St E0 w X w X [] := St.start hX
 refine zz 2 <| zn pn (.cells #[.bool false,.slice none 0 0,.slice none 0 0] 28 (0,0)) C0 fun b3 w3 Y3 C3 B3 V3 => zz 10 <| zb 7 (b := ((q) == 0)) (fun T4 => ?_) (fun T4 => ?_)
 have Q5 : (q) = 0 := by simpa using T4
 omega
 have Q6 : (q) ≠ 0 := by simpa using T4
 refine zz 11 <| zc C3 (zOv _ _ C3.lt p (by omega) (by omega)) ?_
 rintro v8 w8 C8 B8 V8 ⟨ad8,zEi,cap8,rfl,ls8,hL8,hcan8,hval8⟩
 obtain rfl := hL8.hlen
 have hsh8 : ls8.length ≤ 100000 := by have := nW hcan8 (k := 3) (by rw [hval8]; exact Nat.lt_of_lt_of_le (show _ < 18446744073709551616 by omega) (by decide)); omega
 refine zz 1 <| zc C8 (zOv _ _ C8.lt q (by omega) (by omega)) ?_
 rintro v10 w10 C10 B10 V10 ⟨ad10,len10,cap10,rfl,ls10,hL10,hcan10,hval10⟩
 obtain rfl := hL10.hlen
 have hsh10 : ls10.length ≤ 100000 := by have := nW hcan10 (k := 3) (by rw [hval10]; exact Nat.lt_of_lt_of_le (show _ < 18446744073709551616 by omega) (by decide)); omega
 refine zc C10 (zJr _ _ C10.lt _ _ _ ls8 (hL8.mono B10) _ _ _ ls10 hL10 _ (by omega) (by omega) hcan8 hcan10 (by rw [hval10]; omega) (mkRat (sgn (decide (p < 0) != decide (q < 0)) p.natAbs) q.natAbs) (by rw [hval8,hval10])) ?_
 rintro v12 w12 C12 B12 V12 ⟨ad12,len12,cap12,ae12,le12,ce12,rfl,hN12,hD12⟩
 refine zx 0 #[.bool (decide ((mkRat (sgn (decide (p < 0) != decide (q < 0)) p.natAbs) q.natAbs).num < 0)),.slice ad12 len12 cap12,.slice ae12 le12 ce12] C12 fun w13 C13 B13 => zz 4 <| zrS [.cell 4 28,.tmp 5] (v := .tuple #[.agg #[.bool (decide ((mkRat (sgn (decide (p < 0) != decide (q < 0)) p.natAbs) q.natAbs).num < 0)),.slice ad12 len12 cap12,.slice ae12 le12 ce12],.int .i64 0]) (Res.cM C13 0 (Res.tZ Res.nil)) ?_
 exact ⟨C13.upd,_,rfl,_,rfl,zCe.raw ⟨_,_,_,_,_,_,rfl,hN12.mono (Le.trans B13 C13.le),hD12.mono (Le.trans B13 C13.le)⟩⟩
end Go.Proofs.YtjnbipmlmafahaaGreat
namespace Go.Gv
open Go.RowKit IntKind
attribute [local semireducible] Go
section
variable {r : Option Nat} {m : Nat} {P : Program} {Q : Exit → Act → World → Prop} {n : Nat} {D : List Deferred} {w : World} {c : Cf} {E : Nat → Prop} {w0 : World} {X Y : Hid} {M : List (Nat × Obj)}
theorem zci {f : FuncId} {vs : Array Value} {fn : Func} (hfn : P.funcs[f]? = some fn) (h : ∀ R : Ending → World → Prop,(∀ v w1,Go r m P Q n D w1 (nv c v) → R (.returned v) w1) → Go none 0 P (bodyPost P fn R) fn.ntmps [] w ⟨.code (bd fn),[],zAs 0 vs.toList⟩)
  (hb : fn.body = some (bd fn) := by rfl) (hle : Nat.ble vs.toList.length fn.ntmps = true := by kernel_rfl) (hv : clV c = some (f,vs) := by kernel_rfl) (hc : isv n c = true := by kernel_rfl) (ho : (cop c).op = .call { callee := .value (clF (cop c)),args := clA (cop c),argTypes := clT (cop c) } := by kernel_rfl)
  (hcall : ∀ w,(callFunc f vs).run P w = .ok (.enter f vs) w := by intro w; kernel_rfl) : Go r m P Q n D w c := by
 obtain ⟨cap,hf,ha⟩ := zDe hv
 refine zJa (wT hc).1 fun _ hF => zHs (Φ := fun w1 v => Go r m P Q n D w1 (nv c v)) hF (wT hc).2 ho hf ha hcall (zen hfn (h _ fun v w1 hg => ⟨v,rfl,hg⟩) hb hle) fun v w1 h1 a1 G1 => (zFi c v ▸ h1 : Go r m P Q n D w1 (nv0 c v)) a1 G1
theorem zenM {f : FuncId} {args : Array Value} {R : Ending → World → Prop} {fn : Func} (hf : P.funcs[f]? = some fn) (h : Go none 0 P (bodyPostM (FF none) 0 P fn R) fn.ntmps [] w ⟨.code (bd fn),[],zAs 0 args.toList⟩) (hb : fn.body = some (bd fn) := by rfl) (hle : Nat.ble args.toList.length fn.ntmps = true := by kernel_rfl) : Calls P f args w R :=
 zGc hf hb rfl rfl hle fun a hF => h a hF
theorem zyld {r : Option Nat} {l : Nat} {vs : Array Value} (h : ∀ R : Ending → World → Prop,(∀ v w1,Go r 0 P Q n D w1 (nv c v) → R (.returned v) w1) → YieldAt (FF none) 0 P l vs w R)
  (hf : evL c.L (clF (cop c)) = .func (.yield l) #[] #[] := by kernel_rfl) (hargs : (clA (cop c)).map (evL c.L) = vs := by kernel_rfl) (hc : isv n c = true := by kernel_rfl) (ho : (cop c).op = .call { callee := .value (clF (cop c)),args := clA (cop c),argTypes := clT (cop c) } := by kernel_rfl) : Go r 0 P Q n D w c := by
 intro a hF
 have T0 := wT hc
 obtain ⟨cu,k,L⟩ := c
 match cu,hc,hF,h,hf,hargs,ho,T0 with
 | .ops o (x :: l'),hc,hF,h,hf,hargs,ho,T0 =>
  have hck : chk o L x (cd ⟨.ops o (x :: l'),k,L⟩) n = true := by
   have h1 := T0.1
   simp only [zBq,zIb,cop,Bool.and_eq_true] at h1
   have h2 := T0.2
   simp only [opk,Bool.and_eq_true] at h2
   simp only [chk,Bool.and_eq_true]
   exact ⟨h1.2.1,h2.1,h2.2⟩
  exact zEo (R := fun e w1 => ∃ v,e = .returned v ∧ Go r 0 P Q n D w1 (nv ⟨.ops o (x :: l'),k,L⟩ v)) hF hck ho hf hargs (h _ fun v w1 hg => ⟨v,rfl,hg⟩) (fun _ _ h => h.elim fun v h => ⟨v,h.1⟩) (fun v w1 h1 a1 G1 => by
   obtain ⟨v',e,hg⟩ := h1
   cases e
   exact (zFi (⟨.ops o (x :: l'),k,L⟩ : Cf) v ▸ hg : Go r 0 P Q n D w1 (nv0 _ v)) a1 G1)
 | .ops o [],hc,_,_,_,_,_,_ => simp [isv,zBq] at hc
 | .code _,hc,_,_,_,_,_,_ => simp [isv,zBq] at hc
 | .ex _,hc,_,_,_,_,_,_ => simp [isv,zBq] at hc
end
section
variable {r : Option Nat} {m : Nat} {P : Program} {Q : Exit → Act → World → Prop} {n : Nat} {D : List Deferred} {w : World} {c : Cf} {E : Nat → Prop} {w0 : World} {X Y : Hid} {M : List (Nat × Obj)}
theorem zqq {e : Exit} {k : List Fm} {L : List (Nat × Value)} {a : Act} (hF : Fr n a L D) (h : Go r m P Q n D w ⟨.ex e,k,L⟩) : QQ r m P Q k e a w := h a hF
def rgX : Code → Operand
 | .rangeFunc x _ _ _ => x
 | _ => .tmp 0
def rgP : Code → Array Tmp
 | .rangeFunc _ ps _ _ => ps
 | _ => #[]
def rgA : Code → Code
 | .rangeFunc _ _ x _ => x
 | c => c
def rgB : Code → Code
 | .rangeFunc _ _ _ x => x
 | c => c
theorem zrng {f : FuncId} {caps : Array Value} (hS : St E w0 X w Y M)
  (k : ∀ (a : Act) (rec : Loop) l b w1 Y1,Fr n a c.L D → zAm rec a.tmps (rgP (cuC c)) (rgA (cuC c)) (rgB (cuC c)) → St E w0 X w1 Y1 ((l,.loop rec) :: (b,.deferred (some [])) :: M) → Le (rd w Y) (rd w1 Y1) → Upd E0 w w1 →
   Calls P f (#[.func (.yield l) #[] #[]] ++ caps) w1 (fun e w3 => (∃ v,e = .returned v) ∧ rA P (QQ none 0 P Q c.k) (Act.marked a b) l w3))
  (hg : evL c.L (rgX (cuC c)) = .func (.func f) #[] caps := by kernel_rfl) (hcov : cov c.L (rgX (cuC c)) = true := by kernel_rfl) (hx : c.cu = .code (cuC c) := by kernel_rfl) (hr : cuC c = .rangeFunc (rgX (cuC c)) (rgP (cuC c)) (rgA (cuC c)) (rgB (cuC c)) := by kernel_rfl)
  (hcall : ∀ args w,(callFunc f args).run P w = .ok (.enter f args) w) : Go none 0 P Q n D w c := by
 intro a hF
 rw [hx,hr]
 exact zDi hF hS hcov hg hcall fun rec l b w1 Y1 h1 h2 h3 h4 => k a rec l b w1 Y1 hF h1 h2 h3 h4
section
variable {rec : Loop} {tm : Array Value} {ps : Array Tmp} {assign body : Code} {l : Nat} {R : Ending → World → Prop} {L : List (Nat × Value)} {a : Act}
def qAg (P : Program) (l : Nat) (R : Ending → World → Prop) (body : Code) : Exit → Act → World → Prop :=
 Exit.then (fun a₁ w₁ => ∃ w₂,(Instr.beginRound l).run P w₁ = .ok () w₂ ∧ body.wpIn (FF (some l)) 0 P (roundPost P l R) a₁ w₂) (fun _ _ _ => False)
theorem zXw (i : Nat) {p q : Nat} {v u : Value} (hr : zAm rec a.tmps #[p,q] assign body) (hF : Fr n a L D) (hS : St E w0 X w Y M) (h : Go (some l) 0 P (qAg P l R body) n [] w ⟨.code assign,[],(q,u) :: (p,v) :: L⟩)
  (hi : M[i]? = some (l,.loop rec) := by rfl) (hp : Nat.blt p n = true := by kernel_rfl) (hq : Nat.blt q n = true := by kernel_rfl) : YieldAt (FF none) 0 P l #[v,u] w R := by
 refine zQc i hS hi (by rw [hr.hps]; rfl) ?_
 rw [hr.ha,hr.hb,hr.hps,hr.ht]
 exact h _ (zKj hF (by simpa [Nat.blt_eq] using hp) (by simpa [Nat.blt_eq] using hq))
theorem qCp (i : Nat) (hr : zAm rec tm ps assign body) (hS : St E w0 X w Y M) (h : ∀ w1,St E w0 X w1 Y (M.set i (l,.loop (zAx rec))) → Le (rd w Y) (rd w1 Y) → Go (some l) 0 P (roundPost P l R) n D w1 ⟨.code body,[],c.L⟩)
  (hi : M[i]? = some (l,.loop rec) := by rfl) (hx : c.cu = .ex .normal := by kernel_rfl) (hk : c.k = [] := by kernel_rfl) : Go (some l) 0 P (qAg P l R body) n D w c := by
 intro a hF
 rw [hx,hk]
 exact zPr i hS hi hr.hs fun w1 h1 h2 => h w1 h1 h2 a hF
theorem zUr (hr : zAm rec tm ps assign body) : ({ zAx rec with state := .ready,pending := none } : Loop) = rec := by
 obtain ⟨h1,h2,_,_,_,_⟩ := hr
 cases rec; simp only at h1 h2; subst h1; subst h2; rfl
theorem qBi (i : Nat) (hr : zAm rec tm ps assign body) (hS : St E w0 X w Y M) (h : ∀ w1,St E w0 X w1 Y (M.set i (l,.loop rec)) → Le (rd w Y) (rd w1 Y) → R (.returned (.bool true)) w1)
  (hi : M[i]? = some (l,.loop (zAx rec)) := by rfl) (hx : c.cu = .ex .normal := by kernel_rfl) (hk : c.k = [] := by kernel_rfl) : Go (some l) 0 P (roundPost P l R) n D w c := by
 intro a hF
 rw [hx,hk]
 show roundPost P l R .normal a w
 refine zSw i hS hi fun w1 h1 h2 => h w1 ?_ h2
 rw [zUr hr] at h1
 exact h1
theorem qDj (i : Nat) (hS : St E w0 X w Y M) (h : ∀ w1,St E w0 X w1 Y (M.set i (l,.loop (zFz rec))) → Le (rd w Y) (rd w1 Y) → R (.returned (.bool false)) w1)
  (hi : M[i]? = some (l,.loop (zAx rec)) := by rfl) (hx : c.cu = .ex .ret := by kernel_rfl) (hk : c.k = [] := by kernel_rfl) : Go (some l) 0 P (roundPost P l R) n D w c := by
 intro a hF
 rw [hx,hk]
 show roundPost P l R .ret a w
 exact zZt i hS hi fun w1 h1 h2 => h w1 h1 h2
theorem qDb (i b : Nat) {k : List Fm} (hr : zAm rec tm ps assign body) (hF : Fr n a L D) (hS : St E w0 X w Y M) (h : ∀ w1,St E w0 X w1 Y (M.set i (l,.loop (zEx rec))) → Le (rd w Y) (rd w1 Y) → Go none 0 P Q n (mark b :: D) w1 ⟨.ex .normal,k,L⟩)
  (hi : M[i]? = some (l,.loop rec) := by rfl) : rA P (QQ none 0 P Q k) (Act.marked a b) l w := by
 refine ⟨rec,hS.get i hi,by rw [hr.hs]; simp,?_⟩
 split
 ·exact zqq (bI b hF) (h _ (hS.putObj i hi).1 (hS.putObj (o' := .loop (zEx rec)) i hi).2)
 ·rename_i c hc; rw [hr.hp] at hc; cases hc
theorem qCe (i b : Nat) {k : List Fm} (hF : Fr n a L D) (hS : St E w0 X w Y M) (h : ∀ w1,St E w0 X w1 Y (M.set i (l,.loop (zEx (zFz rec)))) → Le (rd w Y) (rd w1 Y) → Go none 0 P Q n (mark b :: D) w1 ⟨.ex .ret,k,L⟩)
  (hi : M[i]? = some (l,.loop (zFz rec)) := by rfl) : rA P (QQ none 0 P Q k) (Act.marked a b) l w := by
 refine ⟨zFz rec,hS.get i hi,by simp [zFz],?_⟩
 exact zAh (zqq (bI b hF) (h _ (hS.putObj i hi).1 (hS.putObj (o' := .loop (zEx (zFz rec))) i hi).2))
end
def finR (c : Cf) : Bool := (match c.cu with
 | .ex .ret => true
 | .ex .normal => true
 | _ => false) && c.k.isEmpty
theorem zPn {fn : Func} {R : Ending → World → Prop} {a : Act} (h : bodyPostM (FF none) 0 P fn R .ret a w) : bodyPostM (FF none) 0 P fn R .normal a w := h
theorem qBe (i : Nat) (rs : List ResultVar) {b : Nat} {v : Value} {fn : Func} {R : Ending → World → Prop} (hS : St E w0 X w Y M) (h : ∀ w1,St E w0 X w1 Y (M.set i (b,.deferred none)) → Le (rd w Y) (rd w1 Y) → Res P c.L w1 rs (unp rs.length v) ∧ R (.returned v) w1)
  (hi : M[i]? = some (b,.deferred (some [])) := by rfl) (hr : fn.results = rs.toArray := by kernel_rfl) (hv : zIm (unp rs.length v) = v := by kernel_rfl) (hf : finR c = true := by kernel_rfl) : Go none 0 P (bodyPostM (FF none) 0 P fn R) n [mark b] w c := by
 intro a hF
 simp only [finR,Bool.and_eq_true] at hf
 obtain ⟨cu,k,L⟩ := c
 match cu,k,hf with
 | .ex .ret,[],_ => exact zEs i hF hS hi hr hv h
 | .ex .normal,[],_ => exact zPn (zEs i hF hS hi hr hv h)
end
theorem gci {R : Rg} {c : Array Bool × List (Nat × Value)} {M : List (Nat × Obj)} {r : Rd} (i : Nat) {f : FuncId} {vs : Array Value} {fn : Func} (hfn : R.P.funcs[f]? = some fn)
  (h : ∀ w Y,St R.E R.w0 R.X w Y M → Le r (rd w Y) → ∀ R' : Ending → World → Prop,(∀ v w1 Y1 M1,St R.E R.w0 R.X w1 Y1 M1 → Le r (rd w1 Y1) → (kX R.T (c.1.setIfInBounds i true) = true ∨ ((∀ p ∈ R.M0,p ∈ M) → ∀ p ∈ R.M0,p ∈ M1)) → Gt R [] (c.1.setIfInBounds i true,((qD R.ops i).dst.getD 0,v) :: c.2) M1 (rd w1 Y1) → R' (.returned v) w1) →
   Go none 0 R.P (bodyPost R.P fn R') fn.ntmps [] w ⟨.code (bd fn),[],zAs 0 vs.toList⟩)
  (hv : gV R c i = some (f,vs) := by kernel_rfl) (hb : fn.body = some (bd fn) := by rfl) (hle : Nat.ble vs.toList.length fn.ntmps = true := by kernel_rfl) (hi : R.ops[i]? = some (qD R.ops i) := by kernel_rfl) (hr : Region.ready .any R.ops c.1 = [i] := by kernel_rfl)
  (hc : opk c.2 (qD R.ops i) ((qD R.ops i).dst.getD 0) R.n = true := by kernel_rfl) (hw : wY R.ops c.2 (qD R.ops i) true = true := by kernel_rfl)
  (ho : (qD R.ops i).op = .call { callee := .value (clF (qD R.ops i)),args := clA (qD R.ops i),argTypes := clT (qD R.ops i) } := by kernel_rfl)
  (hcall : ∀ w,(callFunc f vs).run R.P w = .ok (.enter f vs) w := by intro w; kernel_rfl) : Gt R [] c M r := by
 obtain ⟨cap,hf,ha⟩ := zQr hv
 refine gO i (fun a w Y hF hS hle' => ?_) hi hr hw
 refine zHs (Φ := fun w1 v => ∃ Y1 M1,St R.E R.w0 R.X w1 Y1 M1 ∧ Le r (rd w1 Y1) ∧ (kX R.T (c.1.setIfInBounds i true) = true ∨ ((∀ p ∈ R.M0,p ∈ M) → ∀ p ∈ R.M0,p ∈ M1)) ∧ Gt R [] (c.1.setIfInBounds i true,((qD R.ops i).dst.getD 0,v) :: c.2) M1 (rd w1 Y1)) hF hc ho hf ha hcall (zen hfn (h w Y hS hle' _ fun v w1 Y1 M1 h1 h2 h3 h4 => ⟨v,rfl,Y1,M1,h1,h2,h3,h4⟩) hb hle) ?_
 rintro v w1 ⟨Y1,M1,h1,h2,h3,h4⟩ a1 G1
 exact ⟨_,M1,rd w1 Y1,Y1,G1,h1,Le.refl _,h3.imp id fun h3 => ⟨h3,h2⟩,h4⟩
end Go.Gv
namespace Go.Gv
open Go.RowKit IntKind
theorem zIu {P : Program} {w : World} {d : Nat} {t : TypeId} {k k' : IntKind} {a b : Int} (ht : P.underlying t = some (.int k')) : (Op.equalIn (d + 1) t (.int k a) (.int k b)).run P w = .ok (a == b) w := by
 unfold Op.equalIn
 simp only [underlying,ht,Sem.run_bind,Sem.run_pure,run_program,Result.andThen_ok]
 simp
theorem bA {P : Program} {w : World} {t : TypeId} {k' : IntKind} {cs : Array Value} {i : Nat} {v : Value} (ht : P.underlying t = some (.int k')) (h : cs[i]? = some v) : (part t cs i).run P w = .ok v w := by
 unfold part isAgg
 simp only [underlying,ht,Sem.run_bind,Sem.run_pure,run_program,Result.andThen_ok]
 simp [h]
theorem qAo {P : Program} {w : World} {d : Nat} {t : TypeId} {f1 f2 f3 : Field} {k1 k2 k3 q1 q2 q3 : IntKind} {a1 a2 a3 b1 b2 b3 : Int} (ht : P.underlying t = some (.struct #[f1, f2, f3])) (hs : P.stoodInHeld t = false) (h1 : P.underlying f1.type = some (.int q1)) (h2 : P.underlying f2.type = some (.int q2)) (h3 : P.underlying f3.type = some (.int q3))
 (n1 : f1.name ≠ "_") (n2 : f2.name ≠ "_") (n3 : f3.name ≠ "_") (p1 : f1.offset = 0) (p2 : f2.offset = 1) (p3 : f3.offset = 2)  :
 (Op.equalIn (d + 1 + 1) t (.agg #[.int k1 a1, .int k2 a2, .int k3 a3]) (.agg #[.int k1 b1, .int k2 b2, .int k3 b3])).run P w = .ok (a1 == b1 && (a2 == b2 && a3 == b3)) w := by
 unfold Op.equalIn
 simp only [underlying, ht, Sem.run_bind, Sem.run_pure, run_program, Result.andThen_ok, hs]
 simp [n1, n2, n3, p1, p2, p3]
 simp only [bA (cs := #[Value.int k1 a1, .int k2 a2, .int k3 a3]) (i := 0) h1 rfl, bA (cs := #[Value.int k1 b1, .int k2 b2, .int k3 b3]) (i := 0) h1 rfl, bA (cs := #[Value.int k1 a1, .int k2 a2, .int k3 a3]) (i := 1) h2 rfl, bA (cs := #[Value.int k1 b1, .int k2 b2, .int k3 b3]) (i := 1) h2 rfl, bA (cs := #[Value.int k1 a1, .int k2 a2, .int k3 a3]) (i := 2) h3 rfl, bA (cs := #[Value.int k1 b1, .int k2 b2, .int k3 b3]) (i := 2) h3 rfl, Result.andThen_ok]
 simp only [List.getElem_toArray, List.getElem_cons_succ, List.getElem_cons_zero]
 have e1 := zIu (P := P) (w := w) (d := d) (a := a1) (b := b1) (k := k1) h1
 have e2 := zIu (P := P) (w := w) (d := d) (a := a2) (b := b2) (k := k2) h2
 have e3 := zIu (P := P) (w := w) (d := d) (a := a3) (b := b3) (k := k3) h3
 rw [e1]
 cases a1 == b1
 ·simp
 simp only [Result.andThen_ok]
 rw [if_neg (by simp), e2]
 cases a2 == b2
 ·simp
 simp only [Result.andThen_ok]
 rw [if_neg (by simp), e3]
 cases a3 == b3
 ·simp
 simp
theorem zVo {P : Program} {w : World} {ρ : Operand → Value} {o : Oper} {t t2 : TypeId} {xa xb : Operand} {f1 f2 f3 : Field} {k1 k2 k3 q1 q2 q3 : IntKind} {a1 a2 a3 b1 b2 b3 : Int} (ho : o.op = .binOp .neq t xa xb t2) (hx : ρ xa = .agg #[.int k1 a1, .int k2 a2, .int k3 a3]) (hy : ρ xb = .agg #[.int k1 b1, .int k2 b2, .int k3 b3])
  (ht : P.underlying t = some (.struct #[f1, f2, f3])) (hs : P.stoodInHeld t = false) (h1 : P.underlying f1.type = some (.int q1)) (h2 : P.underlying f2.type = some (.int q2)) (h3 : P.underlying f3.type = some (.int q3))
  (n1 : f1.name ≠ "_") (n2 : f2.name ≠ "_") (n3 : f3.name ≠ "_") (p1 : f1.offset = 0) (p2 : f2.offset = 1) (p3 : f3.offset = 2) (hg : P.eqGuardType P.depth t = false) :
  (execOp ρ o).run P w = .ok (.value (.bool (!(a1 == b1 && (a2 == b2 && a3 == b3))))) w := by
 unfold execOp
 simp only [ho, hx, hy, binOp, Op.equal, Op.maxDepth, eqGuard, Sem.run_pure, Sem.run_bind, qAo (d := 9998) ht hs h1 h2 h3 n1 n2 n3 p1 p2 p3, Result.andThen_ok]
 simp [hg, run_program, Sem.run_bind, Sem.run_pure]
def fl (P : Program) (t : TypeId) (i : Nat) : Field := match P.underlying t with
 | some (.struct fs) => (fs[i]?).getD default
 | _ => default
def ikO (P : Program) (t : TypeId) : IntKind := match P.underlying t with
 | some (.int k) => k
 | _ => .i64
def cmpX (o : Oper) : Operand := match o.op with
 | .binOp _ _ x _ _ => x
 | _ => .tmp 0
def cmpY (o : Oper) : Operand := match o.op with
 | .binOp _ _ _ y _ => y
 | _ => .tmp 0
theorem zEj {s t : String} (h : (s == t) = false) : s ≠ t := by simpa using h
theorem zJg {P : Program} {w : World} {ρ : Operand → Value} {o : Oper} (t t2 : TypeId) {k1 k2 k3 : IntKind} {a1 a2 a3 b1 b2 b3 : Int} (ho : o.op = .binOp .neq t (cmpX o) (cmpY o) t2 := by kernel_rfl) (hx : ρ (cmpX o) = .agg #[.int k1 a1, .int k2 a2, .int k3 a3] := by kernel_rfl) (hy : ρ (cmpY o) = .agg #[.int k1 b1, .int k2 b2, .int k3 b3] := by kernel_rfl)
  (ht : P.underlying t = some (.struct #[fl P t 0, fl P t 1, fl P t 2]) := by kernel_rfl) (hs : P.stoodInHeld t = false := by kernel_rfl) (h1 : P.underlying (fl P t 0).type = some (.int (ikO P (fl P t 0).type)) := by kernel_rfl) (h2 : P.underlying (fl P t 1).type = some (.int (ikO P (fl P t 1).type)) := by kernel_rfl) (h3 : P.underlying (fl P t 2).type = some (.int (ikO P (fl P t 2).type)) := by kernel_rfl)
  (n1 : ((fl P t 0).name == "_") = false := by kernel_rfl) (n2 : ((fl P t 1).name == "_") = false := by kernel_rfl) (n3 : ((fl P t 2).name == "_") = false := by kernel_rfl) (p1 : (fl P t 0).offset = 0 := by kernel_rfl) (p2 : (fl P t 1).offset = 1 := by kernel_rfl) (p3 : (fl P t 2).offset = 2 := by kernel_rfl) (hg : P.eqGuardType P.depth t = false := by kernel_rfl) :
  (execOp ρ o).run P w = .ok (.value (.bool (!(a1 == b1 && (a2 == b2 && a3 == b3))))) w := zVo ho hx hy ht hs h1 h2 h3 (zEj n1) (zEj n2) (zEj n3) p1 p2 p3 hg
theorem getElem?_setCells : ∀ (vs : List Value) (c : Array Value) (o p : Nat),o + vs.length ≤ c.size → (vT c o vs)[p]? = if o ≤ p ∧ p < o + vs.length then vs[p - o]? else c[p]?
 | [],c,o,p,_ => by simp [vT]; intro h; omega
 | v :: vs,c,o,p,h => by
  rw [vT,getElem?_setCells vs _ (o + 1) p (by simp at h ⊢; omega)]
  simp only [List.length_cons] at h ⊢
  by_cases h1 : o = p
  ·subst h1
   rw [if_neg (by omega),if_pos (by omega),Nat.sub_self]
   have hlt : o < c.size := by omega
   simp [hlt]
  ·by_cases h2 : o + 1 ≤ p ∧ p < o + 1 + vs.length
   ·rw [if_pos h2,if_pos (by omega)]
    have : p - o = (p - (o + 1)) + 1 := by omega
    rw [this,List.getElem?_cons_succ]
   ·rw [if_neg h2,if_neg (by omega),Array.getElem?_setIfInBounds_ne h1]
section
variable {α : Type} {Cl : Rd → List Value → α → Prop} {T : TypeId} {size : Nat} {r : Rd} {rb : List (Nat × Obj)} {ad : Option Addr} {m cap : Nat} {L : List α} {x : α} {i : Nat}
theorem zKa {es : List (GE α)} (h : ∀ e ∈ es,e.cs.length = size) : (mO es).length = es.length * size := by
 induction es with
 | nil => simp [mO]
 | cons e es ih => rw [mO,List.length_append,ih fun e he => h e (List.mem_cons_of_mem _ he),h e List.mem_cons_self,List.length_cons,Nat.add_mul]; omega
theorem jX.opn (h : jX Cl T size r rb ad m cap L) (hx : L[i]? = some x) : ∃ g cur cs,rb = [(g,.cells cur T (0,0))] ∧ ad = some ⟨g,0,none⟩ ∧ i < m ∧ (cs.length = size ∧ ∀ r',Le r r' → Cl r' cs x) ∧ ∀ j v,cs[j]? = some v → cur[i * size + j]? = some v := by
 obtain ⟨es,h1,h2,h3,h4⟩ := h
 subst h2
 rw [List.getElem?_map] at hx
 cases he : es[i]? with
 | none => rw [he] at hx; cases hx
 | some e =>
  rw [he] at hx
  obtain rfl : e.x = x := by simpa using hx
  have hlt := (List.getElem?_eq_some_iff.1 he).1
  rcases h1 with ⟨_,_,h5,_,_⟩ | ⟨g,cur,rfl,rfl,hr⟩
  ·omega
  ·refine ⟨g,cur,e.cs,rfl,rfl,by omega,h3 e (List.mem_of_getElem? he),fun j v hj => ?_⟩
   have h5 := nT es i e (fun e he => (h3 e he).1) he j v hj
   rw [← hr.hxs,List.getElem?_take] at h5
   split at h5
   ·simpa using h5
   ·cases h5
theorem jX.set {g : Nat} {cur : Array Value} {cs : List Value} (h : jX Cl T size r [(g,.cells cur T (0,0))] (some ⟨g,0,none⟩) m cap L) (hi : i < m) (hc : cs.length = size ∧ ∀ r',Le r r' → Cl r' cs x) :
  jX Cl T size r [(g,.cells (vT cur (i * size) cs) T (0,0))] (some ⟨g,0,none⟩) m cap (L.set i x) ∧ i * size + cs.length ≤ cur.size := by
 obtain ⟨es,h1,h2,h3,h4⟩ := h
 rcases h1 with ⟨h5,_⟩ | ⟨g',cur',e1,_,hr⟩
 ·cases h5
 cases e1
 have hlt : i < es.length := by omega
 have hsz := hr.hsz
 have hn := hr.hn
 have hb : i * size + cs.length ≤ m * size := by
  rw [hc.1]
  calc i * size + size = (i + 1) * size := by rw [Nat.add_mul,Nat.one_mul]
   _ ≤ m * size := Nat.mul_le_mul_right _ (by omega)
 have hb2 : m * size ≤ cap * size := Nat.mul_le_mul_right _ hn
 have hb3 : i * size + cs.length ≤ cur.size := by omega
 refine ⟨⟨es.set i ⟨x,cs⟩,.inr ⟨g,_,rfl,rfl,⟨hn,hr.hcap,by rw [zBz]; exact hsz,?_⟩⟩,by rw [List.map_set,h2],fun e he => ?_,by rw [List.length_set]; exact h4⟩,hb3⟩
 ·have hx := hr.hxs
  have hes : ∀ e ∈ es.set i ⟨x,cs⟩,e.cs.length = size := fun e he => by
   rcases List.mem_or_eq_of_mem_set he with h6 | h6
   ·exact (h3 e h6).1
   ·rw [h6]; exact hc.1
  apply List.ext_getElem?
  intro p
  by_cases hp : p < m * size
  ·have hs0 : 0 < size := by
    rcases Nat.eq_zero_or_pos size with h0 | h0
    ·rw [h0] at hp; simp at hp
    ·exact h0
   have hq : p / size < m := Nat.div_lt_of_lt_mul (by rw [Nat.mul_comm]; exact hp)
   have hpe : p / size * size + p % size = p := by rw [Nat.mul_comm]; exact Nat.div_add_mod p size
   have hmod : p % size < size := Nat.mod_lt _ hs0
   rw [List.getElem?_take,if_pos hp]
   rw [show (vT cur (i * size) cs).toList[p]? = (vT cur (i * size) cs)[p]? by simp,getElem?_setCells _ _ _ _ hb3]
   by_cases hqi : p / size = i
   ·subst hqi
    have hj : p % size < cs.length := by rw [hc.1]; exact hmod
    rw [if_pos (by rw [hc.1]; omega)]
    have h7 := nT (es.set (p / size) ⟨x,cs⟩) (p / size) ⟨x,cs⟩ hes (by rw [List.getElem?_set_self (by omega)]) (p % size) cs[p % size] (by simp [hj])
    rw [hpe] at h7
    rw [h7,show p - p / size * size = p % size by omega]
    simp [hj]
   ·have hne : ¬ (i * size ≤ p ∧ p < i * size + cs.length) := by
     rintro ⟨h8,h9⟩
     rw [hc.1] at h9
     refine hqi (Nat.div_eq_of_lt_le h8 ?_)
     rw [Nat.add_mul,Nat.one_mul]; exact h9
    rw [if_neg hne]
    obtain ⟨e,he⟩ : ∃ e,es[p / size]? = some e := ⟨es[p / size]'(by omega),by simp⟩
    have hj : p % size < e.cs.length := by rw [(h3 e (List.mem_of_getElem? he)).1]; exact hmod
    have h7 := nT es (p / size) e (fun e he => (h3 e he).1) he (p % size) e.cs[p % size] (by simp [hj])
    have h8 := nT (es.set i ⟨x,cs⟩) (p / size) e hes (by rw [List.getElem?_set_ne (by omega)]; exact he) (p % size) e.cs[p % size] (by simp [hj])
    rw [hpe] at h7 h8
    rw [h8,← h7,← hx,List.getElem?_take,if_pos hp]
    simp
  ·rw [List.getElem?_take,if_neg hp,List.getElem?_eq_none]
   rw [zKa hes,List.length_set,← h4]; omega
 ·rcases List.mem_or_eq_of_mem_set he with h6 | h6
  ·exact h3 e h6
  ·rw [h6]; exact hc
end
section
variable {P : Program} {Q : Exit → Act → World → Prop} {K : Act → World → Prop} {a : Act} {o : Oper} {n d : Nat} {L : List (Nat × Value)} {D : List Deferred} {E : Nat → Prop} {w0 w : World} {X Y : Hid}
theorem St.getMem {M : List (Nat × Obj)} (h : St E w0 X w Y M) {b : Nat} {ob : Obj} (hm : (b,ob) ∈ M) : w.heap[b]? = some ob := (h.own _ hm).1
theorem zKd {g i size : Nat} {cur : Array Value} {T : TypeId} {f : Nat × Nat} {cs : List Value} (hb : w.heap[g]? = some (.cells cur T f)) (h : ∀ j v,cs[j]? = some v → cur[i * size + j]? = some v) : yX w ⟨g,0 + i * size,none⟩ cs := fun j v hj => by
 rw [xC,Nat.zero_add,cell_of_row w g _ cur T f hb]
 exact h j v hj
theorem zRh {t T : TypeId} {xa xv : Operand} {g k k' : Nat} {cur : Array Value} {vs : List Value} {q : Bool} {A B : List (Nat × Obj)} (F : List (Nat × Obj) → List (Nat × Obj)) (hF : Fr n a L D) (hc : (lI L o && o.dst.isNone) = true) (hS : St E w0 X w Y (F [(g,.cells cur T (0,0))])) (hM : ∀ rb,F rb = A ++ (rb ++ B))
  (ho : o.op = .store t xa xv) (ha : evL L xa = .pointer (some ⟨g,k,none⟩)) (hv : (evL L xv).cells.toList = vs) (ht : ldT P t = some (q,vs.length)) (h1 : vs.all Value.oneCell' = true) (hk : k = k') (hle : k' + vs.length ≤ cur.size)
  (kont : ∀ w1,St E w0 X w1 Y (F [(g,.cells (vT cur k' vs) T (0,0))]) → Le (rd w Y) (rd w1 Y) → K a w1) : o.wp P a w K Q := by
 subst hk hv
 have hS' := hS
 rw [hM] at hS'
 have hi' : (A ++ ([(g,Obj.cells cur T (0,0))] ++ B))[A.length]? = some (g,.cells cur T (0,0)) := by simp
 refine zD A.length _ hF hc hS' ho ha rfl ht (by simp) h1 hi' (by simpa using hle) rfl rfl (fun w1 h2 h3 => kont w1 ?_ h3)
 rw [hM]
 simpa [List.set_append] using h2
theorem zIs (z : Array Value) (n : Nat) : (madeCells z n).size = n := by simp [madeCells]
theorem zWl (z : Array Value) (n p : Nat) (h : p < n) (hz : 0 < z.size) : (madeCells z n)[p]? = z[p % z.size]? := by
 have h1 : p % z.size < z.size := Nat.mod_lt _ hz
 simp [madeCells,h,h1]
theorem zSu {α : Type} {z : Array Value} {size : Nat} {z0 : α} (hz : z.size = size) (m : Nat) : (madeCells z (m * size)).toList.take (m * size) = mO (List.replicate m (⟨z0,z.toList⟩ : GE α)) := by
 subst hz
 have hes : ∀ e ∈ List.replicate m (⟨z0,z.toList⟩ : GE α),e.cs.length = z.size := fun e he => by rw [List.eq_of_mem_replicate he]; simp
 apply List.ext_getElem?
 intro p
 by_cases hp : p < m * z.size
 ·have hs0 : 0 < z.size := by
   rcases Nat.eq_zero_or_pos z.size with h0 | h0
   ·rw [h0] at hp; simp at hp
   ·exact h0
  have hq : p / z.size < m := Nat.div_lt_of_lt_mul (by rw [Nat.mul_comm]; exact hp)
  have hpe : p / z.size * z.size + p % z.size = p := by rw [Nat.mul_comm]; exact Nat.div_add_mod p z.size
  have hmod : p % z.size < z.size := Nat.mod_lt _ hs0
  have h8 := nT (List.replicate m (⟨z0,z.toList⟩ : GE α)) (p / z.size) ⟨z0,z.toList⟩ hes (by simp [hq]) (p % z.size) z[p % z.size] (by simp [hmod])
  rw [hpe] at h8
  rw [h8,List.getElem?_take,if_pos hp,show (madeCells z (m * z.size)).toList[p]? = (madeCells z (m * z.size))[p]? by simp,zWl z _ p hp hs0]
  simp [hmod]
 ·rw [List.getElem?_take,if_neg hp,List.getElem?_eq_none]
  rw [zKa hes,List.length_replicate]; omega
theorem zOg {α : Type} {Cl : Rd → List Value → α → Prop} {t e : TypeId} {xl : Operand} {l : Int} {m size b : Nat} {i0 : TypeInfo} {z0 : α} {A B : List (Nat × Obj)} {r : World → Hid → Rd} (F : List (Nat × Obj) → List (Nat × Obj)) (hF : Fr n a L D) (hc : opk L o d n = true) (hS : St E w0 X w Y (F [])) (hM : ∀ rb,F rb = A ++ (rb ++ B))
  (ho : o.op = .makeSlice t xl xl) (hl : evL L xl = .int .i64 l) (hm : l = (m : Int)) (ht : P.underlying t = some (.slice e)) (hi : P.info? e = some i0) (hz : i0.zero = some (zI i0)) (hs : i0.size = size) (hzs : (zI i0).cells.size = size) (hb : i0.bytes = b) (hby : b * m ≤ 281474976710656) (h63 : m ≤ 140737488355328)
  (hz0 : ∀ r,Cl r (zI i0).cells.toList z0)
  (k : ∀ rb ad w1 Y1,jX Cl e size (r w1 Y1) rb ad m m (List.replicate m z0) → St E w0 X w1 Y1 (F rb) → Le (rd w Y) (rd w1 Y1) → ∀ a1,Fr n a1 ((d,.slice ad m m) :: L) D → K a1 w1) : o.wp P a w K Q := by
 refine fC (fun b => .slice (some ⟨b,0,none⟩) m m) (.cells (madeCells (zI i0).cells (m * i0.size)) e (0,0)) hF hc hS (fun w => ?_) (fun b w1 Y1 h1 h2 _ a1 G1 => ?_)
 ·have hb' : (i0.bytes : Int) * (m : Int) ≤ 281474976710656 := by
   have h : ((i0.bytes * m : Nat) : Int) ≤ 281474976710656 := by rw [hb]; omega
   rwa [Int.natCast_mul] at h
  have hr := run_make (P := P) w t e i0 (zI i0) ht hi hz .i64 .i64 (m : Int) (m : Int) (by omega) (Int.le_refl _) hb' (by omega)
  simp only [Int.toNat_natCast] at hr
  unfold execOp
  simp only [ho,hl,hm,hr,Sem.run_bind,Sem.run_pure,Result.andThen_ok]
 ·have C2 : St E w0 X w1 Y1 (F [(b,.cells (madeCells (zI i0).cells (m * i0.size)) e (0,0))]) := by
   rw [hM] at h1 ⊢
   exact h1.perm (by simp)
  have hrow : Row m m size (madeCells (zI i0).cells (m * i0.size)) (mO (List.replicate m (⟨z0,(zI i0).cells.toList⟩ : GE α))) := by
   rw [hs]
   exact ⟨Nat.le_refl _,by simp only [maxLen]; omega,zIs _ _,zSu hzs m⟩
  refine k _ _ w1 Y1 ⟨List.replicate m ⟨z0,(zI i0).cells.toList⟩,.inr ⟨b,_,rfl,rfl,hrow⟩,by simp,fun x hx => ?_,by simp⟩ C2 h2 a1 G1
  rw [List.eq_of_mem_replicate hx]
  exact ⟨by simpa using hzs,fun r' _ => hz0 r'⟩
end
theorem jX.opn2 {α : Type} {Cl : Rd → List Value → α → Prop} {T : TypeId} {size : Nat} {r : Rd} {g m cap i : Nat} {cur : Array Value} {L : List α} {x : α} (h : jX Cl T size r [(g,.cells cur T (0,0))] (some ⟨g,0,none⟩) m cap L) (hx : L[i]? = some x) : ∃ cs,i < m ∧ (cs.length = size ∧ ∀ r',Le r r' → Cl r' cs x) ∧ ∀ j v,cs[j]? = some v → cur[i * size + j]? = some v := by
 obtain ⟨g',cur',cs,e1,_,h1,h2,h3⟩ := h.opn hx
 cases e1
 exact ⟨cs,h1,h2,h3⟩
theorem yX.sub {w : World} {b off : Nat} {vs : List Value} (h : yX w ⟨b,off,none⟩ vs) (n m : Nat) : yX w ⟨b,off + n,none⟩ ((vs.drop n).take m) := fun j v hj => by
 rw [List.getElem?_take] at hj
 split at hj
 ·rw [List.getElem?_drop] at hj
  have := h (n + j) v hj
  rw [xC] at *
  rwa [← Nat.add_assoc] at this
 ·cases hj
theorem grG {R : Rg} {Pd : List Pn} {c : Array Bool × List (Nat × Value)} {M : List (Nat × Obj)} {r : Rd} (i j k size n m : Nat) {T : TypeId} {g : Nat} {cur : Array Value} {cs : List Value} (hcur : ∀ j v,cs[j]? = some v → cur[k * size + j]? = some v) (cont : Gt R Pd (gv R i (ldV (ldG R.P (qD R.ops i)) ((cs.drop n).take m)) c) M r)
  (hj : R.M0[j]? = some (g,.cells cur T (0,0)) := by kernel_rfl)
  (hi : R.ops[i]? = some (qD R.ops i) := by kernel_rfl) (hc : gok R Pd c i = true := by kernel_rfl) (hT : (zFr R.ops R.T i && !kX R.T c.1) = true := by kernel_rfl)
  (ho : (qD R.ops i).op = .load (zEc (qD R.ops i)) (ldX (qD R.ops i)) := by kernel_rfl) (hx : evL c.2 (ldX (qD R.ops i)) = .pointer (some ⟨g,0 + k * size + n,none⟩) := by kernel_rfl) (ht : ldT R.P (zEc (qD R.ops i)) = some (ldG R.P (qD R.ops i),((cs.drop n).take m).length) := by kernel_rfl) (hg : (ldG R.P (qD R.ops i) || ((cs.drop n).take m).length == 1) = true := by kernel_rfl) : Gt R Pd c M r :=
 zJz i (.inr ⟨hT,fun w hS => zB ho hx ht (by simpa using hg) ((zKd (hS.1 _ (List.mem_of_getElem? hj)) hcur).sub n m)⟩) cont hi hc
end Go.Gv
namespace Go.Gv
open Go Go.Instr IntKind
inductive zIv {β γ : Type} (R : β → γ → Prop) : List β → List γ → Prop
  | nil : zIv R [] []
  | cons {a b l m} : R a b → zIv R l m → zIv R (a :: l) (b :: m)
theorem zIv.imp {β γ : Type} {R S : β → γ → Prop} {l : List β} {m : List γ} (h : zIv R l m) (k : ∀ a b,R a b → S a b) : zIv S l m := by
 induction h with
 | nil => exact .nil
 | cons h _ ih => exact .cons (k _ _ h) ih
section
variable {α : Type} {V : Rd → Value → α → Prop} {r r' : Rd} {es : List (Int × Value)} {l : List (Int × α)} {z : Int} {zero : Value} {z0 : α}
def tY (z : Int) (z0 : α) : List (Int × α) → α
 | [] => z0
 | p :: l => bif z == p.1 then p.2 else tY z z0 l
def zBs (z : Int) (v : α) : List (Int × α) → List (Int × α)
 | [] => [(z,v)]
 | p :: l => bif z == p.1 then (z,v) :: l else p :: zBs z v l
structure pF (V : Rd → Value → α → Prop) (r : Rd) (es : List (Int × Value)) (l : List (Int × α)) : Prop where
 all : zIv (fun e x => e.1 = x.1 ∧ V r e.2 x.2) es l
 nd : (es.map Prod.fst).Nodup
 rng : ∀ x ∈ es,-9223372036854775808 ≤ x.1 ∧ x.1 ≤ 9223372036854775807
theorem pF.nil : pF V r [] [] := ⟨.nil,List.nodup_nil,fun _ h => by cases h⟩
theorem pF.mono (hV : ∀ {r r' : Rd} {v : Value} {x : α},V r v x → Le r r' → V r' v x) (h : pF V r es l) (k : Le r r') : pF V r' es l :=
 ⟨h.all.imp fun _ _ h => ⟨h.1,hV h.2 k⟩,h.nd,h.rng⟩
theorem zIv.len {β γ : Type} {R : β → γ → Prop} {l : List β} {m : List γ} (h : zIv R l m) : l.length = m.length := by
 induction h with
 | nil => rfl
 | cons _ _ ih => simp [ih]
theorem pF.len (h : pF V r es l) : es.length = l.length := zIv.len h.all
theorem pF.keys (h : pF V r es l) : es.map Prod.fst = l.map Prod.fst := by
 have h1 := h.all
 clear h
 induction h1 with
 | nil => rfl
 | cons h _ ih => simp [h.1,ih]
theorem zQe (z : Int) : ∀ (l : List (Int × Value)) (i j : Nat),(fnd z l i).map Prod.snd = (fnd z l j).map Prod.snd
 | [],_,_ => rfl
 | p :: l,i,j => by
  simp only [fnd]
  cases z == p.1
  ·exact zQe z l (i + 1) (j + 1)
  ·rfl
theorem zPt (z : Int) (l : List (Int × Value)) (zero : Value) (i : Nat) : zNh z l zero = ((fnd z l i).map Prod.snd).getD zero := by
 rw [zQe z l i 0]
 unfold zNh
 cases fnd z l 0 <;> rfl
theorem zRy (z : Int) (p : Int × Value) (l : List (Int × Value)) (zero : Value) : zNh z (p :: l) zero = bif z == p.1 then p.2 else zNh z l zero := by
 rw [zPt z (p :: l) zero 0,zPt z l zero 1]
 simp only [fnd]
 cases z == p.1 <;> rfl
theorem pF.get (h : pF V r es l) (hz : V r zero z0) : V r (zNh z es zero) (tY z z0 l) := by
 have h1 := h.all
 clear h
 induction h1 with
 | nil => exact hz
 | @cons e x es l h _ ih =>
  rw [zRy,tY,← h.1]
  cases z == e.1
  ·exact ih
  ·exact h.2
theorem zEm (z : Int) (v : Value) : ∀ (es : List (Int × Value)),(zAq z v es).map Prod.fst = if z ∈ es.map Prod.fst then es.map Prod.fst else es.map Prod.fst ++ [z]
 | [] => rfl
 | p :: es => by
  have ih := zEm z v es
  simp only [zAq,List.map_cons,List.mem_cons]
  cases hz : z == p.1
  ·have hne : z ≠ p.1 := by simpa using hz
   simp only [cond_false,List.map_cons,ih,hne,false_or]
   split <;> rfl
  ·have he : z = p.1 := by simpa using hz
   simp [he]
theorem pF.put {v : Value} {x : α} (h : pF V r es l) (hz : -9223372036854775808 ≤ z ∧ z ≤ 9223372036854775807) (hv : V r v x) : pF V r (zAq z v es) (zBs z x l) := by
 refine ⟨?_,?_,?_⟩
 ·have h1 := h.all
  clear h
  induction h1 with
  | nil => exact .cons ⟨rfl,hv⟩ .nil
  | @cons e y es l h ht ih =>
   rw [zAq,zBs,← h.1]
   cases z == e.1
   ·exact .cons h ih
   ·exact .cons ⟨rfl,hv⟩ ht
 ·rw [zEm]
  split
  ·exact h.nd
  ·rename_i hn
   rw [List.nodup_append]
   exact ⟨h.nd,by simp,fun a ha b hb => by
    rw [List.mem_singleton] at hb
    rintro rfl
    exact hn (hb ▸ ha)⟩
 ·intro y hy
  have hk : y.1 ∈ (zAq z v es).map Prod.fst := List.mem_map_of_mem hy
  rw [zEm] at hk
  have hold : y.1 ∈ es.map Prod.fst → -9223372036854775808 ≤ y.1 ∧ y.1 ≤ 9223372036854775807 := fun hm => by
   obtain ⟨x,hx,e⟩ := List.mem_map.1 hm
   exact e ▸ h.rng x hx
  split at hk
  ·exact hold hk
  ·rcases List.mem_append.1 hk with hm | hm
   ·exact hold hm
   ·rw [List.mem_singleton] at hm; exact hm ▸ hz
def zPl (x : Int) : List Int → List Int
 | [] => [x]
 | y :: l => if x ≤ y then x :: y :: l else y :: zPl x l
def dN : List Int → List Int
 | [] => []
 | x :: l => zPl x (dN l)
theorem zEl (x : Int) : ∀ l : List Int,(zPl x l).Perm (x :: l)
 | [] => .refl _
 | y :: l => by
  unfold zPl
  split
  ·exact .refl _
  ·exact ((zEl x l).cons y).trans (.swap x y l)
theorem lG : ∀ l : List Int,(dN l).Perm l
 | [] => .refl _
 | x :: l => (zEl x (dN l)).trans ((lG l).cons x)
theorem zFq (x : Int) : ∀ l : List Int,l.Pairwise (· ≤ ·) → (zPl x l).Pairwise (· ≤ ·)
 | [],_ => by simp [zPl]
 | y :: l,h => by
  have h1 := List.pairwise_cons.1 h
  unfold zPl
  split
  ·rename_i hxy
   exact .cons (fun a ha => by
    rcases List.mem_cons.1 ha with rfl | ha
    ·exact hxy
    ·exact Int.le_trans hxy (h1.1 a ha)) h
  ·rename_i hxy
   refine .cons (fun a ha => ?_) (zFq x l h1.2)
   rcases List.mem_cons.1 ((zEl x l).mem_iff.1 ha) with rfl | ha
   ·omega
   ·exact h1.1 a ha
theorem bV : ∀ l : List Int,(dN l).Pairwise (· ≤ ·)
 | [] => .nil
 | x :: l => zFq x _ (bV l)
theorem zJf {l m : List Int} (h : l.Perm m) (hl : l.Pairwise (· ≤ ·)) (hm : m.Pairwise (· ≤ ·)) : l = m :=
 List.Perm.eq_of_pairwise (le := (· ≤ ·)) (fun _ _ _ _ h1 h2 => Int.le_antisymm h1 h2) hl hm h
end
section
variable {α : Type} {V : Rd → Value → α → Prop} {P : Program} {K : Act → World → Prop} {a : Act} {w w0 : World} {o : Oper} {n d : Nat} {L : List (Nat × Value)} {D : List Deferred} {E : Nat → Prop} {X Y : Hid} {M : List (Nat × Obj)} {Q : Exit → Act → World → Prop}
theorem zVr {T TK TV : TypeId} {xm xk : Operand} {b : Nat} {es : List (Int × Value)} {l : List (Int × α)} {z : Int} {zero : Value} {z0 : α} {r : Rd} (i : Nat) (hF : Fr n a L D) (hc : opk L o d n = true) (hS : St E w0 X w Y M)
  (ho : o.op = .lookup T xm xk false) (hm : evL L xm = .map (some b)) (hk : evL L xk = .int .i64 z) (hT : P.underlying T = some (.map TK TV)) (hK : P.underlying TK = some (.int .i64)) (hz : ∀ w,(zeroValue TV).run P w = .ok zero w)
  (hck : ∀ c w,(checkKey c 10000 TK (.int .i64 z)).run P w = .ok () w) (hM : M[i]? = some (b,pJ es)) (hR : pF V r es l) (h0 : V r zero z0)
  (k : ∀ v,V r v (tY z z0 l) → ∀ a1,Fr n a1 ((d,v) :: L) D → K a1 w) : o.wp P a w K Q :=
 zSk i hF hc hS ho hm hk hT ⟨_,hK⟩ hz hck hM (k _ (hR.get h0))
theorem zPk {T TK TV : TypeId} {xm xk xv : Operand} {b : Nat} {l : List (Int × Value)} {z : Int} {v : Value} (i : Nat) (hF : Fr n a L D) (hc : (lI L o && o.dst.isNone) = true) (hS : St E w0 X w Y M)
  (ho : o.op = .mapUpdate T xm xk xv) (hm : evL L xm = .map (some b)) (hk : evL L xk = .int .i64 z) (hv : evL L xv = v) (hT : P.underlying T = some (.map TK TV)) (hK : P.underlying TK = some (.int .i64))
  (hck : ∀ c w,(checkKey c 10000 TK (.int .i64 z)).run P w = .ok () w) (hM : M[i]? = some (b,pJ l))
  (k : ∀ es',es' = zAq z v l → ∀ w1,St E w0 X w1 Y (M.set i (b,pJ es')) → Le (rd w Y) (rd w1 Y) → K a w1) : o.wp P a w K Q :=
 zSj i hF hc hS ho hm hk hv hT ⟨_,hK⟩ hck hM (k _ rfl)
end
theorem zDa {P : Program} {w : World} {ρ : Operand → Value} {o : Oper} {t e : TypeId} {x ix : Operand} {b off nn : Nat} {kd : IntKind} {i : Int} {g : Bool} {m off' : Nat} (ho : o.op = .indexAddr t x ix) (ht : P.underlying t = some (.array nn e))
  (hx : ρ x = .pointer (some ⟨b,off,none⟩)) (hi : ρ ix = .int kd i) (he : ldT P e = some (g,m)) (h0 : 0 ≤ i) (h1 : i < nn) (hoff : off + i.toNat * m = off') :
  (execOp ρ o).run P w = .ok (.value (.pointer (some ⟨b,off',none⟩))) w := by
 unfold execOp
 simp only [ho,hx,hi,Instr.indexAt,asIntOf,underlying,sureAddr,ht,Sem.run_bind,Sem.run_pure,run_program,Result.andThen_ok,h0,h1,and_self,if_true,rW he,xC,hoff]
def lkM (o : Oper) : Operand := match o.op with
 | .lookup _ x _ _ => x
 | .mapUpdate _ x _ _ => x
 | .call c => c.args.getD 0 (.tmp 0)
 | _ => .tmp 0
def lkK (o : Oper) : Operand := match o.op with
 | .lookup _ _ x _ => x
 | .mapUpdate _ _ x _ => x
 | _ => .tmp 0
def lkV (o : Oper) : Operand := match o.op with
 | .mapUpdate _ _ _ x => x
 | _ => .tmp 0
section
variable {α : Type} {V : Rd → Value → α → Prop} {P : Program} {K : Act → World → Prop} {a : Act} {w w0 : World} {o : Oper} {n d : Nat} {L : List (Nat × Value)} {D : List Deferred} {E : Nat → Prop} {X Y : Hid} {M : List (Nat × Obj)} {Q : Exit → Act → World → Prop}
theorem zKl (T TK TV : TypeId) {b : Nat} {es : List (Int × Value)} {l : List (Int × α)} (z : Int) (zero : Value) (z0 : α) {r : Rd} (i : Nat) (hF : Fr n a L D) (hc : opk L o d n = true) (hS : St E w0 X w Y M)
  (ho : o.op = .lookup T (lkM o) (lkK o) false) (hm : evL L (lkM o) = .map (some b)) (hk : evL L (lkK o) = .int .i64 z) (hT : P.underlying T = some (.map TK TV)) (hK : P.underlying TK = some (.int .i64)) (hz : ∀ w,(zeroValue TV).run P w = .ok zero w)
  (hck : ∀ c w,(checkKey c 10000 TK (.int .i64 z)).run P w = .ok () w) (hM : M[i]? = some (b,pJ es)) (hR : pF V r es l) (h0 : V r zero z0)
  (k : ∀ v,V r v (tY z z0 l) → ∀ a1,Fr n a1 ((d,v) :: L) D → K a1 w) : o.wp P a w K Q :=
 zVr i hF hc hS ho hm hk hT hK hz hck hM hR h0 k
theorem zNl (T TK TV : TypeId) {b : Nat} (l : List (Int × Value)) (z : Int) (v : Value) (i : Nat) (hF : Fr n a L D) (hc : (lI L o && o.dst.isNone) = true) (hS : St E w0 X w Y M)
  (ho : o.op = .mapUpdate T (lkM o) (lkK o) (lkV o)) (hm : evL L (lkM o) = .map (some b)) (hk : evL L (lkK o) = .int .i64 z) (hv : evL L (lkV o) = v) (hT : P.underlying T = some (.map TK TV)) (hK : P.underlying TK = some (.int .i64))
  (hck : ∀ c w,(checkKey c 10000 TK (.int .i64 z)).run P w = .ok () w) (hM : M[i]? = some (b,pJ l))
  (k : ∀ es',es' = zAq z v l → ∀ w1,St E w0 X w1 Y (M.set i (b,pJ es')) → Le (rd w Y) (rd w1 Y) → K a w1) : o.wp P a w K Q :=
 zPk i hF hc hS ho hm hk hv hT hK hck hM k
theorem zVh (T TK TV : TypeId) {b : Nat} (l : List (Int × Value)) (i : Nat) (hF : Fr n a L D) (hc : opk L o d n = true) (hS : St E w0 X w Y M)
  (ho : o.op = .call { callee := .builtin .len,args := #[lkM o],argTypes := #[T] }) (hm : evL L (lkM o) = .map (some b)) (hT : P.underlying T = some (.map TK TV)) (hM : M[i]? = some (b,pJ l))
  (k : ∀ a1,Fr n a1 ((d,.int .i64 (l.length : Int)) :: L) D → K a1 w) : o.wp P a w K Q :=
 zYz i hF hc hS ho hm hT hM k
end
section
attribute [local semireducible] Go
theorem zN {r : Option Nat} {m : Nat} {P : Program} {Q : Exit → Act → World → Prop} {n : Nat} {D : List Deferred} {w : World} {c : Cf} (c' : Cf) (h : Go r m P Q n D w c') (hcu : c.cu = c'.cu := by kernel_rfl) (hk : c.k = c'.k := by kernel_rfl)
  (hs : bY c.L (c'.L.map (·.1)) = true := by kernel_rfl) (hl : keep c.L (c'.L.map (·.1)) = c'.L := by kernel_rfl) : Go r m P Q n D w c := by
 intro a hF
 rw [hcu,hk]
 exact h a (hF.as _ hs hl)
end
theorem zIf {P : Program} {Q : Exit → Act → World → Prop} {K : Act → World → Prop} {a : Act} {o : Oper} {n : Nat} {L : List (Nat × Value)} {D : List Deferred} {E : Nat → Prop} {w0 w : World} {X Y : Hid} {T : TypeId} {g k k' : Nat} {cur : Array Value} {vs : List Value} {q : Bool} {A B : List (Nat × Obj)} (F : List (Nat × Obj) → List (Nat × Obj)) (hF : Fr n a L D) (hc : (lI L o && o.dst.isNone) = true) (hS : St E w0 X w Y (F [(g,.cells cur T (0,0))])) (hM : ∀ rb,F rb = A ++ (rb ++ B))
  (ho : o.op = .store (stT o) (stA o) (stV o)) (ha : evL L (stA o) = .pointer (some ⟨g,k,none⟩)) (hv : (evL L (stV o)).cells.toList = vs) (ht : ldT P (stT o) = some (q,vs.length)) (h1 : vs.all Value.oneCell' = true) (hk : k = k') (hle : k' + vs.length ≤ cur.size)
  (kont : ∀ w1,St E w0 X w1 Y (F [(g,.cells (vT cur k' vs) T (0,0))]) → Le (rd w Y) (rd w1 Y) → K a w1) : o.wp P a w K Q :=
 zRh F hF hc hS hM ho ha hv ht h1 hk hle kont
section
variable {R : Rg} {Pd : List Pn} {c : Array Bool × List (Nat × Value)} {M : List (Nat × Obj)} {r : Rd}
end
theorem jX.bnd {α : Type} {Cl : Rd → List Value → α → Prop} {T : TypeId} {size : Nat} {r : Rd} {rb : List (Nat × Obj)} {ad : Option Addr} {m cap : Nat} {L : List α} (h : jX Cl T size r rb ad m cap L) : (L.length : Int) ≤ 9223372036854775807 := by
 have h0 := h.len
 obtain ⟨es,h1,h2,h3,h4⟩ := h
 rcases h1 with ⟨_,_,h5,_,_⟩ | ⟨g,cur,_,_,hr⟩
 ·omega
 ·have h6 := hr.hn
  have h7 := hr.hcap
  simp only [maxLen] at h7
  omega
end Go.Gv

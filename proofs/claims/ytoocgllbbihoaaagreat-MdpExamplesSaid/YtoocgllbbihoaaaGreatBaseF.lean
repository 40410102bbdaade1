/- Parts of the proof: GwB FS F42 F43 F44 R11 R12 R13 R14 R15 R16 R17 R18 R19 R20 R21 R22 R23 R24 R25. By an AI agent. -/
import Derived.Shelf.Sort.Plain
import Derived.Test.YtoocgllbbihoaaaGreatRows
import Derived.Test.YtoocgllbbihoaaaGreatBaseA
import Derived.Test.YtoocgllbbihoaaaGreatBaseB
import Derived.Test.YtoocgllbbihoaaaGreatBaseC
import Derived.Test.YtoocgllbbihoaaaGreatBaseD
import Derived.Test.YtoocgllbbihoaaaGreatBaseE
set_option linter.unusedVariables false
set_option linter.unusedSimpArgs false
set_option linter.unnecessarySimpa false
/- A row that a call owns, sorted by the library. By an AI agent; over any program. -/
namespace Go.Gv
open Go.RowKit Go.Sort
theorem putCells_row {zs : List Int} {cur : Array Value} (hl : zs.length ≤ cur.size) : (putCells (Value.int .i64) 0 zs.toArray cur).toList.take zs.length = ivals zs := by
  apply List.ext_getElem?
  intro j
  rw [List.getElem?_take]
  split
  · rename_i hj
    have hc : j < cur.size := by omega
    simp only [Array.getElem?_toList, putCells, Array.getElem?_mapIdx, Array.getElem?_eq_getElem hc, Option.map_some, ivals, List.getElem?_map, List.getElem?_eq_getElem hj]
    rw [if_pos ⟨Nat.zero_le _, by simpa using hj⟩]
    simp [getElem!_pos, hj]
  · rename_i hj
    rw [List.getElem?_eq_none]
    simp [ivals]; omega
theorem St.sorted {E : Nat → Prop} {w0 w : World} {X Y : Hid} {M : List (Nat × Obj)} (hS : St E w0 X w Y M) (i : Nat) {g k cap n : Nat} {cur : Array Value} {T : TypeId} {zs : List Int} {os : Array Obj} (hi : M[i]? = some (g, .cells cur T (0, 0))) (hrow : Row k cap 1 cur (ivals zs)) (hk : k = zs.length) :
    ∃ cur', Row k cap 1 cur' (ivals (zs.mergeSort fun x y => decide (x ≤ y))) ∧ St E w0 X (grow (putRow (Value.int .i64) (Go.Sort.ahead w n) g 0 (zs.mergeSort fun x y => decide (x ≤ y)).toArray) os) Y (M.set i (g, .cells cur' T (0, 0))) ∧ Le (rd w Y) (rd (grow (putRow (Value.int .i64) (Go.Sort.ahead w n) g 0 (zs.mergeSort fun x y => decide (x ≤ y)).toArray) os) Y) := by
  have hg := hS.get i hi
  have hglt : g < w.heap.size := (Array.getElem?_eq_some_iff.1 hg).1
  have hlen : (zs.mergeSort fun x y => decide (x ≤ y)).length = zs.length := List.length_mergeSort _
  generalize (zs.mergeSort fun x y => decide (x ≤ y)) = ss at hlen
  have hsz := hrow.hsz
  have hn := hrow.hn
  refine ⟨putCells (Value.int .i64) 0 ss.toArray cur, ⟨hrow.hn, hrow.hcap, by simp [putCells, hsz], ?_⟩, ?_, ?_⟩
  · have := putCells_row (zs := ss) (cur := cur) (by omega)
    rw [Nat.mul_one, hk, ← hlen]; exact this
  · refine hS.set i _ hi ?_ rfl rfl rfl ?_ (fun j hj hne => ?_)
    · simp [grow, putRow, mapBlock, Go.Sort.ahead]
    · simp only [grow, putRow, mapBlock, Go.Sort.ahead]
      rw [Array.getElem?_append_left (by simpa using hglt), Array.getElem?_modify, if_pos rfl, hg]
      rfl
    · simp only [grow, putRow, mapBlock, Go.Sort.ahead]
      rw [Array.getElem?_append_left (by simpa using hj), Array.getElem?_modify, if_neg (fun e => hne e.symm)]
  · refine hS.le_set i hi (fun j hj hne => ?_)
    simp only [grow, putRow, mapBlock, Go.Sort.ahead]
    rw [Array.getElem?_append_left (by simpa using hj), Array.getElem?_modify, if_neg (fun e => hne e.symm)]
theorem St.holds {E : Nat → Prop} {w0 w : World} {X Y : Hid} {M : List (Nat × Obj)} (hS : St E w0 X w Y M) (i : Nat) {g k cap : Nat} {cur : Array Value} {T : TypeId} {zs : List Int} (hi : M[i]? = some (g, .cells cur T (0, 0))) (hrow : Row k cap 1 cur (ivals zs)) (hk : k = zs.length) : Holds (Value.int .i64) w g 0 zs.toArray := by
  have hg := hS.get i hi
  intro j hj
  have hj' : j < zs.length := by simpa using hj
  rw [Nat.zero_add]
  refine ⟨?_, frozen_of_row w g _ cur T hg⟩
  rw [cell_of_row w g j cur T _ hg]
  have h1 : (cur.toList.take (k * 1))[j]? = (ivals zs)[j]? := by rw [hrow.hxs]
  rw [List.getElem?_take, if_pos (by omega)] at h1
  rw [← Array.getElem?_toList, h1]
  simp [ivals, hj']
end Go.Gv
/- slices.Sort at a slice of int, by the library's contract, over rows that a call owns. By an AI agent. -/
namespace Go.Proofs.YtoocgllbbihoaaaGreat
open Go Go.Gv Go.RowKit Go.Sort
set_option maxRecDepth 100000
set_option maxHeartbeats 1000000
def sortRen : Go.Shelf.Ren := ⟨fun | 189 => 60 | 125 => 93 | 257 => 92 | 128 => 127 | 129 => 128 | 294 => 118 | 295 => 119 | 296 => 120 | 297 => 121 | 298 => 122 | 299 => 123 | 216 => 124 | 300 => 125 | 301 => 126 | 328 => 142 | 329 => 143 | 330 => 144 | 331 => 145 | 332 => 146 | 215 => 147 | 343 => 155 | n => n, fun | 28 => 30 | 3 => 3 | 46 => 119 | 0 => 0 | 51 => 124 | 53 => 123 | 4 => 4 | 183 => 141 | 182 => 140 | 131 => 146 | 5 => 5 | 9 => 9 | 218 => 162 | 222 => 166 | 228 => 175 | 229 => 176 | n => n, fun n => n⟩
theorem sortLays : Go.Proofs.Lays.n189 Tryz.prog sortRen := { mixed := by kernel_rfl, f125 := Tryz.func93.trans (congrArg some (by kernel_rfl)), f128 := Tryz.func127.trans (congrArg some (by kernel_rfl)), f129 := Tryz.func128.trans (congrArg some (by kernel_rfl)), f189 := Tryz.func60.trans (congrArg some (by kernel_rfl)), f215 := Tryz.func147.trans (congrArg some (by kernel_rfl)), f216 := Tryz.func124.trans (congrArg some (by kernel_rfl)), f257 := Tryz.func92.trans (congrArg some (by kernel_rfl)), f294 := Tryz.func118.trans (congrArg some (by kernel_rfl)), f295 := Tryz.func119.trans (congrArg some (by kernel_rfl)), f296 := Tryz.func120.trans (congrArg some (by kernel_rfl)), f297 := Tryz.func121.trans (congrArg some (by kernel_rfl)), f298 := Tryz.func122.trans (congrArg some (by kernel_rfl)), f299 := Tryz.func123.trans (congrArg some (by kernel_rfl)), f300 := Tryz.func125.trans (congrArg some (by kernel_rfl)), f301 := Tryz.func126.trans (congrArg some (by kernel_rfl)), f328 := Tryz.func142.trans (congrArg some (by kernel_rfl)), f329 := Tryz.func143.trans (congrArg some (by kernel_rfl)), f330 := Tryz.func144.trans (congrArg some (by kernel_rfl)), f331 := Tryz.func145.trans (congrArg some (by kernel_rfl)), f332 := Tryz.func146.trans (congrArg some (by kernel_rfl)), f343 := Tryz.func155.trans (congrArg some (by kernel_rfl)), t0 := Tryz.underlying0, a0 := Tryz.isAgg0, z0 := Tryz.sizeOf0, v0 := Tryz.zeroValue0, t3 := Tryz.underlying3, a3 := Tryz.isAgg3, z3 := Tryz.sizeOf3, v3 := Tryz.zeroValue3, t4 := Tryz.underlying4, a4 := Tryz.isAgg4, z4 := Tryz.sizeOf4, v4 := Tryz.zeroValue4, t5 := Tryz.underlying5, a5 := Tryz.isAgg5, z5 := Tryz.sizeOf5, v5 := Tryz.zeroValue5, t9 := Tryz.underlying9, a9 := Tryz.isAgg9, z9 := Tryz.sizeOf9, v9 := Tryz.zeroValue9, t28 := Tryz.underlying30, a28 := Tryz.isAgg30, z28 := Tryz.sizeOf30, v28 := Tryz.zeroValue30, t46 := Tryz.underlying119, a46 := Tryz.isAgg119, z46 := Tryz.sizeOf119, v46 := Tryz.zeroValue119, t51 := Tryz.underlying124, a51 := Tryz.isAgg124, z51 := Tryz.sizeOf124, v51 := Tryz.zeroValue124, t53 := Tryz.underlying123, a53 := Tryz.isAgg123, z53 := Tryz.sizeOf123, v53 := Tryz.zeroValue123, t131 := Tryz.underlying146, a131 := Tryz.isAgg146, z131 := Tryz.sizeOf146, v131 := Tryz.zeroValue146, t182 := Tryz.underlying140, a182 := Tryz.isAgg140, z182 := Tryz.sizeOf140, v182 := Tryz.zeroValue140, t183 := Tryz.underlying141, a183 := Tryz.isAgg141, z183 := Tryz.sizeOf141, v183 := Tryz.zeroValue141, t218 := Tryz.underlying162, a218 := Tryz.isAgg162, z218 := Tryz.sizeOf162, v218 := Tryz.zeroValue162, t222 := Tryz.underlying166, a222 := Tryz.isAgg166, z222 := Tryz.sizeOf166, v222 := Tryz.zeroValue166, t228 := Tryz.underlying175, a228 := Tryz.isAgg175, z228 := Tryz.sizeOf175, v228 := Tryz.zeroValue175, t229 := Tryz.underlying176, a229 := Tryz.isAgg176, z229 := Tryz.sizeOf176, v229 := Tryz.zeroValue176 }
theorem sort_c (blk cap : Nat) (zs : List Int) (w : World) (hH : Holds (Value.int .i64) w blk 0 zs.toArray) (hblk : blk < w.heap.size) (hsz : zs.length < 4611686018427387904) :
    Calls Tryz.prog 60 #[.slice (some ⟨blk, 0, none⟩) zs.length cap] w fun e w' => e = .returned (.tuple #[]) ∧ ∃ n os, w' = grow (putRow (Value.int .i64) (Sort.ahead w n) blk 0 (zs.mergeSort fun x y => decide (x ≤ y)).toArray) os :=
  Go.Proofs.Any.slices_Sort_int sortLays blk 0 cap zs w hH hblk hsz
end Go.Proofs.YtoocgllbbihoaaaGreat
namespace Go.Proofs.YtoocgllbbihoaaaGreat
open Go Go.Gv Go.RowKit
set_option maxRecDepth 100000
set_option maxHeartbeats 1000000
open Go.Sort in
theorem sort_St {E : Nat → Prop} {w0 w : World} {X Y : Hid} {M : List (Nat × Obj)} (hS : St E w0 X w Y M) (i : Nat) {g k cap : Nat} {cur : Array Value} {T : TypeId} {zs : List Int} (hi : M[i]? = some (g, .cells cur T (0, 0))) (hrow : Row k cap 1 cur (ivals zs)) (hk : k = zs.length) (hb : k ≤ 1000) :
    Calls Tryz.prog 60 #[.slice (some ⟨g, 0, none⟩) k cap] w (fun e w' => ∃ v, e = .returned v ∧ (v = .tuple #[] ∧ ∃ cur', Row k cap 1 cur' (ivals (zs.mergeSort fun x y => decide (x ≤ y))) ∧ St E w0 X w' Y (M.set i (g, .cells cur' T (0, 0))) ∧ Le (rd w Y) (rd w' Y))) := by
  subst hk
  refine (sort_c g cap zs w (hS.holds i hi hrow rfl) (Array.getElem?_eq_some_iff.1 (hS.get i hi)).1 (by omega)).mono ?_
  rintro e w' ⟨rfl, n, os, rfl⟩
  obtain ⟨cur', h1, h2, h3⟩ := hS.sorted i (n := n) (os := os) hi hrow rfl
  exact ⟨_, rfl, rfl, cur', h1, h2, h3⟩
theorem TRow.some {e : TypeId} {sz m cap : Nat} {rb : List (Nat × Obj)} {ad : Option Addr} {xs : List Value} (h : TRow e sz rb ad m cap xs) (hx : xs ≠ []) : ∃ g cur, rb = [(g, .cells cur e (0, 0))] ∧ ad = some ⟨g, 0, none⟩ ∧ Row m cap sz cur xs := by
  rcases h with ⟨_, _, _, _, h⟩ | h
  · exact absurd h hx
  · exact h
def ReachV (m : Mdp) (s : Int) (l : List Int) (e : Int) : Prop := (m.chk ≠ 0 ∧ e = m.chk ∧ l = []) ∨ (m.chk = 0 ∧ (s < 0 ∨ (m.states.length : Int) ≤ s) ∧ e = 8 ∧ l = []) ∨ (m.chk = 0 ∧ 0 ≤ s ∧ s < m.states.length ∧ e = 0 ∧ Reached m s l)
theorem unseen_rep : ∀ n, unseen (List.replicate n false) = n
  | 0 => rfl
  | n + 1 => by rw [List.replicate_succ, unseen, unseen_rep n]; simp; omega
theorem vis_ne {m : Mdp} {n : Nat} {N : List Int} {S' : List Bool} {R : Int → Prop} {i : Nat} (h : Vis m (List.replicate n false) N S' R) (hi : i < n) (h2 : S'.getD i false = true) : ivals ([] ++ N) ≠ [] := by
  rcases (h.mem i (by simpa using hi)).1 h2 with h3 | h3
  · rw [List.getD_eq_getElem?_getD, List.getElem?_replicate] at h3; split at h3 <;> cases h3
  · intro e; rw [List.nil_append, ivals, List.map_eq_nil_iff] at e; rw [e] at h3; cases h3
theorem vis_fin {m : Mdp} {N : List Int} {S' : List Bool} {s : Int} (hc : m.chk = 0) (h0 : 0 ≤ s) (h1 : s < m.states.length) (h : Vis m (List.replicate m.states.length false) N S' (· = s)) (hs : S'.getD s.toNat false = true) : Reached m s (N.mergeSort fun x y => decide (x ≤ y)) :=
  h.reached (fun t ht a ha o ho => by
    obtain ⟨g1, g2, _⟩ := h.fresh t ht
    rw [List.length_replicate] at g2
    exact m_range hc (getD_mem (by omega)) ha ho) h0 h1 hs
theorem Reach_c (w : World) (X : Hid) (hX : ∀ k o, X k o → k < w.heap.size) (m : Mdp) (ad : Option Addr) (len cap : Nat) (h : Limbs (rd w X) ad len cap m.disc.ln) (ae : Option Addr) (le ce : Nat) (h2 : Limbs (rd w X) ae le ce m.disc.ld) (st : Option Addr) (ls cs : Nat) (hst : StatesR (rd w X) st ls cs m.states) (s : Int) : Calls Tryz.prog 30 #[.agg #[.bool m.disc.neg, .slice ad len cap, .slice ae le ce, .slice st ls cs], .int .i64 s] w (Ret E0 w fun w' u => ∃ (ad : Option Addr) (len cap : Nat) (l : List Int) (e : Int), u = .tuple #[.slice ad len cap, .int .i64 e] ∧ Ints (rd w' (old w)) ad len cap l ∧ ReachV m s l e) := by
 obtain rfl := hst.hlen
 have hcaps := hst.hcap
 have hbigs := hst.hbig
 refine zen Tryz.func30 ?_
 have A0 : St E0 w X w X [] := St.start hX
 refine zz 2 ?_
 refine zn pn (.cells #[.bool m.disc.neg, .slice ad len cap, .slice ae le ce, .slice st m.states.length cs] 28 (0, 0)) A0 ?_
 intro b3 w3 Y3 A3 j3 hu3
 refine zn pn (.cells #[.slice none 0 0] 30 (0, 0)) A3 ?_
 intro b5 w5 Y5 A5 j5 hu5
 refine zz 6 ?_
 refine zo 1 A5 ?_
 refine zc A5 (mCheck_c _ _ A5.lt m _ _ _ (h.mono (Le2 j3 j5)) _ _ _ (h2.mono (Le2 j3 j5)) _ _ _ (hst.mono (Le2 j3 j5))) ?_
 rintro v7 w7 A7 j7 hu7 rfl
 refine zz 11 ?_
 refine zb 11 (b := ((m.chk) != 0)) (fun hc8 => ?_) (fun hc8 => ?_)
 ·
  have ht9 : (m.chk) ≠ 0 := by simpa using hc8
  refine zz 4 ?_
  refine zx 0 #[.slice none 0 0] A7 ?_
  intro w10 A10 j10
  refine zz 6 ?_
  refine zrS [.cell 4 30, .tmp 5] (v := .tuple #[.slice none 0 0, .int .i64 m.chk]) (Res.cM A10 0 (Res.tZ Res.nil)) ?_
  exact ⟨A10.upd, _, rfl, _, _, _, _, _, rfl, ints_nil, .inl ⟨ht9, rfl, rfl⟩⟩
 have ht11 : (m.chk) = 0 := by simpa using hc8
 have hm0 : m.chk = 0 := by simpa using ht11
 have hn200 := (Mdp.chk_ok hm0).2.2.2.2.1
 refine zz 6 ?_
 refine zt 18 (p := (s) < 0) (fun ht12 => ?_) (fun ht12 => ?_)
 ·
  refine zz 12 ?_
  refine zx 0 #[.slice none 0 0] A7 ?_
  intro w13 A13 j13
  refine zz 6 ?_
  refine zrS [.cell 4 30, .tmp 5] (v := .tuple #[.slice none 0 0, .int .i64 8]) (Res.cM A13 0 (Res.tZ Res.nil)) ?_
  exact ⟨A13.upd, _, rfl, _, _, _, _, _, rfl, ints_nil, .inr (.inl ⟨hm0, .inl ht12, rfl, rfl⟩)⟩
 refine zz 2 ?_
 refine zo 1 A7 ?_
 refine zz 6 ?_
 refine zt 15 (p := (s) ≥ (m.states.length : Int)) (fun ht14 => ?_) (fun ht14 => ?_)
 ·
  refine zz 3 ?_
  refine zx 0 #[.slice none 0 0] A7 ?_
  intro w15 A15 j15
  refine zz 6 ?_
  refine zrS [.cell 4 30, .tmp 5] (v := .tuple #[.slice none 0 0, .int .i64 8]) (Res.cM A15 0 (Res.tZ Res.nil)) ?_
  exact ⟨A15.upd, _, rfl, _, _, _, _, _, rfl, ints_nil, .inr (.inl ⟨hm0, .inr (by omega), rfl, rfl⟩)⟩
 refine zz 7 ?_
 refine zo 1 A7 ?_
 refine zz 1 ?_
 refine zop (at1 [] Tryz.f30 [1, 1, 0]) 3 (fun a16 _ C16 hz16 => op_makeZ (l := (m.states.length : Int)) (e := 4) (z := .bool false) (i0 := Tryz.t4) m.states.length 1 C16 A7 ?_)
 intro gS w17 Y17 A17 j17 hu17 a18 C18
 rw [bvals_rep] at A17
 refine hz16 C18 ?_
 refine zn pn (.cells #[.slice none 0 0] 90 (0, 0)) A17 ?_
 intro b20 w20 Y20 A20 j20 hu20
 refine zx 0 #[.slice (some ⟨gS, 0, none⟩) m.states.length m.states.length] A20 ?_
 intro w21 A21 j21
 refine zz 4 ?_
 refine zn pn (.cells #[.nilFunc] 91 (0, 0)) A21 ?_
 intro b23 w23 Y23 A23 j23 hu23
 refine zz 5 ?_
 refine zx 0 #[.func (.func 59) #[] #[.pointer (some ⟨b20, 0, none⟩), .pointer (some ⟨b5, 0, none⟩), .pointer (some ⟨b3, 0, none⟩), .pointer (some ⟨b23, 0, none⟩)]] A23 ?_
 intro w24 A24 j24
 refine zz 4 ?_
 refine zo 0 A24 ?_
 refine zz 1 ?_
 have hc1_ := (Le7 j3 j5 j7 j17 j20 j21 j23).trans j24
 refine zop (at1 [] Tryz.f30 [1, 1, 1, 1, 1, 0]) 2 (fun a25 _ C25 hz25 => op_callFZ (vs := #[.int .i64 s, .pointer (some ⟨b20, 0, none⟩), .pointer (some ⟨b5, 0, none⟩), .pointer (some ⟨b3, 0, none⟩), .pointer (some ⟨b23, 0, none⟩)]) C25 (visit_c m _ w X _ _ [] [] b23 b20 gS b5 b3 m.disc.neg ad len cap ae le ce _ cs (List.replicate m.states.length false) none 0 0 [] s A24 (hst.mono hc1_) hm0 List.length_replicate (TRow.nil _ _) rfl (by rw [unseen_rep]; omega) (by omega) (by omega) rfl) ?_)
 rintro v26 w26 ⟨rfl, Y26, rb9, ad9, ml9, cap9, S9, N9, A26, j26, hr9, hm9, hV9, hroot, hb9⟩ a27 C27
 obtain ⟨g9, cur9, rfl, rfl, hrw9⟩ := TRow.some hr9 (vis_ne hV9 (by omega) hroot)
 rw [List.nil_append] at hrw9 hm9
 refine hz25 C27 ?_
 refine zz 4 ?_
 refine zo 3 A26 ?_
 refine zop (at1 [] Tryz.f30 [1, 1, 1, 1, 1, 1, 0]) 1 (fun a28 _ C28 hz28 => op_callFZ (vs := #[.slice (some ⟨g9, 0, none⟩) ml9 cap9]) C28 (sort_St A26 5 (g := g9) (k := ml9) (cap := cap9) (cur := cur9) (T := 3) (zs := N9) rfl hrw9 hm9 (by omega)) ?_)
 rintro v29 w29 ⟨rfl, cur8, hrw8, A29, j29⟩ a30 C30
 refine hz28 C30 ?_
 refine zz 4 ?_
 refine zo 3 A29 ?_
 refine zx 3 #[.slice (some ⟨g9, 0, none⟩) ml9 cap9] A29 ?_
 intro w31 A31 j31
 refine zz 4 ?_
 refine zrS [.cell 4 30, .tmp 5] (v := .tuple #[.slice (some ⟨g9, 0, none⟩) ml9 cap9, .int .i64 0]) (Res.cM A31 3 (Res.tZ Res.nil)) ?_
 obtain ⟨Yz, hSz, hlez, hRz⟩ := St.pubIntsN (A := [(b23, .cells #[.func (.func 59) #[] #[.pointer (some ⟨b20, 0, none⟩), .pointer (some ⟨b5, 0, none⟩), .pointer (some ⟨b3, 0, none⟩), .pointer (some ⟨b23, 0, none⟩)]] 91 (0, 0)), (b20, .cells #[.slice (some ⟨gS, 0, none⟩) m.states.length m.states.length] 90 (0, 0)), (gS, .cells (bvals S9) 4 (0, 0)), (b5, .cells #[.slice (some ⟨g9, 0, none⟩) ml9 cap9] 30 (0, 0)), (b3, .cells #[.bool m.disc.neg, .slice ad len cap, .slice ae le ce, .slice st m.states.length cs] 28 (0, 0))]) (B := []) (rb := [(g9, .cells cur8 3 (0, 0))]) (Nat.le_refl _) (fun rb => [(b23, .cells #[.func (.func 59) #[] #[.pointer (some ⟨b20, 0, none⟩), .pointer (some ⟨b5, 0, none⟩), .pointer (some ⟨b3, 0, none⟩), .pointer (some ⟨b23, 0, none⟩)]] 91 (0, 0)), (b20, .cells #[.slice (some ⟨gS, 0, none⟩) m.states.length m.states.length] 90 (0, 0)), (gS, .cells (bvals S9) 4 (0, 0)), (b5, .cells #[.slice (some ⟨g9, 0, none⟩) ml9 cap9] 30 (0, 0)), (b3, .cells #[.bool m.disc.neg, .slice ad len cap, .slice ae le ce, .slice st m.states.length cs] 28 (0, 0))] ++ rb) A31 (fun _ => by rw [List.append_nil]) (.inr ⟨g9, cur8, rfl, rfl, hrw8⟩) (by rw [List.length_mergeSort]; exact hm9)
 exact ⟨hSz.upd, _, rfl, _, _, _, _, _, rfl, hRz.mono Le.orr, .inr (.inr ⟨hm0, by omega, by omega, rfl, vis_fin hm0 (by omega) (by omega) hV9 hroot⟩)⟩
end Go.Proofs.YtoocgllbbihoaaaGreat
namespace Go.Proofs.YtoocgllbbihoaaaGreat
open Go Go.Gv Go.RowKit
set_option maxRecDepth 100000
set_option maxHeartbeats 1000000
theorem list_c (w : World) (X : Hid) (hX : ∀ k o, X k o → k < w.heap.size) (q : Int) (hq : q ≠ 0) (hq1 : -9223372036854775808 ≤ q) (hq2 : q ≤ 9223372036854775807) (ad : Option Addr) (len cap : Nat) (xs : List Int) (h : Ints (rd w X) ad len cap xs) (hl : len ≤ 1000000) (hr : ∀ x ∈ xs, -9223372036854775808 ≤ x ∧ x ≤ 9223372036854775807) : Calls Tryz.prog 34 #[.int .i64 q, .slice ad len cap] w (Ret E0 w fun w' v => ∃ ad len cap, v = .slice ad len cap ∧ Rats (rd w' X) ad len cap (listV q xs)) := by
 have hq9 := hq
 obtain rfl := h.hlen
 have hcap := h.hcap
 have hbig := h.hbig
 refine zen Tryz.func34 ?_
 have A0 : St E0 w X w X [] := St.start hX
 refine zz 17 ?_
 refine zlp Tryz.f34 [] [1, 1, 0, 1, 0] (fun ((k, adr, capr) : Nat × (Option Addr) × Nat) => [(0, .int .i64 q), (1, .slice ad xs.length cap), (5, .slice adr k capr), (6, .int .i64 (k : Int))]) (fun ((k, adr, capr) : Nat × (Option Addr) × Nat) w1 => ∃ (Y1 : Hid) (rb1 : List (Nat × Obj)) (es : List RE), St E0 w X w1 Y1 (rb1) ∧ Le (rd w X) (rd w1 Y1) ∧ (TRow 25 3 rb1 adr k capr (flat es)) ∧ (es.map (·.x) = (listV q xs).take k) ∧ (∀ e ∈ es, e.ok (rd w1 Y1)) ∧ (k ≤ xs.length)) (fun ((k, adr, capr) : Nat × (Option Addr) × Nat) => xs.length - k) (0, none, 0) ?_ ?_
 ·
  refine ⟨_, [], [], A0, Le.refl _, TRow.nil _ _, rfl, fun _ h => absurd h (by simp), Nat.zero_le _⟩
 rintro ⟨k, adr, capr⟩ w2 K2 G2 ⟨Y2, rb1, es, A2, j2, hp2_0, hp2_1, hp2_2, hp2_3⟩
 have hr1 := hp2_0
 have hq1 := hp2_1
 have hk1 := hp2_2
 have hkl := hp2_3
 refine zz 9 ?_
 refine zt 12 (p := (k : Int) < (xs.length : Int)) (fun ht3 => ?_) (fun ht3 => ?_)
 ·
  obtain ⟨b1, off1, rfl⟩ := h.addr (by omega)
  obtain ⟨x1, hx1, hA1⟩ := h.at (k := k) (by omega)
  have hB1 : At (rd w X) ⟨b1, off1 + k, none⟩ [.int .i64 x1] := by have h9 := hA1; unfold IntAt at h9; simpa using h9
  have hmx : (listV q xs)[k]? = some (.of (ofQ x1 q)) := by unfold listV; rw [List.getElem?_map, hx1]; rfl
  have hrg := hr x1 (List.mem_of_getElem? hx1)
  refine zz 9 ?_
  refine zi (b := b1) (off := off1) (len := xs.length) (cap := cap) (kd := .i64) (i := (k : Int)) 1 (off1 + k) ?_
  refine zl ((hB1.mono j2)).cells ?_
  refine zz 1 ?_
  refine zc A2 (rOf_c _ _ A2.lt x1 q (by omega) (by omega) (by omega) (by omega) hq9) ?_
  rintro v5 w5 A5 j5 hu5 ⟨u5, rfl, ⟨ad5, len5, cap5, ae5, le5, ce5, rfl, hN5, hD5⟩⟩
  refine zz 3 ?_
  refine zn pn (.cells #[.bool false, .slice none 0 0, .slice none 0 0] 25 (0, 0)) A5 ?_
  intro b7 w7 Y7 A7 j7 hu7
  refine zx 0 #[.bool ((Raw.of (ofQ x1 q)).neg), .slice ad5 len5 cap5, .slice ae5 le5 ce5] A7 ?_
  intro w8 A8 j8
  refine zz 5 ?_
  refine zo 0 A8 ?_
  refine zn (fun b => .slice (some ⟨b, 0, none⟩) 1 1) (.cells #[.bool ((Raw.of (ofQ x1 q)).neg), .slice ad5 len5 cap5, .slice ae5 le5 ce5] 25 (0, 0)) A8 ?_
  intro b10 w10 Y10 A10 j10 hu10
  refine zop (at1 [K2] Tryz.f34 [1, 1, 0, 1, 0, 0, 1, 0, 0, 1]) 3 (fun a11 _ C11 hz11 => op_appEZ (b := 56) (m := 1) (c := 1) (ad := ⟨b10, 0, none⟩) (news := [.bool ((Raw.of (ofQ x1 q)).neg), .slice ad5 len5 cap5, .slice ae5 le5 ce5]) (i0 := Tryz.t25) (R1 := []) 2 C11 A10 rfl hr1 (A10.cells 0 rfl rfl) (by omega) (by omega) ?_)
  intro rb12 ad12 cap12 w12 Y12 hrow12 A12 j12 a13 C13
  have hrw12 : TRow 25 3 rb12 ad12 (k + 1) cap12 (flat (es ++ [(RE.mk (Raw.of (ofQ x1 q)) ad5 len5 cap5 ae5 le5 ce5)])) := by rw [flat_snoc]; exact hrow12
  refine hz11 C13 ?_
  refine zz 7 ?_
  refine zw 14 (x := (k : Int) + 1) ?_
  refine zz 2 ?_
  have hc1_ := (Le4 j5 j7 j8 j10).trans j12
  have hc2_ := (Le3 j7 j8 j10).trans j12
  have hc3_ := (Le5 j2 j5 j7 j8 j10).trans j12
  refine znext (fun a h => G2 ((k + 1, ad12, cap12)) _ a h ⟨_, rb12, (es ++ [(RE.mk (Raw.of (ofQ x1 q)) ad5 len5 cap5 ae5 le5 ce5)]), A12.tail.tail, hc3_, hrw12, by rw [List.map_append, hq1, take_snoc hmx]; rfl, fun e he => by rcases List.mem_append.1 he with h1 | h1; exact (hk1 e h1).mono hc1_; obtain rfl := List.mem_singleton.1 h1; exact ⟨(hN5.mono hc2_), (hD5.mono hc2_)⟩, by omega⟩ ?_)
  first | omega | (simp <;> omega)
 refine zz 13 ?_
 refine zr' (v := .slice adr k capr) ?_
 have hll : (listV q xs).length = xs.length := List.length_map _
 obtain ⟨Y14, hSx14, j14, hRx14⟩ := St.pubRats (A := []) (B := []) (fun rb => (rb)) A2 (fun _ => by simp only [List.append_assoc, List.cons_append, List.nil_append, List.append_nil]) hr1 (row_len hq1 (by omega)) (fun e he => (hk1 e he).mono (Le.refl _))
 have A14 : St E0 w X w2 Y14 [] := hSx14
 have hR14 : Rats (rd w2 Y14) adr k capr (listV q xs) := by have h9 := hRx14; rwa [show es.map (·.x) = listV q xs from hq1.trans (List.take_of_length_le (by omega))] at h9
 exact ⟨A14.upd, _, rfl, _, _, _, rfl, hR14.mono A14.le⟩
theorem outs_one {r : Rd} {b : Nat} {o : Out} {a1 : Option Addr} {a2 a3 : Nat} {a4 : Option Addr} {a5 a6 : Nat} (h : At r ⟨b, 0, none⟩ [.int .i64 o.to, .bool o.p.neg, .slice a1 a2 a3, .slice a4 a5 a6]) (h1 : Limbs r a1 a2 a3 o.p.ln) (h2 : Limbs r a4 a5 a6 o.p.ld) : OutsR r (some ⟨b, 0, none⟩) 1 1 [o] :=
  ⟨rfl, Nat.le_refl _, by omega, .inr ⟨b, 0, rfl, fun i x hi => by
    rcases i with _ | i
    · simp at hi; subst hi; exact ⟨a1, a2, a3, a4, a5, a6, h, h1, h2⟩
    · simp at hi⟩⟩
theorem acts_one {r : Rd} {b : Nat} {o : Actn} (h : ActAt r ⟨b, 0, none⟩ o) : ActsR r (some ⟨b, 0, none⟩) 1 1 [o] :=
  ⟨rfl, Nat.le_refl _, by omega, .inr ⟨b, 0, rfl, fun i x hi => by
    rcases i with _ | i
    · simp at hi; subst hi; exact h
    · simp at hi⟩⟩
theorem acts_two {r : Rd} {b : Nat} {o p : Actn} (h : ActAt r ⟨b, 0, none⟩ o) (h2 : ActAt r ⟨b, 4, none⟩ p) : ActsR r (some ⟨b, 0, none⟩) 2 2 [o, p] :=
  ⟨rfl, Nat.le_refl _, by omega, .inr ⟨b, 0, rfl, fun i x hi => by
    rcases i with _ | _ | i
    · simp at hi; subst hi; exact h
    · simp at hi; subst hi; exact h2
    · simp at hi⟩⟩
theorem states_two {r : Rd} {b : Nat} {o p : List Actn} (h : StateAt r ⟨b, 0, none⟩ o) (h2 : StateAt r ⟨b, 1, none⟩ p) : StatesR r (some ⟨b, 0, none⟩) 2 2 [o, p] :=
  ⟨rfl, Nat.le_refl _, by omega, .inr ⟨b, 0, rfl, fun i x hi => by
    rcases i with _ | _ | i
    · simp at hi; subst hi; exact h
    · simp at hi; subst hi; exact h2
    · simp at hi⟩⟩
theorem pre4 {a b c d : Value} {l : List Value} {j : Nat} {v : Value} (h : [a, b, c, d][j]? = some v) : (a :: b :: c :: d :: l)[j]? = some v := by
  rcases j with _ | _ | _ | _ | j <;> simp_all
theorem pre1 {a : Value} {l : List Value} {j : Nat} {v : Value} (h : [a][j]? = some v) : (a :: l)[j]? = some v := by
  rcases j with _ | j <;> simp_all
theorem small_c (w : World) (X : Hid) (hX : ∀ k o, X k o → k < w.heap.size) : Calls Tryz.prog 35 #[] w (Ret E0 w fun w' v => ∃ ad len cap ae le ce st ls cs, v = .agg #[.bool smallM.disc.neg, .slice ad len cap, .slice ae le ce, .slice st ls cs] ∧ Limbs (rd w' X) ad len cap smallM.disc.ln ∧ Limbs (rd w' X) ae le ce smallM.disc.ld ∧ StatesR (rd w' X) st ls cs smallM.states) := by
 refine zen Tryz.func35 ?_
 have A0 : St E0 w X w X [] := St.start hX
 refine zz 2 ?_
 refine zn pn (.cells #[.bool false, .slice none 0 0, .slice none 0 0, .slice none 0 0] 28 (0, 0)) A0 ?_
 intro b3 w3 Y3 A3 j3 hu3
 refine zz 4 ?_
 refine zc A3 (rFrom_c _ _ A3.lt 1 (by omega) (by omega)) ?_
 rintro v5 w5 A5 j5 hu5 ⟨ad5, len5, cap5, ae5, le5, ce5, rfl, hN5, hD5⟩
 refine zn pn (.cells #[.bool false, .slice none 0 0, .slice none 0 0] 25 (0, 0)) A5 ?_
 intro b7 w7 Y7 A7 j7 hu7
 refine zx 0 #[.bool ((Raw.of ((1 : Int) : Rat)).neg), .slice ad5 len5 cap5, .slice ae5 le5 ce5] A7 ?_
 intro w8 A8 j8
 refine zz 4 ?_
 refine zc A8 (rOf_c _ _ A8.lt 1 2 (by omega) (by omega) (by omega) (by omega) (by omega)) ?_
 rintro v10 w10 A10 j10 hu10 ⟨u10, rfl, ⟨ad10, len10, cap10, ae10, le10, ce10, rfl, hN10, hD10⟩⟩
 refine zz 3 ?_
 refine zn pn (.cells #[.bool false, .slice none 0 0, .slice none 0 0] 25 (0, 0)) A10 ?_
 intro b12 w12 Y12 A12 j12 hu12
 refine zx 0 #[.bool ((Raw.of (ofQ 1 2)).neg), .slice ad10 len10 cap10, .slice ae10 le10 ce10] A12 ?_
 intro w13 A13 j13
 refine zz 4 ?_
 refine zdr A13 ?_
 refine gw 0 0 ?_
 refine gw 1 1 ?_
 refine gw 2 1 ?_
 refine gz [3] ?_
 refine gw 7 1 ?_
 refine gz [8] ?_
 refine gw 12 1 ?_
 refine gz [13] ?_
 refine gp (al 14 23 (fun b => .slice (some ⟨b, 0, none⟩) 1 1) (.cells #[.int .i64 1, .bool ((Raw.of ((1 : Int) : Rat)).neg), .slice ad5 len5 cap5, .slice ae5 le5 ce5] 60 (0, 0))) ?_
 refine gp (al 9 18 (fun b => .slice (some ⟨b, 0, none⟩) 1 1) (.cells #[.int .i64 1, .bool ((Raw.of ((1 : Int) : Rat)).neg), .slice ad5 len5 cap5, .slice ae5 le5 ce5] 60 (0, 0))) ?_
 refine gp (al 4 13 (fun b => .slice (some ⟨b, 0, none⟩) 1 1) (.cells #[.int .i64 0, .bool ((Raw.of ((1 : Int) : Rat)).neg), .slice ad5 len5 cap5, .slice ae5 le5 ce5] 60 (0, 0))) ?_
 refine gp ⟨5, 14, [5, 4], fun e => .agg #[.bool ((Raw.of ((1 : Int) : Rat)).neg), .slice ad5 len5 cap5, .slice ae5 le5 ce5, .slice (some ⟨(e 1), 0, none⟩) 1 1], none⟩ ?_
 refine gp ⟨15, 24, [15, 14], fun e => .agg #[.bool false, .slice none 0 0, .slice none 0 0, .slice (some ⟨(e 1), 0, none⟩) 1 1], none⟩ ?_
 refine gp ⟨16, 25, [16, 14], fun e => .slice (some ⟨(e 0), 0, none⟩) 1 1, some fun e => .cells #[.bool false, .slice none 0 0, .slice none 0 0, .slice (some ⟨(e 1), 0, none⟩) 1 1] 63 (0, 0)⟩ ?_
 refine gC 6 (fun w14 Y14 _ A14 j14 => (rFrom_c _ _ A14.lt 3 (by omega) (by omega))) ?_ (hPd := PdOk.nil.k.k.k.k.k.k)
 rintro v15 w14 Y15 w15 A14 j15 ⟨ad15, len15, cap15, ae15, le15, ce15, rfl, hN15, hD15⟩
 refine gp ⟨10, 19, [10, 9], fun e => .agg #[.bool ((Raw.of ((3 : Int) : Rat)).neg), .slice ad15 len15 cap15, .slice ae15 le15 ce15, .slice (some ⟨(e 1), 0, none⟩) 1 1], none⟩ ?_
 refine gp ⟨11, 20, [11, 4, 9], fun e => .slice (some ⟨(e 0), 0, none⟩) 2 2, some fun e => .cells #[.bool ((Raw.of ((1 : Int) : Rat)).neg), .slice ad5 len5 cap5, .slice ae5 le5 ce5, .slice (some ⟨(e 1), 0, none⟩) 1 1, .bool ((Raw.of ((3 : Int) : Rat)).neg), .slice ad15 len15 cap15, .slice ae15 le15 ce15, .slice (some ⟨(e 2), 0, none⟩) 1 1] 63 (0, 0)⟩ ?_
 refine gp ⟨17, 26, [17, 11, 16], fun e => .slice (some ⟨(e 0), 0, none⟩) 2 2, some fun e => .cells #[.slice (some ⟨(e 1), 0, none⟩) 2 2, .slice (some ⟨(e 2), 0, none⟩) 1 1] 64 (0, 0)⟩ ?_
 refine gp ⟨18, 27, [18, 17], fun e => .agg #[.bool ((Raw.of (ofQ 1 2)).neg), .slice ad10 len10 cap10, .slice ae10 le10 ce10, .slice (some ⟨(e 1), 0, none⟩) 2 2], none⟩ ?_
 refine ge (fun e16 => ?_) PdOk.nil.k.k.k.k.k.k.k.k.k.k
 refine gX 19 8 #[.bool ((Raw.of (ofQ 1 2)).neg), .slice ad10 len10 cap10, .slice ae10 le10 ce10, .slice (some ⟨(e16 17), 0, none⟩) 2 2] ?_
 intro w17 Y17 j17
 refine gend (fun w18 Y18 A18 j18 => ?_)
 refine zz 2 ?_
 refine zrS [.cell 0 28] (v := .agg #[.bool ((Raw.of (ofQ 1 2)).neg), .slice ad10 len10 cap10, .slice ae10 le10 ce10, .slice (some ⟨(e16 17), 0, none⟩) 2 2]) (Res.cM A18 8 Res.nil) ?_
 obtain ⟨A19, j19, hat19⟩ := St.publish A18 (A18.own_ge 0 rfl)
 obtain ⟨A20, j20, hat20⟩ := St.publish A19 (A19.own_ge 0 rfl)
 obtain ⟨A21, j21, hat21⟩ := St.publish A20 (A20.own_ge 0 rfl)
 obtain ⟨A22, j22, hat22⟩ := St.publish A21 (A21.own_ge 0 rfl)
 obtain ⟨A23, j23, hat23⟩ := St.publish A22 (A22.own_ge 0 rfl)
 obtain ⟨A24, j24, hat24⟩ := St.publish A23 (A23.own_ge 0 rfl)
 obtain ⟨A25, j25, hat25⟩ := St.publish A24 (A24.own_ge 0 rfl)
 obtain ⟨A26, j26, hat26⟩ := St.publish A25 (A25.own_ge 0 rfl)
 obtain ⟨A27, j27, hat27⟩ := St.publish A26 (A26.own_ge 0 rfl)
 have hc1_ := (Le4 j23 j24 j25 j26).trans j27
 have hc2_ := (Le16 j7 j8 j10 j12 j13 j15 j17 j18 j19 j20 j21 j22 j23 j24 j25 j26).trans j27
 have ho1 := outs_one (o := ⟨0, .of 1⟩) (hat22.mono hc1_) (hN5.mono hc2_) (hD5.mono hc2_)
 have hc3_ := (Le3 j24 j25 j26).trans j27
 have ho2 := outs_one (o := ⟨1, .of 1⟩) (hat23.mono hc3_) (hN5.mono hc2_) (hD5.mono hc2_)
 have ho3 := outs_one (o := ⟨1, .of 1⟩) (hat24.mono (Le3 j25 j26 j27)) (hN5.mono hc2_) (hD5.mono hc2_)
 have hc4_ := (Le6 j21 j22 j23 j24 j25 j26).trans j27
 have hA0 := (hat20.mono hc4_)
 have hc5_ := (Le10 j17 j18 j19 j20 j21 j22 j23 j24 j25 j26).trans j27
 have ha1 := acts_two (o := ⟨.of 1, [⟨0, .of 1⟩]⟩) (p := ⟨.of 3, [⟨1, .of 1⟩]⟩) ⟨_, _, _, _, _, _, _, _, _, fun j v hj => hA0 j v (pre4 hj), (hN5.mono hc2_), (hD5.mono hc2_), ho1⟩ ⟨_, _, _, _, _, _, _, _, _, At.drop hA0 4 rfl, (hN15.mono hc5_), (hD15.mono hc5_), ho2⟩
 have hc6_ := (Le5 j22 j23 j24 j25 j26).trans j27
 have ha2 := acts_one (o := ⟨.zero, [⟨1, .of 1⟩]⟩) ⟨_, _, _, _, _, _, _, _, _, (hat21.mono hc6_), Limbs.nil none (by omega), Limbs.nil none (by omega), ho3⟩
 have hc7_ := (Le7 j20 j21 j22 j23 j24 j25 j26).trans j27
 have hB0 := (hat19.mono hc7_)
 have hs1 := states_two ⟨_, _, _, fun j v hj => hB0 j v (pre1 hj), ha1⟩ ⟨_, _, _, At.drop hB0 1 rfl, ha2⟩
 have hc8_ := (Le13 j12 j13 j15 j17 j18 j19 j20 j21 j22 j23 j24 j25 j26).trans j27
 exact ⟨A27.upd, _, rfl, _, _, _, _, _, _, _, _, _, rfl, (hN10.mono hc8_).mono A27.le, (hD10.mono hc8_).mono A27.le, hs1.mono A27.le⟩
end Go.Proofs.YtoocgllbbihoaaaGreat
namespace Go.Proofs.YtoocgllbbihoaaaGreat
open Go Go.Gv Go.RowKit
set_option maxRecDepth 100000
set_option maxHeartbeats 1000000
theorem ints_at {r : Rd} {b : Nat} (is : List Int) (h : At r ⟨b, 0, none⟩ (ivals is)) (hb : is.length ≤ 1000) : Ints r (some ⟨b, 0, none⟩) is.length is.length is :=
  ⟨rfl, Nat.le_refl _, by omega, .inr ⟨b, 0, rfl, fun i x hi j v hj => by
    rcases j with _ | j
    · simp at hj; subst hj
      have := h i (.int .i64 x) (by simp [ivals, hi])
      simpa [add_mk] using this
    · simp at hj⟩⟩
theorem rats_flat {r : Rd} {b : Nat} (es : List RE) (hat : At r ⟨b, 0, none⟩ (flat es)) (hok : ∀ e ∈ es, e.ok r) (hb : es.length ≤ 1000) : Rats r (some ⟨b, 0, none⟩) es.length es.length (es.map (·.x)) := by
  refine ⟨by simp, Nat.le_refl _, by omega, .inr ⟨b, 0, rfl, fun i x hi => ?_⟩⟩
  rw [List.getElem?_map] at hi
  cases he : es[i]? with
  | none => rw [he] at hi; cases hi
  | some e =>
    rw [he] at hi
    obtain rfl : e.x = x := by simpa using hi
    have hmem := List.mem_of_getElem? he
    refine ⟨e.an, e.ln, e.cn, e.am, e.lm, e.cm, fun j v hj => ?_, (hok e hmem).1, (hok e hmem).2⟩
    have := hat (i * 3 + j) v (flat_get es i e he j v hj)
    rw [add_mk, Nat.zero_add] at this
    rw [add_mk, Nat.zero_add]
    exact this
theorem Score_e (w : World) (X : Hid) (hX : ∀ k o, X k o → k < w.heap.size) (m : Mdp) (ad : Option Addr) (len cap : Nat) (h : Limbs (rd w X) ad len cap m.disc.ln) (ae : Option Addr) (le ce : Nat) (h2 : Limbs (rd w X) ae le ce m.disc.ld) (st : Option Addr) (ls cs : Nat) (hst : StatesR (rd w X) st ls cs m.states) (v : List Raw) (av : Option Addr) (lv cv : Nat) (hv : Rats (rd w X) av lv cv v) (hlv : lv ≤ 1099511627776) (i j : Int) (r : Raw) (e : Int) (hr : m.scoreAt v i j = (r, e)) : Calls Tryz.prog 15 #[.agg #[.bool m.disc.neg, .slice ad len cap, .slice ae le ce, .slice st ls cs], .slice av lv cv, .int .i64 i, .int .i64 j] w (Ret E0 w fun w' u => ∃ x, u = .tuple #[x, .int .i64 e] ∧ RawX X w' x r) := by have h9 := Score_c w X hX m ad len cap h ae le ce h2 st ls cs hst v av lv cv hv hlv i j; rw [hr] at h9; exact h9.mono fun e w' ⟨hu, u, e1, x, e2, h3⟩ => ⟨hu, u, e1, x, e2, h3.new hX⟩
theorem Backup_e (w : World) (X : Hid) (hX : ∀ k o, X k o → k < w.heap.size) (m : Mdp) (ad : Option Addr) (len cap : Nat) (h : Limbs (rd w X) ad len cap m.disc.ln) (ae : Option Addr) (le ce : Nat) (h2 : Limbs (rd w X) ae le ce m.disc.ld) (st : Option Addr) (ls cs : Nat) (hst : StatesR (rd w X) st ls cs m.states) (v : List Raw) (av : Option Addr) (lv cv : Nat) (hv : Rats (rd w X) av lv cv v) (hlv : lv ≤ 1099511627776) (xs : List Raw) (is : List Int) (e : Int) (hr : m.backV v = (xs, is, e)) : Calls Tryz.prog 16 #[.agg #[.bool m.disc.neg, .slice ad len cap, .slice ae le ce, .slice st ls cs], .slice av lv cv] w (Ret E0 w fun w' u => ∃ ad len cap ad2 len2 cap2, u = .tuple #[.slice ad len cap, .slice ad2 len2 cap2, .int .i64 e] ∧ Rats (rd w' X) ad len cap xs ∧ Ints (rd w' X) ad2 len2 cap2 is) := by have h9 := Backup_c w X hX m ad len cap h ae le ce h2 st ls cs hst v av lv cv hv hlv; rw [hr] at h9; exact h9.mono fun e w' ⟨hu, u, e1, a1, a2, a3, a4, a5, a6, e2, h3, h4⟩ => ⟨hu, u, e1, a1, a2, a3, a4, a5, a6, e2, h3.mono (Le.new hX), h4.mono (Le.new hX)⟩
theorem Under_e (w : World) (X : Hid) (hX : ∀ k o, X k o → k < w.heap.size) (m : Mdp) (ad : Option Addr) (len cap : Nat) (h : Limbs (rd w X) ad len cap m.disc.ln) (ae : Option Addr) (le ce : Nat) (h2 : Limbs (rd w X) ae le ce m.disc.ld) (st : Option Addr) (ls cs : Nat) (hst : StatesR (rd w X) st ls cs m.states) (v : List Raw) (av : Option Addr) (lv cv : Nat) (hv : Rats (rd w X) av lv cv v) (hlv : lv ≤ 1099511627776) (p : List Int) (ap : Option Addr) (lp cp : Nat) (hp : Ints (rd w X) ap lp cp p) (hlp : lp ≤ 1099511627776) (xs : List Raw) (e : Int) (hr : m.underV p v = (xs, e)) : Calls Tryz.prog 17 #[.agg #[.bool m.disc.neg, .slice ad len cap, .slice ae le ce, .slice st ls cs], .slice ap lp cp, .slice av lv cv] w (Ret E0 w fun w' u => ∃ ad len cap, u = .tuple #[.slice ad len cap, .int .i64 e] ∧ Rats (rd w' X) ad len cap xs) := by have h9 := Under_c w X hX m ad len cap h ae le ce h2 st ls cs hst v av lv cv hv hlv p ap lp cp hp hlp; rw [hr] at h9; exact h9.mono fun e w' ⟨hu, u, e1, a1, a2, a3, e2, h3⟩ => ⟨hu, u, e1, a1, a2, a3, e2, h3.mono (Le.new hX)⟩
theorem sm_reachV {l : List Int} {e : Int} (h : ReachV smallM 1 l e) : l = [1] ∧ e = 0 := by
  rcases h with ⟨h, _⟩ | ⟨_, h, _⟩ | ⟨_, _, _, h, h2⟩
  · exact absurd sm_chk h
  · have : smallM.states.length = 2 := rfl
    omega
  · exact ⟨sm_reach h2, h⟩
theorem awake_c (w : World) (X : Hid) (hX : ∀ k o, X k o → k < w.heap.size) : Calls Tryz.prog 8 #[] w (Ret E0 w fun _ v => v = .bool true) := by
 refine zen Tryz.func8 ?_
 have A0 : St E0 w X w X [] := St.start hX
 refine zz 7 ?_
 refine zn (fun b => .slice (some ⟨b, 0, none⟩) 2 2) (.cells #[.int .i64 4, .int .i64 2] 3 (0, 0)) A0 ?_
 intro b3 w3 Y3 A3 j3 hu3
 obtain ⟨hSx5, j5, hat5⟩ := St.publish A3 (A3.own_ge 0 rfl)
 have A5 : St E0 w X w3 (show_ b3 Y3) [] := hSx5
 have hI5 := ints_at [4, 2] hat5 (by simp)
 refine zc A5 (list_c _ _ A5.lt 1 (by decide) (by decide) (by decide) _ _ _ [4, 2] hI5 (by decide) (by decide)) ?_
 rintro v6 w6 A6 j6 hu6 ⟨ad6, len6, cap6, rfl, hR6⟩
 have hl6 : len6 = 2 := hR6.hlen
 refine zz 5 ?_
 refine zc A6 (small_c _ _ A6.lt) ?_
 rintro v8 w8 A8 j8 hu8 ⟨ad8, len8, cap8, ae8, le8, ce8, st8, ls8, cs8, rfl, hN8, hD8, hT8⟩
 refine zz 1 ?_
 refine zc A8 (Score_e _ _ A8.lt smallM _ _ _ hN8 _ _ _ hD8 _ _ _ hT8 (listV 1 [4, 2]) _ _ _ (hR6.mono j8) (by omega) 0 0 (Raw.of 3) 0 sm_s0) ?_
 rintro v10 w10 A10 j10 hu10 ⟨u10, rfl, ⟨ad10, len10, cap10, ae10, le10, ce10, rfl, hN10, hD10⟩⟩
 refine zz 3 ?_
 refine zn pn (.cells #[.bool false, .slice none 0 0, .slice none 0 0] 25 (0, 0)) A10 ?_
 intro b12 w12 Y12 A12 j12 hu12
 refine zx 0 #[.bool ((Raw.of 3).neg), .slice ad10 len10 cap10, .slice ae10 le10 ce10] A12 ?_
 intro w13 A13 j13
 refine zz 5 ?_
 refine zc A13 (small_c _ _ A13.lt) ?_
 rintro v15 w15 A15 j15 hu15 ⟨ad15, len15, cap15, ae15, le15, ce15, st15, ls15, cs15, rfl, hN15, hD15, hT15⟩
 refine zz 1 ?_
 have hc1_ := (Le4 j8 j10 j12 j13).trans j15
 refine zc A15 (Score_e _ _ A15.lt smallM _ _ _ hN15 _ _ _ hD15 _ _ _ hT15 (listV 1 [4, 2]) _ _ _ (hR6.mono hc1_) (by omega) 0 1 (Raw.of 4) 0 sm_s1) ?_
 rintro v17 w17 A17 j17 hu17 ⟨u17, rfl, ⟨ad17, len17, cap17, ae17, le17, ce17, rfl, hN17, hD17⟩⟩
 refine zz 3 ?_
 refine zn pn (.cells #[.bool false, .slice none 0 0, .slice none 0 0] 25 (0, 0)) A17 ?_
 intro b19 w19 Y19 A19 j19 hu19
 refine zx 0 #[.bool ((Raw.of 4).neg), .slice ad17 len17 cap17, .slice ae17 le17 ce17] A19 ?_
 intro w20 A20 j20
 refine zz 5 ?_
 refine zc A20 (small_c _ _ A20.lt) ?_
 rintro v22 w22 A22 j22 hu22 ⟨ad22, len22, cap22, ae22, le22, ce22, st22, ls22, cs22, rfl, hN22, hD22, hT22⟩
 refine zz 1 ?_
 have hc2_ := (((hc1_.trans j17).trans j19).trans j20).trans j22
 refine zc A22 (Score_e _ _ A22.lt smallM _ _ _ hN22 _ _ _ hD22 _ _ _ hT22 (listV 1 [4, 2]) _ _ _ (hR6.mono hc2_) (by omega) 1 0 (Raw.of 1) 0 sm_s2) ?_
 rintro v24 w24 A24 j24 hu24 ⟨u24, rfl, ⟨ad24, len24, cap24, ae24, le24, ce24, rfl, hN24, hD24⟩⟩
 refine zz 3 ?_
 refine zn pn (.cells #[.bool false, .slice none 0 0, .slice none 0 0] 25 (0, 0)) A24 ?_
 intro b26 w26 Y26 A26 j26 hu26
 refine zx 0 #[.bool ((Raw.of 1).neg), .slice ad24 len24 cap24, .slice ae24 le24 ce24] A26 ?_
 intro w27 A27 j27
 refine zz 5 ?_
 refine zc A27 (small_c _ _ A27.lt) ?_
 rintro v29 w29 A29 j29 hu29 ⟨ad29, len29, cap29, ae29, le29, ce29, st29, ls29, cs29, rfl, hN29, hD29, hT29⟩
 refine zz 1 ?_
 have hc3_ := (((hc2_.trans j24).trans j26).trans j27).trans j29
 refine zc A29 (Backup_e _ _ A29.lt smallM _ _ _ hN29 _ _ _ hD29 _ _ _ hT29 (listV 1 [4, 2]) _ _ _ (hR6.mono hc3_) (by omega) (listV 1 [3, 1]) ([0, 0]) 0 sm_back) ?_
 rintro v31 w31 A31 j31 hu31 ⟨ad31, len31, cap31, ae31, le31, ce31, rfl, hR31, hI31⟩
 refine zz 11 ?_
 refine zc A31 (small_c _ _ A31.lt) ?_
 rintro v33 w33 A33 j33 hu33 ⟨ad33, len33, cap33, ae33, le33, ce33, st33, ls33, cs33, rfl, hN33, hD33, hT33⟩
 refine zn (fun b => .slice (some ⟨b, 0, none⟩) 2 2) (.cells #[.int .i64 1, .int .i64 0] 3 (0, 0)) A33 ?_
 intro b35 w35 Y35 A35 j35 hu35
 refine zz 1 ?_
 obtain ⟨hSx37, j37, hat37⟩ := St.publish A35 (A35.own_ge 0 rfl)
 have A37 : St E0 w X w35 (show_ b35 Y35) [(b26, .cells #[.bool ((Raw.of 1).neg), .slice ad24 len24 cap24, .slice ae24 le24 ce24] 25 (0, 0)), (b19, .cells #[.bool ((Raw.of 4).neg), .slice ad17 len17 cap17, .slice ae17 le17 ce17] 25 (0, 0)), (b12, .cells #[.bool ((Raw.of 3).neg), .slice ad10 len10 cap10, .slice ae10 le10 ce10] 25 (0, 0))] := hSx37
 have hI37 := ints_at [1, 0] hat37 (by simp)
 have hc4_ := (((hc3_.trans j31).trans j33).trans j35).trans j37
 refine zc A37 (Under_e _ _ A37.lt smallM _ _ _ (hN33.mono (Le2 j35 j37)) _ _ _ (hD33.mono (Le2 j35 j37)) _ _ _ (hT33.mono (Le2 j35 j37)) (listV 1 [4, 2]) _ _ _ (hR6.mono hc4_) (by omega) [1, 0] _ _ _ hI37 (by first | omega | decide) (listV 1 [4, 1]) 0 sm_under) ?_
 rintro v38 w38 A38 j38 hu38 ⟨ad38, len38, cap38, rfl, hR38⟩
 refine zz 9 ?_
 refine zc A38 (small_c _ _ A38.lt) ?_
 rintro v40 w40 A40 j40 hu40 ⟨ad40, len40, cap40, ae40, le40, ce40, st40, ls40, cs40, rfl, hN40, hD40, hT40⟩
 refine zc A40 (Reach_c _ _ A40.lt smallM _ _ _ hN40 _ _ _ hD40 _ _ _ hT40 1) ?_
 rintro v42 w42 A42 j42 hu42 ⟨ad42, len42, cap42, l42, e42, rfl, hI42, hV42⟩
 obtain ⟨rfl, rfl⟩ := sm_reachV hV42
 refine zz 8 ?_
 refine zdr A42 ?_
 refine gz [0, 1, 2, 3, 4, 5, 6, 7, 8, 9, 10, 11, 12, 13, 14, 15, 16, 17, 18, 19, 20, 21, 22] ?_
 refine gw 23 2 ?_
 refine gw 24 1 ?_
 refine gw 25 0 ?_
 refine gp (al 26 80 (fun b => .slice (some ⟨b, 0, none⟩) 3 3) (.cells #[.bool ((Raw.of 3).neg), .slice ad10 len10 cap10, .slice ae10 le10 ce10, .bool ((Raw.of 4).neg), .slice ad17 len17 cap17, .slice ae17 le17 ce17, .bool ((Raw.of 1).neg), .slice ad24 len24 cap24, .slice ae24 le24 ce24] 25 (0, 0))) ?_
 refine gp (al 27 81 (fun b => .slice (some ⟨b, 0, none⟩) 3 3) (.cells #[.int .i64 3, .int .i64 4, .int .i64 1] 3 (0, 0))) ?_
 refine gs1 (fun b43 => ?_) PdOk.nil.k.k
 refine gpub 0 [0, 1, 2] ?_
 intro w44 Y44 j44 hat44
 have hI44 := ints_at [3, 4, 1] hat44 (by simp)
 refine gC 28 (fun w45 Y45 _ A45 j45 => (list_c _ _ A45.lt 1 (by decide) (by decide) (by decide) _ _ _ [3, 4, 1] (hI44.mono j45) (by decide) (by decide))) ?_ (hPd := PdOk.nil.k)
 rintro v46 w45 Y46 w46 A45 j46 ⟨ad46, len46, cap46, rfl, hR46⟩
 have hl46 : len46 = 3 := hR46.hlen
 refine gs1 (fun b47 => ?_) PdOk.nil.k
 refine gpub 0 [0, 1, 2] ?_
 intro w48 Y48 j48 hat48
 have hc5_ := (Le20 j12 j13 j15 j17 j19 j20 j22 j24 j26 j27 j29 j31 j33 j35 j37 j38 j40 j42 j44 j46).trans j48
 have hc6_ := (Le16 j19 j20 j22 j24 j26 j27 j29 j31 j33 j35 j37 j38 j40 j42 j44 j46).trans j48
 have hc7_ := (Le12 j26 j27 j29 j31 j33 j35 j37 j38 j40 j42 j44 j46).trans j48
 have hR48 : Rats (rd w48 Y48) (some ⟨b47, 0, none⟩) 3 3 [(Raw.of 3), (Raw.of 4), (Raw.of 1)] := rats_flat [RE.mk (Raw.of 3) ad10 len10 cap10 ae10 le10 ce10, RE.mk (Raw.of 4) ad17 len17 cap17 ae17 le17 ce17, RE.mk (Raw.of 1) ad24 len24 cap24 ae24 le24 ce24] hat48 (List.forall_mem_cons.2 ⟨⟨(hN10.mono hc5_), (hD10.mono hc5_)⟩, List.forall_mem_cons.2 ⟨⟨(hN17.mono hc6_), (hD17.mono hc6_)⟩, List.forall_mem_cons.2 ⟨⟨(hN24.mono hc7_), (hD24.mono hc7_)⟩, fun _ h => by cases h⟩⟩⟩) (by simp)
 refine gC 29 (fun w49 Y49 _ A49 j49 => (EqualRats_c _ _ A49.lt _ _ _ [(Raw.of 3), (Raw.of 4), (Raw.of 1)] (hR48.mono j49) _ _ _ (listV 1 [3, 4, 1]) (hR46.mono (Le2 j48 j49)))) ?_
 rintro v50 w49 Y50 w50 A49 j50 rfl
 refine gset 83 (v := .bool (decide ([(Raw.of 3), (Raw.of 4), (Raw.of 1)] = (listV 1 [3, 4, 1])))) (v' := .bool true) (zJ (decide_eq_true (sm_list))) ?_
 refine gz [30, 31, 32] ?_
 refine gp1 (al 33 87 (fun b => .slice (some ⟨b, 0, none⟩) 2 2) (.cells #[.int .i64 3, .int .i64 1] 3 (0, 0))) (fun b51 => ?_)
 refine gpub 0 [0, 1, 2] ?_
 intro w52 Y52 j52 hat52
 have hI52 := ints_at [3, 1] hat52 (by simp)
 refine gC 34 (fun w53 Y53 _ A53 j53 => (list_c _ _ A53.lt 1 (by decide) (by decide) (by decide) _ _ _ [3, 1] (hI52.mono j53) (by decide) (by decide))) ?_
 rintro v54 w53 Y54 w54 A53 j54 ⟨ad54, len54, cap54, rfl, hR54⟩
 have hl54 : len54 = 2 := hR54.hlen
 have hc8_ := (Le11 j33 j35 j37 j38 j40 j42 j44 j46 j48 j50 j52).trans j54
 refine gC 35 (fun w55 Y55 _ A55 j55 => (EqualRats_c _ _ A55.lt _ _ _ (listV 1 [3, 1]) (hR31.mono (hc8_.trans j55)) _ _ _ (listV 1 [3, 1]) (hR54.mono j55))) ?_
 rintro v56 w55 Y56 w56 A55 j56 rfl
 refine gset 89 (v := .bool (decide ((listV 1 [3, 1]) = (listV 1 [3, 1])))) (v' := .bool true) (zJ (decide_eq_true (rfl))) ?_
 refine gz [36, 37, 38] ?_
 refine gp1 (al 39 93 (fun b => .slice (some ⟨b, 0, none⟩) 2 2) (.cells #[.int .i64 0, .int .i64 0] 3 (0, 0))) (fun b57 => ?_)
 refine gpub 0 [0, 1, 2] ?_
 intro w58 Y58 j58 hat58
 have hc10_ := (hc8_.trans j56).trans j58
 have hI58 := ints_at [0, 0] hat58 (by simp)
 refine gC 40 (fun w59 Y59 _ A59 j59 => (EqualInts_c _ _ A59.lt _ _ _ ([0, 0]) (hI31.mono (hc10_.trans j59)) _ _ _ [0, 0] (hI58.mono j59))) ?_
 rintro v60 w59 Y60 w60 A59 j60 rfl
 refine gset 94 (v := .bool (decide (([0, 0]) = [0, 0]))) (v' := .bool true) (zJ (decide_eq_true (rfl))) ?_
 refine gz [41, 42, 43] ?_
 refine gp1 (al 44 98 (fun b => .slice (some ⟨b, 0, none⟩) 2 2) (.cells #[.int .i64 4, .int .i64 1] 3 (0, 0))) (fun b61 => ?_)
 refine gpub 0 [0, 1, 2] ?_
 intro w62 Y62 j62 hat62
 have hI62 := ints_at [4, 1] hat62 (by simp)
 refine gC 45 (fun w63 Y63 _ A63 j63 => (list_c _ _ A63.lt 1 (by decide) (by decide) (by decide) _ _ _ [4, 1] (hI62.mono j63) (by decide) (by decide))) ?_
 rintro v64 w63 Y64 w64 A63 j64 ⟨ad64, len64, cap64, rfl, hR64⟩
 have hl64 : len64 = 2 := hR64.hlen
 have hc11_ := (Le12 j40 j42 j44 j46 j48 j50 j52 j54 j56 j58 j60 j62).trans j64
 refine gC 46 (fun w65 Y65 _ A65 j65 => (EqualRats_c _ _ A65.lt _ _ _ (listV 1 [4, 1]) (hR38.mono (hc11_.trans j65)) _ _ _ (listV 1 [4, 1]) (hR64.mono j65))) ?_
 rintro v66 w65 Y66 w66 A65 j66 rfl
 refine gset 100 (v := .bool (decide ((listV 1 [4, 1]) = (listV 1 [4, 1])))) (v' := .bool true) (zJ (decide_eq_true (rfl))) ?_
 refine gz [47, 48, 49] ?_
 refine gp1 (al 50 104 (fun b => .slice (some ⟨b, 0, none⟩) 1 1) (.cells #[.int .i64 1] 3 (0, 0))) (fun b67 => ?_)
 refine gpub 0 [0, 1, 2] ?_
 intro w68 Y68 j68 hat68
 have hc13_ := (Le12 j44 j46 j48 j50 j52 j54 j56 j58 j60 j62 j64 j66).trans j68
 have hI68 := ints_at [1] hat68 (by simp)
 refine gC 51 (fun w69 Y69 _ A69 j69 => (EqualInts_c _ _ A69.lt _ _ _ [1] ((hI42.mono (Le.new A40.lt)).mono (hc13_.trans j69)) _ _ _ [1] (hI68.mono j69))) ?_
 rintro v70 w69 Y70 w70 A69 j70 rfl
 refine gset 105 (v := .bool (decide ([1] = [1]))) (v' := .bool true) (zJ (decide_eq_true (rfl))) ?_
 refine gz [52, 53] ?_
 refine gend (fun w71 Y71 A71 j71 => ?_)
 refine zz 2 ?_
 refine zr' (v := .bool true) ?_
 exact ⟨A71.upd, _, rfl, rfl⟩
theorem int_at {r : Rd} {b off i : Nat} {x : Int} (h : IntAt r ⟨b, off + i * 1, none⟩ x) : At r ⟨b, off + i, none⟩ [.int .i64 x] := by unfold IntAt at h; rwa [Nat.mul_one] at h
theorem am_true {a b : Raw} (h : cmpE a b = 0) (h2 : cmpR a b ≤ 0) : atMostV a b = true := by simp [atMostV, h, h2]
theorem am_le {a b : Raw} (h : atMostV a b = true) : cmpE a b = 0 ∧ cmpR a b ≤ 0 := by simpa [atMostV] using h
end Go.Proofs.YtoocgllbbihoaaaGreat
namespace Go.Proofs.YtoocgllbbihoaaaGreat
open Go Go.Gv Go.RowKit
set_option maxRecDepth 100000
set_option maxHeartbeats 1000000
theorem CopyLimbs_c (w : World) (X : Hid) (hX : ∀ k o, X k o → k < w.heap.size) (ad : Option Addr) (len cap : Nat) (l : List Nat) (h : Limbs (rd w X) ad len cap l) (hm : len * 4 ≤ 140737488351232) : Calls Tryz.prog 97 #[.slice ad len cap] w (Ret E0 w fun w' v => ∃ ad len cap, v = .slice ad len cap ∧ Limbs (rd w' X) ad len cap l) := by
 obtain rfl := h.hlen
 have hcap := h.hcap
 have hbig := h.hbig
 refine zen Tryz.func97 ?_
 have A0 : St E0 w X w X [] := St.start hX
 refine zz 17 ?_
 refine zlp Tryz.f97 [] [1, 1, 0, 1, 0] (fun ((k, adr, capr) : Nat × (Option Addr) × Nat) => [(0, .slice ad l.length cap), (3, .slice adr k capr), (4, .int .i64 (k : Int))]) (fun ((k, adr, capr) : Nat × (Option Addr) × Nat) w1 => ∃ (Y1 : Hid) (rb1 : List (Nat × Obj)), St E0 w X w1 Y1 (rb1) ∧ Le (rd w X) (rd w1 Y1) ∧ (TRow 124 1 rb1 adr k capr (U32 (l.take k))) ∧ (k ≤ l.length)) (fun ((k, adr, capr) : Nat × (Option Addr) × Nat) => l.length - k) (0, none, 0) ?_ ?_
 ·
  refine ⟨_, [], A0, Le.refl _, TRow.nil _ _, Nat.zero_le _⟩
 rintro ⟨k, adr, capr⟩ w2 K2 G2 ⟨Y2, rb1, A2, j2, hp2_0, hp2_1⟩
 have hr1 := hp2_0
 have hkl := hp2_1
 refine zz 9 ?_
 refine zt 8 (p := (k : Int) < (l.length : Int)) (fun ht3 => ?_) (fun ht3 => ?_)
 ·
  obtain ⟨b1, off1, rfl, _⟩ := h.addr (by omega)
  have hx1 := getD_some (l := l) (k := k) (by omega)
  refine zz 9 ?_
  refine zi (b := b1) (off := off1) (len := l.length) (cap := cap) (kd := .i64) (i := (k : Int)) 1 (off1 + k) ?_
  refine zl ((h.cell (i := k) (by omega)).mono j2).cells ?_
  refine zn (fun b => .slice (some ⟨b, 0, none⟩) 1 1) (.cells #[.int .u32 ((l.getD k 0 : Nat) : Int)] 124 (0, 0)) A2 ?_
  intro b5 w5 Y5 A5 j5 hu5
  refine zop (at1 [K2] Tryz.f97 [1, 1, 0, 1, 0, 0, 1, 0, 0]) 6 (fun a6 _ C6 hz6 => op_appEZ (b := 4) (m := 1) (c := 1) (ad := ⟨b5, 0, none⟩) (news := [.int .u32 ((l.getD k 0 : Nat) : Int)]) (i0 := Tryz.t124) (R1 := []) 1 C6 A5 rfl hr1 (A5.cells 0 rfl rfl) (by omega) (by omega) ?_)
  intro rb7 ad7 cap7 w7 Y7 hrow7 A7 j7 a8 C8
  have hrw7 : TRow 124 1 rb7 ad7 (k + 1) cap7 (U32 (l.take k ++ [l.getD k 0])) := by rw [← U32_snoc]; exact hrow7
  refine hz6 C8 ?_
  refine zz 7 ?_
  refine zw 10 (x := (k : Int) + 1) ?_
  refine zz 2 ?_
  refine znext (fun a h => G2 ((k + 1, ad7, cap7)) _ a h ⟨_, rb7, A7.tail, (Le3 j2 j5 j7), by rw [take_snoc hx1]; exact hrw7, by omega⟩ ?_)
  first | omega | (simp <;> omega)
 refine zz 13 ?_
 refine zr' (v := .slice adr k capr) ?_
 have hlt := h.hlt
 have htk : l.take k = l := List.take_of_length_le (by omega)
 rw [htk] at hr1
 obtain ⟨Yz, hSz, hlez, hRz⟩ := St.pubLimbs (A := []) (B := []) (fun rb => rb) A2 (fun _ => by simp) hr1 (by omega) hlt
 exact ⟨hSz.upd, _, rfl, _, _, _, rfl, hRz.mono hSz.le⟩
theorem CopyNat_c (w : World) (X : Hid) (hX : ∀ k o, X k o → k < w.heap.size) (ad : Option Addr) (len cap : Nat) (l : List Nat) (h : Limbs (rd w X) ad len cap l) (hm : len * 4 ≤ 140737488351232) : Calls Tryz.prog 65 #[.slice ad len cap] w (Ret E0 w fun w' v => ∃ ad len cap, v = .slice ad len cap ∧ Limbs (rd w' X) ad len cap l) := by
 obtain rfl := h.hlen
 have hcap := h.hcap
 have hbig := h.hbig
 refine zen Tryz.func65 ?_
 have A0 : St E0 w X w X [] := St.start hX
 refine zz 8 ?_
 refine zc A0 (CopyLimbs_c _ _ A0.lt _ _ _ _ h (by omega)) ?_
 rintro v3 w3 A3 j3 hu3 ⟨ad3, len3, cap3, rfl, hN3⟩
 refine zz 4 ?_
 refine zr' (v := .slice ad3 len3 cap3) ?_
 exact ⟨A3.upd, _, rfl, _, _, _, rfl, hN3.mono A3.le⟩
theorem CopyRat_c (w : World) (X : Hid) (hX : ∀ k o, X k o → k < w.heap.size) (a : Raw) (ad₁ : Option Addr) (len₁ cap₁ : Nat) (h₁ : Limbs (rd w X) ad₁ len₁ cap₁ a.ln) (ae₁ : Option Addr) (le₁ ce₁ : Nat) (k₁ : Limbs (rd w X) ae₁ le₁ ce₁ a.ld) (hm : len₁ * 4 ≤ 140737488351232) (hm2 : le₁ * 4 ≤ 140737488351232) : Calls Tryz.prog 36 #[.agg #[.bool a.neg, .slice ad₁ len₁ cap₁, .slice ae₁ le₁ ce₁]] w (Ret E0 w fun w' v => RawX X w' v a) := by
 refine zen Tryz.func36 ?_
 have A0 : St E0 w X w X [] := St.start hX
 refine zz 2 ?_
 refine zn pn (.cells #[.bool a.neg, .slice ad₁ len₁ cap₁, .slice ae₁ le₁ ce₁] 25 (0, 0)) A0 ?_
 intro b3 w3 Y3 A3 j3 hu3
 refine zn pn (.cells #[.bool false, .slice none 0 0, .slice none 0 0] 25 (0, 0)) A3 ?_
 intro b5 w5 Y5 A5 j5 hu5
 refine zz 3 ?_
 refine zdr A5 ?_
 refine gz [0] ?_
 refine gw 1 1 ?_
 refine gz [2] ?_
 refine gw 3 1 ?_
 refine gz [5] ?_
 refine gw 6 1 ?_
 refine gC 4 (fun w6 Y6 _ A6 j6 => (CopyNat_c _ _ A6.lt _ _ _ _ (h₁.mono (Le3 j3 j5 j6)) (by omega))) ?_
 rintro v7 w6 Y7 w7 A6 j7 ⟨ad7, len7, cap7, rfl, hN7⟩
 have hc1_ := (Le2 j3 j5).trans j7
 refine gC 7 (fun w8 Y8 _ A8 j8 => (CopyNat_c _ _ A8.lt _ _ _ _ (k₁.mono (hc1_.trans j8)) (by omega))) ?_
 rintro v9 w8 Y9 w9 A8 j9 ⟨ad9, len9, cap9, rfl, hN9⟩
 refine gz [8] ?_
 refine gX 9 0 #[.bool a.neg, .slice ad7 len7 cap7, .slice ad9 len9 cap9] ?_
 intro w10 Y10 j10
 refine gend (fun w11 Y11 A11 j11 => ?_)
 refine zz 2 ?_
 refine zrS [.cell 2 25] (v := .agg #[.bool a.neg, .slice ad7 len7 cap7, .slice ad9 len9 cap9]) (Res.cM A11 0 Res.nil) ?_
 exact ⟨A11.upd, _, rfl, ⟨_, _, _, _, _, _, rfl, (hN7.mono (Le3 j9 j10 j11)).mono A11.le, (hN9.mono (Le2 j10 j11)).mono A11.le⟩⟩
end Go.Proofs.YtoocgllbbihoaaaGreat
namespace Go.Proofs.YtoocgllbbihoaaaGreat
open Go Go.Gv Go.RowKit
set_option maxRecDepth 100000
set_option maxHeartbeats 1000000
theorem prod_len {l l2 l3 : List Nat} (k : Nat) (hc : Canon l3) (h : val l3 = val l * val l2) (h1 : ∀ x ∈ l, x < 4294967296) (h2 : ∀ x ∈ l2, x < 4294967296) (k1 : l.length ≤ k) (k2 : l2.length ≤ k) : l3.length ≤ k + k :=
  canon_pow hc (by rw [h, Nat.pow_add]; exact Nat.mul_lt_mul'' (Nat.lt_of_lt_of_le (val_lt h1) (Nat.pow_le_pow_right (by omega) k1)) (Nat.lt_of_lt_of_le (val_lt h2) (Nat.pow_le_pow_right (by omega) k2)))
/-- A number whose parts have no leading zeros and are not long. -/
def Vr (a : Raw) : Prop := Canon a.ln ∧ Canon a.ld ∧ a.ln.length ≤ 1000 ∧ a.ld.length ≤ 1000
theorem mk6_r (w : World) (X : Hid) (hX : ∀ k o, X k o → k < w.heap.size) (ad : Option Addr) (len cap : Nat) (l : List Nat) (h : Limbs (rd w X) ad len cap l) (ad2 : Option Addr) (len2 cap2 : Nat) (l2 : List Nat) (h2 : Limbs (rd w X) ad2 len2 cap2 l2) (sg : Bool) (hm : len ≤ 100000) (hm2 : len2 ≤ 100000) (hc1 : Canon l) (hc2 : Canon l2) (hd : 0 < val l2) (z : Rat) (hz : mkRat (sgn sg (val l)) (val l2) = z) : Calls Tryz.prog 61 #[.bool sg, .slice ad len cap, .slice ad2 len2 cap2] w (Ret E0 w fun w' v => RatX X w' v z) := by
  subst hz; exact mk6_c w X hX ad len cap l h ad2 len2 cap2 l2 h2 sg hm hm2 hc1 hc2 hd
theorem prod6 (a b : Raw) : mkRat (sgn (a.neg != b.neg) (val a.ln * val b.ln)) (a.d * b.d) = a.rat * b.rat := by
  unfold Raw.rat; rw [Rat.mkRat_mul_mkRat]; congr 1; cases a.neg <;> cases b.neg <;> simp [sgn, Int.neg_mul, Int.mul_neg]
theorem denL_lt {l : List Nat} (h : ∀ x ∈ l, x < 4294967296) : ∀ x ∈ denL l, x < 4294967296 := by unfold denL; split; (intro x hx; simp at hx; omega); exact h
theorem rprod6_c (w : World) (X : Hid) (hX : ∀ k o, X k o → k < w.heap.size) (a : Raw) (ad₁ : Option Addr) (len₁ cap₁ : Nat) (h₁ : Limbs (rd w X) ad₁ len₁ cap₁ a.ln) (ae₁ : Option Addr) (le₁ ce₁ : Nat) (k₁ : Limbs (rd w X) ae₁ le₁ ce₁ a.ld) (b : Raw) (ad₂ : Option Addr) (len₂ cap₂ : Nat) (h₂ : Limbs (rd w X) ad₂ len₂ cap₂ b.ln) (ae₂ : Option Addr) (le₂ ce₂ : Nat) (k₂ : Limbs (rd w X) ae₂ le₂ ce₂ b.ld) (va : Vr a) (vb : Vr b) : Calls Tryz.prog 99 #[.agg #[.bool a.neg, .slice ad₁ len₁ cap₁, .slice ae₁ le₁ ce₁], .agg #[.bool b.neg, .slice ad₂ len₂ cap₂, .slice ae₂ le₂ ce₂]] w (Ret E0 w fun w' v => RatX X w' v (a.rat * b.rat)) := by
 refine zen Tryz.func99 ?_
 have A0 : St E0 w X w X [] := St.start hX
 obtain ⟨hca, hda, hla, hma⟩ := va
 obtain ⟨hcb, hdb, hlb, hmb⟩ := vb
 have lh₁ := h₁.hlen
 have lk₁ := k₁.hlen
 have lh₂ := h₂.hlen
 have lk₂ := k₂.hlen
 have dla := denL_le hma (by omega)
 have dva := denL_val a hda
 have dpa := Raw.d_pos a
 have dlb := denL_le hmb (by omega)
 have dvb := denL_val b hdb
 have dpb := Raw.d_pos b
 refine zz 2 ?_
 refine zn pn (.cells #[.bool a.neg, .slice ad₁ len₁ cap₁, .slice ae₁ le₁ ce₁] 25 (0, 0)) A0 ?_
 intro b3 w3 Y3 A3 j3 hu3
 refine zn pn (.cells #[.bool b.neg, .slice ad₂ len₂ cap₂, .slice ae₂ le₂ ce₂] 25 (0, 0)) A3 ?_
 intro b5 w5 Y5 A5 j5 hu5
 refine zn pn (.cells #[.bool false, .slice none 0 0, .slice none 0 0] 25 (0, 0)) A5 ?_
 intro b7 w7 Y7 A7 j7 hu7
 refine zz 3 ?_
 refine zdr A7 ?_
 refine gz [0] ?_
 refine gw 1 2 ?_
 refine gz [2] ?_
 refine gw 3 1 ?_
 refine gz [4, 5] ?_
 refine gw 6 2 ?_
 refine gz [7] ?_
 refine gw 8 1 ?_
 refine gw 10 2 ?_
 refine gw 12 1 ?_
 have hc1_ := (Le2 j3 j5).trans j7
 refine gC 9 (fun w8 Y8 _ A8 j8 => (prod5_c _ _ A8.lt _ _ _ a.ln (h₁.mono (hc1_.trans j8)) _ _ _ b.ln (h₂.mono (hc1_.trans j8)) (by first | omega | (simp; done) | (simp; omega)) (by first | omega | (simp; done) | (simp; omega)))) ?_
 rintro v9 w8 Y9 w9 A8 j9 ⟨ad9, len9, cap9, rfl, ls9, hL9, hcan9, hval9⟩
 have hlen9 := hL9.hlen
 have hc2_ := hc1_.trans j9
 refine gC 11 (fun w10 Y10 _ A10 j10 => (den6_c _ _ A10.lt a _ _ _ (h₁.mono (hc2_.trans j10)) _ _ _ (k₁.mono (hc2_.trans j10)))) ?_
 rintro v11 w10 Y11 w11 A10 j11 ⟨ad11, len11, cap11, rfl, hL11⟩
 obtain rfl := hL11.hlen
 have hc3_ := hc2_.trans j11
 refine gC 13 (fun w12 Y12 _ A12 j12 => (den6_c _ _ A12.lt b _ _ _ (h₂.mono (hc3_.trans j12)) _ _ _ (k₂.mono (hc3_.trans j12)))) ?_
 rintro v13 w12 Y13 w13 A12 j13 ⟨ad13, len13, cap13, rfl, hL13⟩
 obtain rfl := hL13.hlen
 refine gC 14 (fun w14 Y14 _ A14 j14 => (prod5_c _ _ A14.lt _ _ _ (denL a.ld) (hL11.mono (Le2 j13 j14)) _ _ _ (denL b.ld) (hL13.mono j14) (by first | omega | (simp; done) | (simp; omega)) (by first | omega | (simp; done) | (simp; omega)))) ?_
 rintro v15 w14 Y15 w15 A14 j15 ⟨ad15, len15, cap15, rfl, ls15, hL15, hcan15, hval15⟩
 have hlen15 := hL15.hlen
 have hc4_ := (Le2 j11 j13).trans j15
 refine gC 15 (fun w16 Y16 _ A16 j16 => (mk6_r _ _ A16.lt _ _ _ ls9 (hL9.mono (hc4_.trans j16)) _ _ _ ls15 (hL15.mono j16) _ (by have := prod_len 1000 hcan9 hval9 h₁.hlt h₂.hlt hla hlb; omega) (by have := prod_len 1000 hcan15 hval15 (denL_lt k₁.hlt) (denL_lt k₂.hlt) dla dlb; omega) hcan9 hcan15 (by rw [hval15, dva, dvb]; exact Nat.mul_pos dpa dpb) (a.rat * b.rat) (by rw [hval9, hval15, dva, dvb]; exact prod6 a b))) ?_
 rintro v17 w16 Y17 w17 A16 j17 ⟨ad17, len17, cap17, ae17, le17, ce17, rfl, hN17, hD17⟩
 refine gX 16 0 #[.bool (decide ((a.rat * b.rat).num < 0)), .slice ad17 len17 cap17, .slice ae17 le17 ce17] ?_
 intro w18 Y18 j18
 refine gend (fun w19 Y19 A19 j19 => ?_)
 refine zz 2 ?_
 refine zrS [.cell 4 25] (v := .agg #[.bool (decide ((a.rat * b.rat).num < 0)), .slice ad17 len17 cap17, .slice ae17 le17 ce17]) (Res.cM A19 0 Res.nil) ?_
 exact ⟨A19.upd, _, rfl, _, _, _, _, _, _, rfl, hN17.mono (Le.trans (Le2 j18 j19) A19.le), hD17.mono (Le.trans (Le2 j18 j19) A19.le)⟩
end Go.Proofs.YtoocgllbbihoaaaGreat
namespace Go.Proofs.YtoocgllbbihoaaaGreat
open Go Go.Gv Go.RowKit
set_option maxRecDepth 100000
set_option maxHeartbeats 1000000
theorem add_len {l l2 l3 : List Nat} (k : Nat) (hc : Canon l3) (h : val l3 ≤ val l + val l2) (h1 : ∀ x ∈ l, x < 4294967296) (h2 : ∀ x ∈ l2, x < 4294967296) (k1 : l.length ≤ k) (k2 : l2.length ≤ k) : l3.length ≤ k + 1 :=
  canon_pow hc (by
    have e1 := Nat.lt_of_lt_of_le (val_lt h1) (Nat.pow_le_pow_right (by omega) k1)
    have e2 := Nat.lt_of_lt_of_le (val_lt h2) (Nat.pow_le_pow_right (by omega) k2)
    rw [Nat.pow_succ]; omega)
theorem sgn_mulN (s : Bool) (n d : Nat) : sgn s n * (d : Int) = sgn s (n * d) := by cases s <;> simp [sgn, Int.neg_mul]
theorem rat_sum6 (a b : Raw) {z : Int} (h : sgn a.neg (val a.ln * b.d) + sgn b.neg (val b.ln * a.d) = z) : mkRat z (a.d * b.d) = a.rat + b.rat := by
  have h1 := Raw.d_pos a
  have h2 := Raw.d_pos b
  unfold Raw.rat; rw [Rat.mkRat_add_mkRat _ _ (by omega) (by omega), sgn_mulN, sgn_mulN, h]
theorem sum6_eq {s t : Bool} {p q : Nat} (h : s = t) : sgn s p + sgn t q = sgn s (p + q) := by subst h; cases s <;> simp [sgn] <;> omega
theorem sum6_ge {s t : Bool} {p q : Nat} (h : s ≠ t) (k : q ≤ p) : sgn s p + sgn t q = sgn s (p - q) := by cases s <;> cases t <;> simp [sgn] at * <;> omega
theorem sum6_lt {s t : Bool} {p q : Nat} (h : s ≠ t) (k : p < q) : sgn s p + sgn t q = sgn t (q - p) := by cases s <;> cases t <;> simp [sgn] at * <;> omega
theorem rsum6_c (w : World) (X : Hid) (hX : ∀ k o, X k o → k < w.heap.size) (a : Raw) (ad₁ : Option Addr) (len₁ cap₁ : Nat) (h₁ : Limbs (rd w X) ad₁ len₁ cap₁ a.ln) (ae₁ : Option Addr) (le₁ ce₁ : Nat) (k₁ : Limbs (rd w X) ae₁ le₁ ce₁ a.ld) (b : Raw) (ad₂ : Option Addr) (len₂ cap₂ : Nat) (h₂ : Limbs (rd w X) ad₂ len₂ cap₂ b.ln) (ae₂ : Option Addr) (le₂ ce₂ : Nat) (k₂ : Limbs (rd w X) ae₂ le₂ ce₂ b.ld) (va : Vr a) (vb : Vr b) : Calls Tryz.prog 70 #[.agg #[.bool a.neg, .slice ad₁ len₁ cap₁, .slice ae₁ le₁ ce₁], .agg #[.bool b.neg, .slice ad₂ len₂ cap₂, .slice ae₂ le₂ ce₂]] w (Ret E0 w fun w' v => RatX X w' v (a.rat + b.rat)) := by
 refine zen Tryz.func70 ?_
 have A0 : St E0 w X w X [] := St.start hX
 obtain ⟨hca, hda, hla, hma⟩ := va
 obtain ⟨hcb, hdb, hlb, hmb⟩ := vb
 have lh₁ := h₁.hlen
 have lk₁ := k₁.hlen
 have lh₂ := h₂.hlen
 have lk₂ := k₂.hlen
 have dla := denL_le hma (by omega)
 have dva := denL_val a hda
 have dpa := Raw.d_pos a
 have dlb := denL_le hmb (by omega)
 have dvb := denL_val b hdb
 have dpb := Raw.d_pos b
 refine zz 2 ?_
 refine zn pn (.cells #[.bool a.neg, .slice ad₁ len₁ cap₁, .slice ae₁ le₁ ce₁] 25 (0, 0)) A0 ?_
 intro b3 w3 Y3 A3 j3 hu3
 refine zn pn (.cells #[.bool b.neg, .slice ad₂ len₂ cap₂, .slice ae₂ le₂ ce₂] 25 (0, 0)) A3 ?_
 intro b5 w5 Y5 A5 j5 hu5
 refine zn pn (.cells #[.bool false, .slice none 0 0, .slice none 0 0] 25 (0, 0)) A5 ?_
 intro b7 w7 Y7 A7 j7 hu7
 refine zz 3 ?_
 refine zdr A7 ?_
 refine gz [0] ?_
 refine gw 1 2 ?_
 refine gw 2 1 ?_
 have hc1_ := (Le2 j3 j5).trans j7
 refine gC 3 (fun w8 Y8 _ A8 j8 => (den6_c _ _ A8.lt b _ _ _ (h₂.mono (hc1_.trans j8)) _ _ _ (k₂.mono (hc1_.trans j8)))) ?_
 rintro v9 w8 Y9 w9 A8 j9 ⟨ad9, len9, cap9, rfl, hL9⟩
 obtain rfl := hL9.hlen
 have hc2_ := hc1_.trans j9
 refine gC 4 (fun w10 Y10 _ A10 j10 => (prod5_c _ _ A10.lt _ _ _ a.ln (h₁.mono (hc2_.trans j10)) _ _ _ (denL b.ld) (hL9.mono j10) (by first | omega | (simp; done) | (simp; omega)) (by first | omega | (simp; done) | (simp; omega)))) ?_
 rintro v11 w10 Y11 w11 A10 j11 ⟨ad11, len11, cap11, rfl, ls11, hL11, hcan11, hval11⟩
 have hlen11 := hL11.hlen
 have pl11 := prod_len 1000 hcan11 hval11 h₁.hlt (denL_lt k₂.hlt) hla dlb
 rw [dvb] at hval11
 refine gz [5] ?_
 refine gend (fun w12 Y12 A12 j12 => ?_)
 refine zz 2 ?_
 refine zdr A12 ?_
 refine gz [0] ?_
 refine gw 1 1 ?_
 refine gw 2 2 ?_
 have hc3_ := (hc2_.trans j11).trans j12
 refine gC 3 (fun w13 Y13 _ A13 j13 => (den6_c _ _ A13.lt a _ _ _ (h₁.mono (hc3_.trans j13)) _ _ _ (k₁.mono (hc3_.trans j13)))) ?_
 rintro v14 w13 Y14 w14 A13 j14 ⟨ad14, len14, cap14, rfl, hL14⟩
 obtain rfl := hL14.hlen
 have hc4_ := hc3_.trans j14
 refine gC 4 (fun w15 Y15 _ A15 j15 => (prod5_c _ _ A15.lt _ _ _ b.ln (h₂.mono (hc4_.trans j15)) _ _ _ (denL a.ld) (hL14.mono j15) (by first | omega | (simp; done) | (simp; omega)) (by first | omega | (simp; done) | (simp; omega)))) ?_
 rintro v16 w15 Y16 w16 A15 j16 ⟨ad16, len16, cap16, rfl, ls16, hL16, hcan16, hval16⟩
 have hlen16 := hL16.hlen
 have pl16 := prod_len 1000 hcan16 hval16 h₂.hlt (denL_lt k₁.hlt) hlb dla
 rw [dva] at hval16
 refine gz [5] ?_
 refine gend (fun w17 Y17 A17 j17 => ?_)
 refine zz 2 ?_
 refine zdr A17 ?_
 refine gw 0 2 ?_
 refine gw 2 1 ?_
 have hc5_ := (hc4_.trans j16).trans j17
 refine gC 1 (fun w18 Y18 _ A18 j18 => (den6_c _ _ A18.lt a _ _ _ (h₁.mono (hc5_.trans j18)) _ _ _ (k₁.mono (hc5_.trans j18)))) ?_
 rintro v19 w18 Y19 w19 A18 j19 ⟨ad19, len19, cap19, rfl, hL19⟩
 obtain rfl := hL19.hlen
 have hc6_ := hc5_.trans j19
 refine gC 3 (fun w20 Y20 _ A20 j20 => (den6_c _ _ A20.lt b _ _ _ (h₂.mono (hc6_.trans j20)) _ _ _ (k₂.mono (hc6_.trans j20)))) ?_
 rintro v21 w20 Y21 w21 A20 j21 ⟨ad21, len21, cap21, rfl, hL21⟩
 obtain rfl := hL21.hlen
 refine gC 4 (fun w22 Y22 _ A22 j22 => (prod5_c _ _ A22.lt _ _ _ (denL a.ld) (hL19.mono (Le2 j21 j22)) _ _ _ (denL b.ld) (hL21.mono j22) (by first | omega | (simp; done) | (simp; omega)) (by first | omega | (simp; done) | (simp; omega)))) ?_
 rintro v23 w22 Y23 w23 A22 j23 ⟨ad23, len23, cap23, rfl, ls23, hL23, hcan23, hval23⟩
 have hlen23 := hL23.hlen
 have pl23 := prod_len 1000 hcan23 hval23 (denL_lt k₁.hlt) (denL_lt k₂.hlt) dla dlb
 rw [dva, dvb] at hval23
 refine gz [5] ?_
 refine gend (fun w24 Y24 A24 j24 => ?_)
 refine zz 5 ?_
 refine zo 2 A24 ?_
 refine zz 1 ?_
 refine zo 1 A24 ?_
 refine zz 3 ?_
 refine zb 27 (b := (a.neg == b.neg)) (fun hc25 => ?_) (fun hc25 => ?_)
 ·
  have ht26 : a.neg = b.neg := by simpa using hc25
  have hne : a.neg = b.neg := by simpa using ht26
  refine zz 2 ?_
  refine zdr A24 ?_
  refine gz [0] ?_
  refine gw 1 2 ?_
  refine gz [2, 3, 5] ?_
  have hc7_ := (Le7 j12 j14 j16 j17 j19 j21 j23).trans j24
  have hc8_ := (Le4 j17 j19 j21 j23).trans j24
  refine gC 4 (fun w27 Y27 _ A27 j27 => (sum5_c _ _ A27.lt _ _ _ ls11 (hL11.mono (hc7_.trans j27)) _ _ _ ls16 (hL16.mono (hc8_.trans j27)) (by first | omega | (simp; done) | (simp; omega)) (by first | omega | (simp; done) | (simp; omega)))) ?_
  rintro v28 w27 Y28 w28 A27 j28 ⟨ad28, len28, cap28, rfl, ls28, hL28, hcan28, hval28⟩
  have hlen28 := hL28.hlen
  have pl28 := add_len 2000 hcan28 (by omega) hL11.hlt hL16.hlt pl11 pl16
  refine gC 6 (fun w29 Y29 _ A29 j29 => (mk6_r _ _ A29.lt _ _ _ ls28 (hL28.mono j29) _ _ _ ls23 (hL23.mono (Le3 j24 j28 j29)) _ (by omega) (by omega) hcan28 hcan23 (by rw [hval23]; exact Nat.mul_pos dpa dpb) (a.rat + b.rat) (by rw [hval28, hval11, hval16, hval23]; exact rat_sum6 a b (sum6_eq hne)))) ?_
  rintro v30 w29 Y30 w30 A29 j30 ⟨ad30, len30, cap30, ae30, le30, ce30, rfl, hN30, hD30⟩
  refine gX 7 0 #[.bool (decide ((a.rat + b.rat).num < 0)), .slice ad30 len30 cap30, .slice ae30 le30 ce30] ?_
  intro w31 Y31 j31
  refine gend (fun w32 Y32 A32 j32 => ?_)
  refine zz 3 ?_
  refine zrS [.cell 4 25] (v := .agg #[.bool (decide ((a.rat + b.rat).num < 0)), .slice ad30 len30 cap30, .slice ae30 le30 ce30]) (Res.cM A32 0 Res.nil) ?_
  exact ⟨A32.upd, _, rfl, _, _, _, _, _, _, rfl, hN30.mono (Le.trans (Le2 j31 j32) A32.le), hD30.mono (Le.trans (Le2 j31 j32) A32.le)⟩
 have ht33 : a.neg ≠ b.neg := by simpa using hc25
 have hne : a.neg ≠ b.neg := by simpa using ht33
 refine zz 8 ?_
 have hc9_ := (Le7 j12 j14 j16 j17 j19 j21 j23).trans j24
 have hc10_ := (Le4 j17 j19 j21 j23).trans j24
 refine zc A24 (order5_c _ _ A24.lt _ _ _ ls11 (hL11.mono hc9_) _ _ _ ls16 (hL16.mono hc10_) (by first | omega | (simp; done) | (simp; omega)) (by first | omega | (simp; done) | (simp; omega))) ?_
 rintro v35 w35 A35 j35 hu35 rfl
 refine zz 3 ?_
 refine zt 38 (p := (cmpI (val ls11) (val ls16)) ≥ 0) (fun ht36 => ?_) (fun ht36 => ?_)
 ·
  have hcmp := cmpI_ge ht36
  refine zz 2 ?_
  refine zdr A35 ?_
  refine gz [0] ?_
  refine gw 1 2 ?_
  refine gz [2, 3, 5] ?_
  have hc11_ := hc9_.trans j35
  have hc12_ := hc10_.trans j35
  refine gC 4 (fun w37 Y37 _ A37 j37 => (diff5_c _ _ A37.lt _ _ _ ls11 (hL11.mono (hc11_.trans j37)) _ _ _ ls16 (hL16.mono (hc12_.trans j37)) (by first | omega | (simp; done) | (simp; omega)) (canon_len hL11.hlt hcan16 (by omega)) (by omega))) ?_
  rintro v38 w37 Y38 w38 A37 j38 ⟨ad38, len38, cap38, rfl, ls38, hL38, hcan38, hval38⟩
  have hlen38 := hL38.hlen
  have pl38 := add_len 2000 hcan38 (by omega) hL11.hlt hL16.hlt pl11 pl16
  have hc13_ := (Le2 j24 j35).trans j38
  refine gC 6 (fun w39 Y39 _ A39 j39 => (mk6_r _ _ A39.lt _ _ _ ls38 (hL38.mono j39) _ _ _ ls23 (hL23.mono (hc13_.trans j39)) _ (by omega) (by omega) hcan38 hcan23 (by rw [hval23]; exact Nat.mul_pos dpa dpb) (a.rat + b.rat) (by rw [hval38, hval11, hval16, hval23]; exact rat_sum6 a b (sum6_ge hne (by rw [← hval11, ← hval16]; exact hcmp))))) ?_
  rintro v40 w39 Y40 w40 A39 j40 ⟨ad40, len40, cap40, ae40, le40, ce40, rfl, hN40, hD40⟩
  refine gX 7 0 #[.bool (decide ((a.rat + b.rat).num < 0)), .slice ad40 len40 cap40, .slice ae40 le40 ce40] ?_
  intro w41 Y41 j41
  refine gend (fun w42 Y42 A42 j42 => ?_)
  refine zz 3 ?_
  refine zrS [.cell 4 25] (v := .agg #[.bool (decide ((a.rat + b.rat).num < 0)), .slice ad40 len40 cap40, .slice ae40 le40 ce40]) (Res.cM A42 0 Res.nil) ?_
  exact ⟨A42.upd, _, rfl, _, _, _, _, _, _, rfl, hN40.mono (Le.trans (Le2 j41 j42) A42.le), hD40.mono (Le.trans (Le2 j41 j42) A42.le)⟩
 have hcmp := cmpI_nge ht36
 refine zz 4 ?_
 refine zdr A35 ?_
 refine gz [0] ?_
 refine gw 1 1 ?_
 refine gz [2, 3, 5] ?_
 have hc14_ := hc10_.trans j35
 have hc15_ := hc9_.trans j35
 refine gC 4 (fun w43 Y43 _ A43 j43 => (diff5_c _ _ A43.lt _ _ _ ls16 (hL16.mono (hc14_.trans j43)) _ _ _ ls11 (hL11.mono (hc15_.trans j43)) (by first | omega | (simp; done) | (simp; omega)) (canon_len hL16.hlt hcan11 (by omega)) (by omega))) ?_
 rintro v44 w43 Y44 w44 A43 j44 ⟨ad44, len44, cap44, rfl, ls44, hL44, hcan44, hval44⟩
 have hlen44 := hL44.hlen
 have pl44 := add_len 2000 hcan44 (by omega) hL16.hlt hL11.hlt pl16 pl11
 have hc16_ := (Le2 j24 j35).trans j44
 refine gC 6 (fun w45 Y45 _ A45 j45 => (mk6_r _ _ A45.lt _ _ _ ls44 (hL44.mono j45) _ _ _ ls23 (hL23.mono (hc16_.trans j45)) _ (by omega) (by omega) hcan44 hcan23 (by rw [hval23]; exact Nat.mul_pos dpa dpb) (a.rat + b.rat) (by rw [hval44, hval11, hval16, hval23]; exact rat_sum6 a b (sum6_lt hne (by rw [← hval11, ← hval16]; exact hcmp))))) ?_
 rintro v46 w45 Y46 w46 A45 j46 ⟨ad46, len46, cap46, ae46, le46, ce46, rfl, hN46, hD46⟩
 refine gX 7 0 #[.bool (decide ((a.rat + b.rat).num < 0)), .slice ad46 len46 cap46, .slice ae46 le46 ce46] ?_
 intro w47 Y47 j47
 refine gend (fun w48 Y48 A48 j48 => ?_)
 refine zz 2 ?_
 refine zrS [.cell 4 25] (v := .agg #[.bool (decide ((a.rat + b.rat).num < 0)), .slice ad46 len46 cap46, .slice ae46 le46 ce46]) (Res.cM A48 0 Res.nil) ?_
 exact ⟨A48.upd, _, rfl, _, _, _, _, _, _, rfl, hN46.mono (Le.trans (Le2 j47 j48) A48.le), hD46.mono (Le.trans (Le2 j47 j48) A48.le)⟩
end Go.Proofs.YtoocgllbbihoaaaGreat
namespace Go.Proofs.YtoocgllbbihoaaaGreat
open Go Go.Gv Go.RowKit
set_option maxRecDepth 100000
set_option maxHeartbeats 1000000
theorem wrong6_c (w : World) (X : Hid) (hX : ∀ k o, X k o → k < w.heap.size) (a : Raw) (ad₁ : Option Addr) (len₁ cap₁ : Nat) (h₁ : Limbs (rd w X) ad₁ len₁ cap₁ a.ln) (ae₁ : Option Addr) (le₁ ce₁ : Nat) (k₁ : Limbs (rd w X) ae₁ le₁ ce₁ a.ld) (b : Raw) (ad₂ : Option Addr) (len₂ cap₂ : Nat) (h₂ : Limbs (rd w X) ad₂ len₂ cap₂ b.ln) (ae₂ : Option Addr) (le₂ ce₂ : Nat) (k₂ : Limbs (rd w X) ae₂ le₂ ce₂ b.ld) : Calls Tryz.prog 88 #[.agg #[.bool a.neg, .slice ad₁ len₁ cap₁, .slice ae₁ le₁ ce₁], .agg #[.bool b.neg, .slice ad₂ len₂ cap₂, .slice ae₂ le₂ ce₂]] w (Ret E0 w fun _ v => v = .int .i64 (or2 a.chk b.chk)) := by
 refine zen Tryz.func88 ?_
 have A0 : St E0 w X w X [] := St.start hX
 refine zz 2 ?_
 refine zn pn (.cells #[.bool a.neg, .slice ad₁ len₁ cap₁, .slice ae₁ le₁ ce₁] 25 (0, 0)) A0 ?_
 intro b3 w3 Y3 A3 j3 hu3
 refine zn pn (.cells #[.bool b.neg, .slice ad₂ len₂ cap₂, .slice ae₂ le₂ ce₂] 25 (0, 0)) A3 ?_
 intro b5 w5 Y5 A5 j5 hu5
 refine zz 5 ?_
 refine zo 1 A5 ?_
 refine zc A5 (rcheck6_c _ _ A5.lt a _ _ _ (h₁.mono (Le2 j3 j5)) _ _ _ (k₁.mono (Le2 j3 j5))) ?_
 rintro v7 w7 A7 j7 hu7 rfl
 refine zz 10 ?_
 refine zb 9 (b := ((a.chk) == 0)) (fun hc8 => ?_) (fun hc8 => ?_)
 ·
  have ht9 : (a.chk) = 0 := by simpa using hc8
  refine zz 2 ?_
  refine zo 0 A7 ?_
  refine zc A7 (rcheck6_c _ _ A7.lt b _ _ _ (h₂.mono (Le3 j3 j5 j7)) _ _ _ (k₂.mono (Le3 j3 j5 j7))) ?_
  rintro v11 w11 A11 j11 hu11 rfl
  refine zz 10 ?_
  refine zr' (v := .int .i64 b.chk) ?_
  exact ⟨A11.upd, _, rfl, vint (or2_ok ht9).symm⟩
 have ht12 : (a.chk) ≠ 0 := by simpa using hc8
 refine zz 10 ?_
 refine zr' (v := .int .i64 a.chk) ?_
 exact ⟨A7.upd, _, rfl, vint (or2_err ht12).symm⟩
end Go.Proofs.YtoocgllbbihoaaaGreat
namespace Go.Proofs.YtoocgllbbihoaaaGreat
open Go Go.Gv Go.RowKit
set_option maxRecDepth 100000
set_option maxHeartbeats 1000000
/-- The negative. -/
def minusR (a : Raw) : Raw := ⟨!a.neg && decide (0 < a.ln.length), a.ln, a.ld⟩
theorem aggB {x y : Bool} {u v : Value} (h : x = y) : Value.agg #[.bool x, u, v] = .agg #[.bool y, u, v] := h ▸ rfl
theorem minus6_c (w : World) (X : Hid) (hX : ∀ k o, X k o → k < w.heap.size) (a : Raw) (ad₁ : Option Addr) (len₁ cap₁ : Nat) (h₁ : Limbs (rd w X) ad₁ len₁ cap₁ a.ln) (ae₁ : Option Addr) (le₁ ce₁ : Nat) (k₁ : Limbs (rd w X) ae₁ le₁ ce₁ a.ld) (hm : len₁ ≤ 1048576) (hm2 : le₁ ≤ 1048576) : Calls Tryz.prog 71 #[.agg #[.bool a.neg, .slice ad₁ len₁ cap₁, .slice ae₁ le₁ ce₁]] w (Ret E0 w fun w' v => RawX X w' v (minusR a)) := by
 have hq := h₁.hlen
 refine zen Tryz.func71 ?_
 have A0 : St E0 w X w X [] := St.start hX
 refine zz 2 ?_
 refine zn pn (.cells #[.bool a.neg, .slice ad₁ len₁ cap₁, .slice ae₁ le₁ ce₁] 25 (0, 0)) A0 ?_
 intro b3 w3 Y3 A3 j3 hu3
 refine zn pn (.cells #[.bool false, .slice none 0 0, .slice none 0 0] 25 (0, 0)) A3 ?_
 intro b5 w5 Y5 A5 j5 hu5
 refine zz 3 ?_
 refine zdr A5 ?_
 refine gz [0] ?_
 refine gw 1 1 ?_
 refine gz [2, 3] ?_
 refine gb 6 (b := !a.neg) (fun hc6 => ?_) (fun hc6 => ?_)
 ·
  have ht7 : a.neg = false := by simpa using hc6
  refine gz [4] ?_
  refine gw 5 1 ?_
  refine gz [6, 7, 8, 9] ?_
  refine gw 10 1 ?_
  refine gz [12] ?_
  refine gw 13 1 ?_
  refine gC 11 (fun w8 Y8 _ A8 j8 => (CopyNat_c _ _ A8.lt _ _ _ _ (h₁.mono (Le3 j3 j5 j8)) (by omega))) ?_
  rintro v9 w8 Y9 w9 A8 j9 ⟨ad9, len9, cap9, rfl, hN9⟩
  have hc1_ := (Le2 j3 j5).trans j9
  refine gC 14 (fun w10 Y10 _ A10 j10 => (CopyNat_c _ _ A10.lt _ _ _ _ (k₁.mono (hc1_.trans j10)) (by omega))) ?_
  rintro v11 w10 Y11 w11 A10 j11 ⟨ad11, len11, cap11, rfl, hN11⟩
  refine gz [15] ?_
  refine gX 16 0 #[.bool (decide ((len₁ : Int) > 0)), .slice ad9 len9 cap9, .slice ad11 len11 cap11] ?_
  intro w12 Y12 j12
  refine gend (fun w13 Y13 A13 j13 => ?_)
  refine zz 2 ?_
  refine zrS [.cell 2 25] (v := .agg #[.bool (decide ((len₁ : Int) > 0)), .slice ad9 len9 cap9, .slice ad11 len11 cap11]) (Res.cM A13 0 Res.nil) ?_
  exact ⟨A13.upd, _, rfl, _, _, _, _, _, _, aggB (by simp_all [minusR]), ((hN9.mono (Le3 j11 j12 j13))).mono A13.le, ((hN11.mono (Le2 j12 j13))).mono A13.le⟩
 have ht14 : a.neg = true := by simpa using hc6
 refine gz [4, 5, 6, 7, 8, 9] ?_
 refine gw 10 1 ?_
 refine gz [12] ?_
 refine gw 13 1 ?_
 refine gC 11 (fun w15 Y15 _ A15 j15 => (CopyNat_c _ _ A15.lt _ _ _ _ (h₁.mono (Le3 j3 j5 j15)) (by omega))) ?_
 rintro v16 w15 Y16 w16 A15 j16 ⟨ad16, len16, cap16, rfl, hN16⟩
 have hc2_ := (Le2 j3 j5).trans j16
 refine gC 14 (fun w17 Y17 _ A17 j17 => (CopyNat_c _ _ A17.lt _ _ _ _ (k₁.mono (hc2_.trans j17)) (by omega))) ?_
 rintro v18 w17 Y18 w18 A17 j18 ⟨ad18, len18, cap18, rfl, hN18⟩
 refine gz [15] ?_
 refine gX 16 0 #[.bool false, .slice ad16 len16 cap16, .slice ad18 len18 cap18] ?_
 intro w19 Y19 j19
 refine gend (fun w20 Y20 A20 j20 => ?_)
 refine zz 2 ?_
 refine zrS [.cell 2 25] (v := .agg #[.bool false, .slice ad16 len16 cap16, .slice ad18 len18 cap18]) (Res.cM A20 0 Res.nil) ?_
 exact ⟨A20.upd, _, rfl, _, _, _, _, _, _, aggB (by simp_all [minusR]), ((hN16.mono (Le3 j18 j19 j20))).mono A20.le, ((hN18.mono (Le2 j19 j20))).mono A20.le⟩
end Go.Proofs.YtoocgllbbihoaaaGreat
namespace Go.Proofs.YtoocgllbbihoaaaGreat
open Go Go.Gv Go.RowKit
set_option maxRecDepth 100000
set_option maxHeartbeats 1000000
theorem vr_of {a : Raw} (h : a.chk = 0) : Vr a := by
  obtain ⟨h1, h2, h3, h4, _⟩ := Raw.chk_ok h
  exact ⟨h3, h4, by omega, by omega⟩
theorem ratE_long {z : Rat} (h : ¬ (z.num.natAbs < K128 ∧ den1 z.den < K128)) : ratE z = 4 := if_neg h
theorem ratE_fits {z : Rat} (h : z.num.natAbs < K128 ∧ den1 z.den < K128) : ratE z = 0 := if_pos h
/-- A result, if it fits. -/
def fitR (z : Rat) : Raw := if ratE z = 0 then Raw.of z else .zero
theorem fitR_long {z : Rat} (h : ratE z = 4) : fitR z = .zero := if_neg (by rw [h]; decide)
theorem fitR_ok {z : Rat} (h : ratE z = 0) : fitR z = .of z := if_pos h
theorem op6_err {a b : Raw} {z : Rat} (h : or2 a.chk b.chk ≠ 0) : opE a b z = or2 a.chk b.chk ∧ opR a b z = .zero := by
  have e : opE a b z = or2 a.chk b.chk := or2_err h
  exact ⟨e, if_neg (by rw [e]; exact h)⟩
theorem op6_ok {a b : Raw} {z : Rat} (h : or2 a.chk b.chk = 0) : opE a b z = ratE z ∧ opR a b z = fitR z := by
  have e : opE a b z = ratE z := or2_ok h
  exact ⟨e, by unfold opR fitR; rw [e]⟩
theorem minus_rat {b : Raw} (h : Canon b.ln) : (minusR b).rat = - b.rat := by
  have h1 := canon_len0 h
  show mkRat (sgn (!b.neg && decide (0 < b.ln.length)) (val b.ln)) b.d = - mkRat (sgn b.neg (val b.ln)) b.d
  rw [Rat.neg_mkRat]
  by_cases h0 : b.ln.length = 0
  · rw [h1.1 h0]; cases b.neg <;> simp [sgn]
  · rw [show decide (0 < b.ln.length) = true from decide_eq_true (by omega), Bool.and_true, sgn_not]
theorem num_neg6 {x : Rat} : x.num < 0 ↔ x < 0 := by
  rw [Rat.lt_iff, show (0 : Rat).num = 0 from rfl, show (0 : Rat).den = 1 from rfl]; omega
theorem cmpQ_neg {x y : Rat} (h : (x + - y).num < 0) : cmpQ x y = -1 := by
  have h1 : x + - y < 0 := num_neg6.1 h
  have h2 : x < y := by grind
  have h3 : x ≠ y := by grind
  rw [cmpQ, if_neg h3, if_pos h2]
theorem cmpQ_pos {x y : Rat} (h : ¬ (x + - y).num < 0) (h' : (x + - y).num.natAbs ≠ 0) : cmpQ x y = 1 := by
  have h1 : ¬ x + - y < 0 := fun e => h (num_neg6.2 e)
  have h0 : x + - y ≠ 0 := fun e => h' (by rw [e]; rfl)
  have h2 : ¬ x < y := by grind
  have h3 : x ≠ y := by grind
  rw [cmpQ, if_neg h3, if_neg h2]
theorem cmpQ_zero {x y : Rat} (h' : (x + - y).num.natAbs = 0) : cmpQ x y = 0 := by
  have h0 : x + - y = 0 := Rat.num_eq_zero.1 (by omega)
  have h3 : x = y := by grind
  rw [cmpQ, if_pos h3]
theorem fit6_c (w : World) (X : Hid) (hX : ∀ k o, X k o → k < w.heap.size) (z : Rat) (ad : Option Addr) (len cap : Nat) (h : NatR (rd w X) ad len cap z.num.natAbs) (ae : Option Addr) (le ce : Nat) (k : NatR (rd w X) ae le ce (den1 z.den)) : Calls Tryz.prog 89 #[.agg #[.bool (decide (z.num < 0)), .slice ad len cap, .slice ae le ce]] w (Ret E0 w fun w' v => ∃ u, v = .tuple #[u, .int .i64 (ratE z)] ∧ RawX X w' u (fitR z)) := by
 refine zen Tryz.func89 ?_
 have A0 : St E0 w X w X [] := St.start hX
 refine zz 2 ?_
 refine zn pn (.cells #[.bool (decide (z.num < 0)), .slice ad len cap, .slice ae le ce] 25 (0, 0)) A0 ?_
 intro b3 w3 Y3 A3 j3 hu3
 refine zn pn (.cells #[.bool false, .slice none 0 0, .slice none 0 0] 25 (0, 0)) A3 ?_
 intro b5 w5 Y5 A5 j5 hu5
 refine zz 7 ?_
 refine zo 1 A5 ?_
 refine zz 3 ?_
 refine zt 8 (p := (len : Int) > 128) (fun ht6 => ?_) (fun ht6 => ?_)
 ·
  have he := ratE_long (z := z) (fun hh => absurd ((h.len_le 128).2 hh.1) (by omega))
  refine zz 11 ?_
  refine zx 0 #[.bool false, .slice none 0 0, .slice none 0 0] A5 ?_
  intro w7 A7 j7
  refine zz 5 ?_
  refine zrS [.cell 2 25, .tmp 3] (v := .tuple #[.agg #[.bool false, .slice none 0 0, .slice none 0 0], .int .i64 4]) (Res.cM A7 0 (Res.tZ Res.nil)) ?_
  exact ⟨A7.upd, _, rfl, _, by rw [he], by rw [fitR_long he]; exact raw_zero⟩
 refine zz 1 ?_
 refine zo 1 A5 ?_
 refine zz 5 ?_
 refine zt 13 (p := (le : Int) > 128) (fun ht8 => ?_) (fun ht8 => ?_)
 ·
  have he := ratE_long (z := z) (fun hh => absurd ((k.len_le 128).2 hh.2) (by omega))
  refine zz 4 ?_
  refine zx 0 #[.bool false, .slice none 0 0, .slice none 0 0] A5 ?_
  intro w9 A9 j9
  refine zz 5 ?_
  refine zrS [.cell 2 25, .tmp 3] (v := .tuple #[.agg #[.bool false, .slice none 0 0, .slice none 0 0], .int .i64 4]) (Res.cM A9 0 (Res.tZ Res.nil)) ?_
  exact ⟨A9.upd, _, rfl, _, by rw [he], by rw [fitR_long he]; exact raw_zero⟩
 have he := ratE_fits (z := z) ⟨(h.len_le 128).1 (by omega), (k.len_le 128).1 (by omega)⟩
 refine zz 5 ?_
 refine zo 1 A5 ?_
 refine zx 0 #[.bool (decide (z.num < 0)), .slice ad len cap, .slice ae le ce] A5 ?_
 intro w10 A10 j10
 refine zz 4 ?_
 refine zrS [.cell 2 25, .tmp 3] (v := .tuple #[.agg #[.bool (decide (z.num < 0)), .slice ad len cap, .slice ae le ce], .int .i64 0]) (Res.cM A10 0 (Res.tZ Res.nil)) ?_
 exact ⟨A10.upd, _, rfl, _, by rw [he], by rw [fitR_ok he]; exact RatX.raw ⟨_, _, _, _, _, _, rfl, h.mono (Le.trans (Le3 j3 j5 j10) A10.le), k.mono (Le.trans (Le3 j3 j5 j10) A10.le)⟩⟩
theorem rAdd6_c (w : World) (X : Hid) (hX : ∀ k o, X k o → k < w.heap.size) (a : Raw) (ad₁ : Option Addr) (len₁ cap₁ : Nat) (h₁ : Limbs (rd w X) ad₁ len₁ cap₁ a.ln) (ae₁ : Option Addr) (le₁ ce₁ : Nat) (k₁ : Limbs (rd w X) ae₁ le₁ ce₁ a.ld) (b : Raw) (ad₂ : Option Addr) (len₂ cap₂ : Nat) (h₂ : Limbs (rd w X) ad₂ len₂ cap₂ b.ln) (ae₂ : Option Addr) (le₂ ce₂ : Nat) (k₂ : Limbs (rd w X) ae₂ le₂ ce₂ b.ld) : Calls Tryz.prog 69 #[.agg #[.bool a.neg, .slice ad₁ len₁ cap₁, .slice ae₁ le₁ ce₁], .agg #[.bool b.neg, .slice ad₂ len₂ cap₂, .slice ae₂ le₂ ce₂]] w (Ret E0 w fun w' v => ∃ u, v = .tuple #[u, .int .i64 (opE a b (a.rat + b.rat))] ∧ RawX X w' u (opR a b (a.rat + b.rat))) := by
 refine zen Tryz.func69 ?_
 have A0 : St E0 w X w X [] := St.start hX
 refine zz 2 ?_
 refine zn pn (.cells #[.bool a.neg, .slice ad₁ len₁ cap₁, .slice ae₁ le₁ ce₁] 25 (0, 0)) A0 ?_
 intro b3 w3 Y3 A3 j3 hu3
 refine zn pn (.cells #[.bool b.neg, .slice ad₂ len₂ cap₂, .slice ae₂ le₂ ce₂] 25 (0, 0)) A3 ?_
 intro b5 w5 Y5 A5 j5 hu5
 refine zn pn (.cells #[.bool false, .slice none 0 0, .slice none 0 0] 25 (0, 0)) A5 ?_
 intro b7 w7 Y7 A7 j7 hu7
 refine zz 5 ?_
 refine zo 2 A7 ?_
 refine zo 1 A7 ?_
 refine zc A7 (wrong6_c _ _ A7.lt a _ _ _ (h₁.mono (Le3 j3 j5 j7)) _ _ _ (k₁.mono (Le3 j3 j5 j7)) b _ _ _ (h₂.mono (Le3 j3 j5 j7)) _ _ _ (k₂.mono (Le3 j3 j5 j7))) ?_
 rintro v9 w9 A9 j9 hu9 rfl
 refine zz 10 ?_
 refine zb 11 (b := ((or2 a.chk b.chk) != 0)) (fun hc10 => ?_) (fun hc10 => ?_)
 ·
  have ht11 : (or2 a.chk b.chk) ≠ 0 := by simpa using hc10
  refine zz 5 ?_
  refine zx 0 #[.bool false, .slice none 0 0, .slice none 0 0] A9 ?_
  intro w12 A12 j12
  refine zz 5 ?_
  refine zrS [.cell 4 25, .tmp 5] (v := .tuple #[.agg #[.bool false, .slice none 0 0, .slice none 0 0], .int .i64 (or2 a.chk b.chk)]) (Res.cM A12 0 (Res.tZ Res.nil)) ?_
  obtain ⟨he1, he2⟩ := op6_err (z := (a.rat + b.rat)) ht11
  exact ⟨A12.upd, _, rfl, _, by rw [he1], by rw [he2]; exact raw_zero⟩
 have ht13 : (or2 a.chk b.chk) = 0 := by simpa using hc10
 have hok : or2 a.chk b.chk = 0 := by simpa using ht13
 obtain ⟨hca, hcb⟩ := or2_zero hok
 have hva := vr_of hca
 have hvb := vr_of hcb
 have lh₁ := h₁.hlen
 have lk₁ := k₁.hlen
 have lh₂ := h₂.hlen
 have lk₂ := k₂.hlen
 refine zz 5 ?_
 refine zo 2 A9 ?_
 refine zo 1 A9 ?_
 have hc1_ := (Le3 j3 j5 j7).trans j9
 refine zc A9 (rsum6_c _ _ A9.lt a _ _ _ (h₁.mono hc1_) _ _ _ (k₁.mono hc1_) b _ _ _ (h₂.mono hc1_) _ _ _ (k₂.mono hc1_) hva hvb) ?_
 rintro v15 w15 A15 j15 hu15 ⟨ad15, len15, cap15, ae15, le15, ce15, rfl, hN15, hD15⟩
 refine zc A15 (fit6_c _ _ A15.lt (a.rat + b.rat) _ _ _ hN15 _ _ _ hD15) ?_
 rintro v17 w17 A17 j17 hu17 ⟨u17, rfl, ⟨ad17, len17, cap17, ae17, le17, ce17, rfl, hN17, hD17⟩⟩
 refine zz 2 ?_
 refine zx 0 #[.bool ((fitR (a.rat + b.rat)).neg), .slice ad17 len17 cap17, .slice ae17 le17 ce17] A17 ?_
 intro w18 A18 j18
 refine zz 4 ?_
 refine zrS [.cell 4 25, .tmp 5] (v := .tuple #[.agg #[.bool ((fitR (a.rat + b.rat)).neg), .slice ad17 len17 cap17, .slice ae17 le17 ce17], .int .i64 (ratE (a.rat + b.rat))]) (Res.cM A18 0 (Res.tZ Res.nil)) ?_
 obtain ⟨he1, he2⟩ := op6_ok (z := (a.rat + b.rat)) hok
 exact ⟨A18.upd, _, rfl, _, by rw [he1], by rw [he2]; exact ⟨_, _, _, _, _, _, rfl, (hN17.mono j18).mono A18.le, (hD17.mono j18).mono A18.le⟩⟩
theorem rMul6_c (w : World) (X : Hid) (hX : ∀ k o, X k o → k < w.heap.size) (a : Raw) (ad₁ : Option Addr) (len₁ cap₁ : Nat) (h₁ : Limbs (rd w X) ad₁ len₁ cap₁ a.ln) (ae₁ : Option Addr) (le₁ ce₁ : Nat) (k₁ : Limbs (rd w X) ae₁ le₁ ce₁ a.ld) (b : Raw) (ad₂ : Option Addr) (len₂ cap₂ : Nat) (h₂ : Limbs (rd w X) ad₂ len₂ cap₂ b.ln) (ae₂ : Option Addr) (le₂ ce₂ : Nat) (k₂ : Limbs (rd w X) ae₂ le₂ ce₂ b.ld) : Calls Tryz.prog 68 #[.agg #[.bool a.neg, .slice ad₁ len₁ cap₁, .slice ae₁ le₁ ce₁], .agg #[.bool b.neg, .slice ad₂ len₂ cap₂, .slice ae₂ le₂ ce₂]] w (Ret E0 w fun w' v => ∃ u, v = .tuple #[u, .int .i64 (opE a b (a.rat * b.rat))] ∧ RawX X w' u (opR a b (a.rat * b.rat))) := by
 refine zen Tryz.func68 ?_
 have A0 : St E0 w X w X [] := St.start hX
 refine zz 2 ?_
 refine zn pn (.cells #[.bool a.neg, .slice ad₁ len₁ cap₁, .slice ae₁ le₁ ce₁] 25 (0, 0)) A0 ?_
 intro b3 w3 Y3 A3 j3 hu3
 refine zn pn (.cells #[.bool b.neg, .slice ad₂ len₂ cap₂, .slice ae₂ le₂ ce₂] 25 (0, 0)) A3 ?_
 intro b5 w5 Y5 A5 j5 hu5
 refine zn pn (.cells #[.bool false, .slice none 0 0, .slice none 0 0] 25 (0, 0)) A5 ?_
 intro b7 w7 Y7 A7 j7 hu7
 refine zz 5 ?_
 refine zo 2 A7 ?_
 refine zo 1 A7 ?_
 refine zc A7 (wrong6_c _ _ A7.lt a _ _ _ (h₁.mono (Le3 j3 j5 j7)) _ _ _ (k₁.mono (Le3 j3 j5 j7)) b _ _ _ (h₂.mono (Le3 j3 j5 j7)) _ _ _ (k₂.mono (Le3 j3 j5 j7))) ?_
 rintro v9 w9 A9 j9 hu9 rfl
 refine zz 10 ?_
 refine zb 11 (b := ((or2 a.chk b.chk) != 0)) (fun hc10 => ?_) (fun hc10 => ?_)
 ·
  have ht11 : (or2 a.chk b.chk) ≠ 0 := by simpa using hc10
  refine zz 5 ?_
  refine zx 0 #[.bool false, .slice none 0 0, .slice none 0 0] A9 ?_
  intro w12 A12 j12
  refine zz 5 ?_
  refine zrS [.cell 4 25, .tmp 5] (v := .tuple #[.agg #[.bool false, .slice none 0 0, .slice none 0 0], .int .i64 (or2 a.chk b.chk)]) (Res.cM A12 0 (Res.tZ Res.nil)) ?_
  obtain ⟨he1, he2⟩ := op6_err (z := (a.rat * b.rat)) ht11
  exact ⟨A12.upd, _, rfl, _, by rw [he1], by rw [he2]; exact raw_zero⟩
 have ht13 : (or2 a.chk b.chk) = 0 := by simpa using hc10
 have hok : or2 a.chk b.chk = 0 := by simpa using ht13
 obtain ⟨hca, hcb⟩ := or2_zero hok
 have hva := vr_of hca
 have hvb := vr_of hcb
 have lh₁ := h₁.hlen
 have lk₁ := k₁.hlen
 have lh₂ := h₂.hlen
 have lk₂ := k₂.hlen
 refine zz 5 ?_
 refine zo 2 A9 ?_
 refine zo 1 A9 ?_
 have hc1_ := (Le3 j3 j5 j7).trans j9
 refine zc A9 (rprod6_c _ _ A9.lt a _ _ _ (h₁.mono hc1_) _ _ _ (k₁.mono hc1_) b _ _ _ (h₂.mono hc1_) _ _ _ (k₂.mono hc1_) hva hvb) ?_
 rintro v15 w15 A15 j15 hu15 ⟨ad15, len15, cap15, ae15, le15, ce15, rfl, hN15, hD15⟩
 refine zc A15 (fit6_c _ _ A15.lt (a.rat * b.rat) _ _ _ hN15 _ _ _ hD15) ?_
 rintro v17 w17 A17 j17 hu17 ⟨u17, rfl, ⟨ad17, len17, cap17, ae17, le17, ce17, rfl, hN17, hD17⟩⟩
 refine zz 2 ?_
 refine zx 0 #[.bool ((fitR (a.rat * b.rat)).neg), .slice ad17 len17 cap17, .slice ae17 le17 ce17] A17 ?_
 intro w18 A18 j18
 refine zz 4 ?_
 refine zrS [.cell 4 25, .tmp 5] (v := .tuple #[.agg #[.bool ((fitR (a.rat * b.rat)).neg), .slice ad17 len17 cap17, .slice ae17 le17 ce17], .int .i64 (ratE (a.rat * b.rat))]) (Res.cM A18 0 (Res.tZ Res.nil)) ?_
 obtain ⟨he1, he2⟩ := op6_ok (z := (a.rat * b.rat)) hok
 exact ⟨A18.upd, _, rfl, _, by rw [he1], by rw [he2]; exact ⟨_, _, _, _, _, _, rfl, (hN17.mono j18).mono A18.le, (hD17.mono j18).mono A18.le⟩⟩
theorem rSub6_c (w : World) (X : Hid) (hX : ∀ k o, X k o → k < w.heap.size) (a : Raw) (ad₁ : Option Addr) (len₁ cap₁ : Nat) (h₁ : Limbs (rd w X) ad₁ len₁ cap₁ a.ln) (ae₁ : Option Addr) (le₁ ce₁ : Nat) (k₁ : Limbs (rd w X) ae₁ le₁ ce₁ a.ld) (b : Raw) (ad₂ : Option Addr) (len₂ cap₂ : Nat) (h₂ : Limbs (rd w X) ad₂ len₂ cap₂ b.ln) (ae₂ : Option Addr) (le₂ ce₂ : Nat) (k₂ : Limbs (rd w X) ae₂ le₂ ce₂ b.ld) : Calls Tryz.prog 56 #[.agg #[.bool a.neg, .slice ad₁ len₁ cap₁, .slice ae₁ le₁ ce₁], .agg #[.bool b.neg, .slice ad₂ len₂ cap₂, .slice ae₂ le₂ ce₂]] w (Ret E0 w fun w' v => ∃ u, v = .tuple #[u, .int .i64 (opE a b (a.rat - b.rat))] ∧ RawX X w' u (opR a b (a.rat - b.rat))) := by
 refine zen Tryz.func56 ?_
 have A0 : St E0 w X w X [] := St.start hX
 refine zz 2 ?_
 refine zn pn (.cells #[.bool a.neg, .slice ad₁ len₁ cap₁, .slice ae₁ le₁ ce₁] 25 (0, 0)) A0 ?_
 intro b3 w3 Y3 A3 j3 hu3
 refine zn pn (.cells #[.bool b.neg, .slice ad₂ len₂ cap₂, .slice ae₂ le₂ ce₂] 25 (0, 0)) A3 ?_
 intro b5 w5 Y5 A5 j5 hu5
 refine zn pn (.cells #[.bool false, .slice none 0 0, .slice none 0 0] 25 (0, 0)) A5 ?_
 intro b7 w7 Y7 A7 j7 hu7
 refine zz 5 ?_
 refine zo 2 A7 ?_
 refine zo 1 A7 ?_
 refine zc A7 (wrong6_c _ _ A7.lt a _ _ _ (h₁.mono (Le3 j3 j5 j7)) _ _ _ (k₁.mono (Le3 j3 j5 j7)) b _ _ _ (h₂.mono (Le3 j3 j5 j7)) _ _ _ (k₂.mono (Le3 j3 j5 j7))) ?_
 rintro v9 w9 A9 j9 hu9 rfl
 refine zz 10 ?_
 refine zb 11 (b := ((or2 a.chk b.chk) != 0)) (fun hc10 => ?_) (fun hc10 => ?_)
 ·
  have ht11 : (or2 a.chk b.chk) ≠ 0 := by simpa using hc10
  refine zz 5 ?_
  refine zx 0 #[.bool false, .slice none 0 0, .slice none 0 0] A9 ?_
  intro w12 A12 j12
  refine zz 5 ?_
  refine zrS [.cell 4 25, .tmp 5] (v := .tuple #[.agg #[.bool false, .slice none 0 0, .slice none 0 0], .int .i64 (or2 a.chk b.chk)]) (Res.cM A12 0 (Res.tZ Res.nil)) ?_
  obtain ⟨he1, he2⟩ := op6_err (z := (a.rat - b.rat)) ht11
  exact ⟨A12.upd, _, rfl, _, by rw [he1], by rw [he2]; exact raw_zero⟩
 have ht13 : (or2 a.chk b.chk) = 0 := by simpa using hc10
 have hok : or2 a.chk b.chk = 0 := by simpa using ht13
 obtain ⟨hca, hcb⟩ := or2_zero hok
 have hva := vr_of hca
 have hvb := vr_of hcb
 have lh₁ := h₁.hlen
 have lk₁ := k₁.hlen
 have lh₂ := h₂.hlen
 have lk₂ := k₂.hlen
 refine zz 4 ?_
 refine zdr A9 ?_
 refine gw 0 2 ?_
 refine gw 1 1 ?_
 have hc1_ := (Le3 j3 j5 j7).trans j9
 refine gC 2 (fun w14 Y14 _ A14 j14 => (minus6_c _ _ A14.lt b _ _ _ (h₂.mono (hc1_.trans j14)) _ _ _ (k₂.mono (hc1_.trans j14)) (by have := hvb.2.2; omega) (by have := hvb.2.2; omega))) ?_
 rintro v15 w14 Y15 w15 A14 j15 ⟨ad15, len15, cap15, ae15, le15, ce15, rfl, hN15, hD15⟩
 have hc2_ := hc1_.trans j15
 refine gC 3 (fun w16 Y16 _ A16 j16 => (rsum6_c _ _ A16.lt a _ _ _ (h₁.mono (hc2_.trans j16)) _ _ _ (k₁.mono (hc2_.trans j16)) (minusR b) _ _ _ (hN15.mono j16) _ _ _ (hD15.mono j16) hva (show Vr (minusR b) from hvb))) ?_
 rintro v17 w16 Y17 w17 A16 j17 ⟨ad17, len17, cap17, ae17, le17, ce17, rfl, hN17, hD17⟩
 refine gC 4 (fun w18 Y18 _ A18 j18 => (fit6_c _ _ A18.lt (a.rat + (minusR b).rat) _ _ _ (hN17.mono j18) _ _ _ (hD17.mono j18))) ?_
 rintro v19 w18 Y19 w19 A18 j19 ⟨u19, rfl, ⟨ad19, len19, cap19, ae19, le19, ce19, rfl, hN19, hD19⟩⟩
 refine gz [5, 6] ?_
 refine gX 7 0 #[.bool ((fitR (a.rat + (minusR b).rat)).neg), .slice ad19 len19 cap19, .slice ae19 le19 ce19] ?_
 intro w20 Y20 j20
 refine gz [8] ?_
 refine gend (fun w21 Y21 A21 j21 => ?_)
 refine zz 2 ?_
 refine zrS [.cell 4 25, .tmp 5] (v := .tuple #[.agg #[.bool ((fitR (a.rat + (minusR b).rat)).neg), .slice ad19 len19 cap19, .slice ae19 le19 ce19], .int .i64 (ratE (a.rat + (minusR b).rat))]) (Res.cM A21 0 (Res.tZ Res.nil)) ?_
 have hz : a.rat + (minusR b).rat = a.rat - b.rat := by rw [minus_rat hvb.1, Rat.sub_eq_add_neg]
 obtain ⟨he1, he2⟩ := op6_ok (z := (a.rat - b.rat)) hok
 exact ⟨A21.upd, _, rfl, _, by rw [he1, ← hz], by rw [he2, ← hz]; exact ⟨_, _, _, _, _, _, rfl, (hN19.mono (Le2 j20 j21)).mono A21.le, (hD19.mono (Le2 j20 j21)).mono A21.le⟩⟩
theorem order6_c (w : World) (X : Hid) (hX : ∀ k o, X k o → k < w.heap.size) (a : Raw) (ad₁ : Option Addr) (len₁ cap₁ : Nat) (h₁ : Limbs (rd w X) ad₁ len₁ cap₁ a.ln) (ae₁ : Option Addr) (le₁ ce₁ : Nat) (k₁ : Limbs (rd w X) ae₁ le₁ ce₁ a.ld) (b : Raw) (ad₂ : Option Addr) (len₂ cap₂ : Nat) (h₂ : Limbs (rd w X) ad₂ len₂ cap₂ b.ln) (ae₂ : Option Addr) (le₂ ce₂ : Nat) (k₂ : Limbs (rd w X) ae₂ le₂ ce₂ b.ld) (hva : Vr a) (hvb : Vr b) : Calls Tryz.prog 41 #[.agg #[.bool a.neg, .slice ad₁ len₁ cap₁, .slice ae₁ le₁ ce₁], .agg #[.bool b.neg, .slice ad₂ len₂ cap₂, .slice ae₂ le₂ ce₂]] w (Ret E0 w fun _ v => v = .int .i64 (cmpQ a.rat b.rat)) := by
 refine zen Tryz.func41 ?_
 have A0 : St E0 w X w X [] := St.start hX
 have lh₁ := h₁.hlen
 have lk₁ := k₁.hlen
 have lh₂ := h₂.hlen
 have lk₂ := k₂.hlen
 refine zz 2 ?_
 refine zn pn (.cells #[.bool a.neg, .slice ad₁ len₁ cap₁, .slice ae₁ le₁ ce₁] 25 (0, 0)) A0 ?_
 intro b3 w3 Y3 A3 j3 hu3
 refine zn pn (.cells #[.bool b.neg, .slice ad₂ len₂ cap₂, .slice ae₂ le₂ ce₂] 25 (0, 0)) A3 ?_
 intro b5 w5 Y5 A5 j5 hu5
 refine zz 4 ?_
 refine zdr A5 ?_
 refine gw 0 1 ?_
 refine gw 1 0 ?_
 refine gp (al 4 5 pn (.cells #[.bool false, .slice none 0 0, .slice none 0 0] 25 (0, 0))) ?_
 refine gC 2 (fun w6 Y6 _ A6 j6 => (minus6_c _ _ A6.lt b _ _ _ (h₂.mono (Le3 j3 j5 j6)) _ _ _ (k₂.mono (Le3 j3 j5 j6)) (by have := hvb.2.2; omega) (by have := hvb.2.2; omega))) ?_ (hPd := PdOk.nil.k)
 rintro v7 w6 Y7 w7 A6 j7 ⟨ad7, len7, cap7, ae7, le7, ce7, rfl, hN7, hD7⟩
 have hc1_ := (Le2 j3 j5).trans j7
 refine gC 3 (fun w8 Y8 _ A8 j8 => (rsum6_c _ _ A8.lt a _ _ _ (h₁.mono (hc1_.trans j8)) _ _ _ (k₁.mono (hc1_.trans j8)) (minusR b) _ _ _ (hN7.mono j8) _ _ _ (hD7.mono j8) hva (show Vr (minusR b) from hvb))) ?_ (hPd := PdOk.nil.k)
 rintro v9 w8 Y9 w9 A8 j9 ⟨ad9, len9, cap9, ae9, le9, ce9, rfl, hN9, hD9⟩
 refine gs1 (fun b10 => ?_) PdOk.nil.k
 refine gX 5 0 #[.bool (decide ((a.rat + (minusR b).rat).num < 0)), .slice ad9 len9 cap9, .slice ae9 le9 ce9] ?_
 intro w11 Y11 j11
 refine gend (fun w12 Y12 A12 j12 => ?_)
 refine zz 5 ?_
 refine zo 0 A12 ?_
 refine zz 2 ?_
 refine zt 11 (p := (a.rat + (minusR b).rat).num < 0) (fun ht13 => ?_) (fun ht13 => ?_)
 ·
  rw [minus_rat hvb.1] at ht13
  refine zz 8 ?_
  refine zr' (v := .int .i64 (-1)) ?_
  exact ⟨A12.upd, _, rfl, vint (cmpQ_neg ht13).symm⟩
 rw [minus_rat hvb.1] at ht13
 refine zz 7 ?_
 refine zo 0 A12 ?_
 refine zz 4 ?_
 refine zt 15 (p := (len9 : Int) > 0) (fun ht14 => ?_) (fun ht14 => ?_)
 ·
  have hl0 := hN9.len0
  rw [minus_rat hvb.1] at hl0
  refine zz 8 ?_
  refine zr' (v := .int .i64 1) ?_
  exact ⟨A12.upd, _, rfl, vint (cmpQ_pos ht13 (fun e => by have := hl0.2 e; omega)).symm⟩
 have hl0 := hN9.len0
 rw [minus_rat hvb.1] at hl0
 refine zz 9 ?_
 refine zr' (v := .int .i64 0) ?_
 exact ⟨A12.upd, _, rfl, vint (cmpQ_zero (hl0.1 (by omega))).symm⟩
end Go.Proofs.YtoocgllbbihoaaaGreat
namespace Go.Proofs.YtoocgllbbihoaaaGreat
open Go Go.Gv Go.RowKit
set_option maxRecDepth 100000
set_option maxHeartbeats 1000000
/-- A number as an operation answers it. -/
def Nf (r : Raw) : Prop := r = .of r.rat ∧ ratE r.rat = 0
theorem Nf.zero : Nf .zero := by
  unfold Nf; rw [zero_rat0]; exact ⟨by decide, ratE_fits ⟨Nat.pow_pos (by omega), by show 0 < _; exact Nat.pow_pos (by omega)⟩⟩
theorem Nf.op {a b : Raw} {z : Rat} (h : opE a b z = 0) : Nf (opR a b z) := by
  have h1 : opR a b z = .of z := if_pos h
  rw [h1, Nf, Raw.of_rat]; exact ⟨rfl, (or2_zero h).2⟩
theorem Nf.chk {r : Raw} (h : Nf r) : r.chk = 0 := by rw [h.1]; exact Raw.of_chk h.2
theorem Nf.eq {r s : Raw} (h : Nf r) (h' : Nf s) : r = s ↔ r.rat = s.rat := ⟨fun e => by rw [e], fun e => by rw [h.1, h'.1, e]⟩
theorem addL_two {r p : Raw} (h : Nf r) : addL .zero [r, p] = (opR r p (r.rat + p.rat), opE r p (r.rat + p.rat)) := by
  have e1 : Raw.zero.rat + r.rat = r.rat := by rw [zero_rat0, Rat.zero_add]
  have e2 : opE .zero r (Raw.zero.rat + r.rat) = 0 := by rw [e1]; unfold opE; rw [zero_chk, h.chk, h.2]; rfl
  have e3 : opR .zero r (Raw.zero.rat + r.rat) = r := by unfold opR; rw [if_pos e2, e1]; exact h.1.symm
  rw [addL, if_pos e2, e3, addL]
  split
  · rename_i h1; rw [addL, h1]
  · rename_i h1; rw [opR, if_neg h1]
section
variable {r x y : Raw} {xs ys : List Raw} {k : Nat}
theorem dot6_add (hn : Nf r) (hx : xs[k]? = some x) (hy : ys[k]? = some y) (h : opE x y (x.rat * y.rat) = 0) (h2 : opE r (opR x y (x.rat * y.rat)) (r.rat + (opR x y (x.rat * y.rat)).rat) ≠ 0) :
    dotL r (xs.drop k) (ys.drop k) = (.zero, opE r (opR x y (x.rat * y.rat)) (r.rat + (opR x y (x.rat * y.rat)).rat)) := by
  have e := addL_two (p := opR x y (x.rat * y.rat)) hn
  rw [dotL_add hx hy h (by rw [e]; exact h2), e]
theorem dot6_step (hn : Nf r) (hx : xs[k]? = some x) (hy : ys[k]? = some y) (h : opE x y (x.rat * y.rat) = 0) (h2 : opE r (opR x y (x.rat * y.rat)) (r.rat + (opR x y (x.rat * y.rat)).rat) = 0) :
    dotL r (xs.drop k) (ys.drop k) = dotL (opR r (opR x y (x.rat * y.rat)) (r.rat + (opR x y (x.rat * y.rat)).rat)) (xs.drop (k + 1)) (ys.drop (k + 1)) := by
  have e := addL_two (p := opR x y (x.rat * y.rat)) hn
  rw [dotL_step hx hy h (by rw [e]; exact h2), e]
end
theorem int6 (n : Int) : mkRat (sgn (decide (n < 0)) n.natAbs) 1 = (n : Rat) := by rw [sgn_num]; first | exact Rat.mkRat_one _ | simp [Rat.mkRat_one] | (rw [Rat.mkRat_eq_div]; simp)
theorem nat6_c (w : World) (X : Hid) (hX : ∀ k o, X k o → k < w.heap.size) (n : Int) (h1 : -9223372036854775808 ≤ n) (h2 : n ≤ 9223372036854775807) : Calls Tryz.prog 62 #[.int .i64 n] w (Ret E0 w fun w' v => NatX X w' v n.natAbs) := by
 refine zen Tryz.func62 ?_
 have A0 : St E0 w X w X [] := St.start hX
 refine zz 12 ?_
 refine zt 4 (p := (n) < 0) (fun ht2 => ?_) (fun ht2 => ?_)
 ·
  refine zz 5 ?_
  refine zs 6 (v := .int .u64 (IntKind.u64.wrap (n))) (v' := .int .u64 (n + 18446744073709551616)) (vint (by rw [wrap_u64]; omega)) ?_
  refine zz 1 ?_
  refine zs 7 (v := .int .u64 (IntKind.u64.wrap ((0 : Int) - (n + 18446744073709551616)))) (v' := .int .u64 ((n.natAbs : Nat) : Int)) (vint (by rw [wrap_u64]; omega)) ?_
  refine zc A0 (from5_c _ _ A0.lt n.natAbs (by omega)) ?_
  rintro v4 w4 A4 j4 hu4 ⟨ad4, len4, cap4, rfl, hN4⟩
  refine zz 5 ?_
  refine zr' (v := .slice ad4 len4 cap4) ?_
  exact ⟨A4.upd, _, rfl, A4.lastN hN4⟩
 refine zz 7 ?_
 refine zs 10 (v := .int .u64 (IntKind.u64.wrap (n))) (v' := .int .u64 ((n.natAbs : Nat) : Int)) (vint (by rw [wrap_u64]; omega)) ?_
 refine zc A0 (from5_c _ _ A0.lt n.natAbs (by omega)) ?_
 rintro v6 w6 A6 j6 hu6 ⟨ad6, len6, cap6, rfl, hN6⟩
 refine zz 4 ?_
 refine zr' (v := .slice ad6 len6 cap6) ?_
 exact ⟨A6.upd, _, rfl, A6.lastN hN6⟩
theorem rFrom6_c (w : World) (X : Hid) (hX : ∀ k o, X k o → k < w.heap.size) (n : Int) (h1 : -9223372036854775808 ≤ n) (h2 : n ≤ 9223372036854775807) : Calls Tryz.prog 31 #[.int .i64 n] w (Ret E0 w fun w' v => RawX X w' v (.of (n : Rat))) := by
 refine zen Tryz.func31 ?_
 have A0 : St E0 w X w X [] := St.start hX
 refine zz 2 ?_
 refine zn pn (.cells #[.bool false, .slice none 0 0, .slice none 0 0] 25 (0, 0)) A0 ?_
 intro b3 w3 Y3 A3 j3 hu3
 refine zz 7 ?_
 refine zc A3 (nat6_c _ _ A3.lt n (by omega) (by omega)) ?_
 rintro v5 w5 A5 j5 hu5 ⟨ad5, len5, cap5, rfl, ls5, hL5, hcan5, hval5⟩
 obtain rfl := hL5.hlen
 have hsh5 : ls5.length ≤ 100000 := by have := canon_pow hcan5 (k := 3) (by rw [hval5]; exact Nat.lt_of_lt_of_le (show _ < 18446744073709551616 by omega) (by decide)); omega
 refine zc A5 (one6_c _ _ A5.lt) ?_
 rintro v7 w7 A7 j7 hu7 ⟨ad7, cap7, rfl, hL7⟩
 refine zc A7 (mk6_r _ _ A7.lt _ _ _ ls5 (hL5.mono j7) _ _ _ ([1]) hL7 _ (by omega) (by simp) hcan5 canon_one (by decide) (n : Rat) (by rw [hval5]; exact int6 n)) ?_
 rintro v9 w9 A9 j9 hu9 ⟨ad9, len9, cap9, ae9, le9, ce9, rfl, hN9, hD9⟩
 refine zx 0 #[.bool (decide ((n : Rat).num < 0)), .slice ad9 len9 cap9, .slice ae9 le9 ce9] A9 ?_
 intro w10 A10 j10
 refine zz 3 ?_
 refine zrS [.cell 2 25] (v := .agg #[.bool (decide ((n : Rat).num < 0)), .slice ad9 len9 cap9, .slice ae9 le9 ce9]) (Res.cM A10 0 Res.nil) ?_
 exact ⟨A10.upd, _, rfl, RatX.raw ⟨_, _, _, _, _, _, rfl, hN9.mono (Le.trans j10 A10.le), hD9.mono (Le.trans j10 A10.le)⟩⟩
theorem rOf6_c (w : World) (X : Hid) (hX : ∀ k o, X k o → k < w.heap.size) (p q : Int) (h1 : -9223372036854775808 ≤ p) (h2 : p ≤ 9223372036854775807) (h3 : -9223372036854775808 ≤ q) (h4 : q ≤ 9223372036854775807) (hq : q ≠ 0) : Calls Tryz.prog 32 #[.int .i64 p, .int .i64 q] w (Ret E0 w fun w' v => ∃ u, v = .tuple #[u, .int .i64 0] ∧ RawX X w' u (.of (mkRat (sgn (decide (p < 0) != decide (q < 0)) p.natAbs) q.natAbs))) := by
 refine zen Tryz.func32 ?_
 have A0 : St E0 w X w X [] := St.start hX
 refine zz 2 ?_
 refine zn pn (.cells #[.bool false, .slice none 0 0, .slice none 0 0] 25 (0, 0)) A0 ?_
 intro b3 w3 Y3 A3 j3 hu3
 refine zz 10 ?_
 refine zb 7 (b := ((q) == 0)) (fun hc4 => ?_) (fun hc4 => ?_)
 ·
  have ht5 : (q) = 0 := by simpa using hc4
  omega
 have ht6 : (q) ≠ 0 := by simpa using hc4
 refine zz 11 ?_
 refine zc A3 (nat6_c _ _ A3.lt p (by omega) (by omega)) ?_
 rintro v8 w8 A8 j8 hu8 ⟨ad8, len8, cap8, rfl, ls8, hL8, hcan8, hval8⟩
 obtain rfl := hL8.hlen
 have hsh8 : ls8.length ≤ 100000 := by have := canon_pow hcan8 (k := 3) (by rw [hval8]; exact Nat.lt_of_lt_of_le (show _ < 18446744073709551616 by omega) (by decide)); omega
 refine zz 1 ?_
 refine zc A8 (nat6_c _ _ A8.lt q (by omega) (by omega)) ?_
 rintro v10 w10 A10 j10 hu10 ⟨ad10, len10, cap10, rfl, ls10, hL10, hcan10, hval10⟩
 obtain rfl := hL10.hlen
 have hsh10 : ls10.length ≤ 100000 := by have := canon_pow hcan10 (k := 3) (by rw [hval10]; exact Nat.lt_of_lt_of_le (show _ < 18446744073709551616 by omega) (by decide)); omega
 refine zc A10 (mk6_r _ _ A10.lt _ _ _ ls8 (hL8.mono j10) _ _ _ ls10 hL10 _ (by omega) (by omega) hcan8 hcan10 (by rw [hval10]; omega) (mkRat (sgn (decide (p < 0) != decide (q < 0)) p.natAbs) q.natAbs) (by rw [hval8, hval10])) ?_
 rintro v12 w12 A12 j12 hu12 ⟨ad12, len12, cap12, ae12, le12, ce12, rfl, hN12, hD12⟩
 refine zx 0 #[.bool (decide ((mkRat (sgn (decide (p < 0) != decide (q < 0)) p.natAbs) q.natAbs).num < 0)), .slice ad12 len12 cap12, .slice ae12 le12 ce12] A12 ?_
 intro w13 A13 j13
 refine zz 4 ?_
 refine zrS [.cell 4 25, .tmp 5] (v := .tuple #[.agg #[.bool (decide ((mkRat (sgn (decide (p < 0) != decide (q < 0)) p.natAbs) q.natAbs).num < 0)), .slice ad12 len12 cap12, .slice ae12 le12 ce12], .int .i64 0]) (Res.cM A13 0 (Res.tZ Res.nil)) ?_
 exact ⟨A13.upd, _, rfl, _, rfl, RatX.raw ⟨_, _, _, _, _, _, rfl, hN12.mono (Le.trans j13 A13.le), hD12.mono (Le.trans j13 A13.le)⟩⟩
theorem rDot6_c (w : World) (X : Hid) (hX : ∀ k o, X k o → k < w.heap.size) (ad : Option Addr) (len cap : Nat) (xs : List Raw) (h : Rats (rd w X) ad len cap xs) (ad2 : Option Addr) (len2 cap2 : Nat) (ys : List Raw) (h2 : Rats (rd w X) ad2 len2 cap2 ys) (hm : len ≤ 1099511627776) (hm2 : len2 ≤ 1099511627776) : Calls Tryz.prog 67 #[.slice ad len cap, .slice ad2 len2 cap2] w (Ret E0 w fun w' v => ∃ u, v = .tuple #[u, .int .i64 (dotV xs ys).2] ∧ RawX X w' u (dotV xs ys).1) := by
 obtain rfl := h.hlen
 have hcap := h.hcap
 have hbig := h.hbig
 obtain rfl := h2.hlen
 have hcap2 := h2.hcap
 have hbig2 := h2.hbig
 refine zen Tryz.func67 ?_
 have A0 : St E0 w X w X [] := St.start hX
 refine zz 2 ?_
 refine zn pn (.cells #[.bool false, .slice none 0 0, .slice none 0 0] 25 (0, 0)) A0 ?_
 intro b3 w3 Y3 A3 j3 hu3
 refine zz 13 ?_
 refine zb 14 (b := ((xs.length : Int) != (ys.length : Int))) (fun hc4 => ?_) (fun hc4 => ?_)
 ·
  have ht5 : (xs.length : Int) ≠ (ys.length : Int) := by simpa using hc4
  have hend : dotV xs ys = (.zero, 16) := if_neg (by omega)
  refine zz 4 ?_
  refine zx 0 #[.bool false, .slice none 0 0, .slice none 0 0] A3 ?_
  intro w6 A6 j6
  refine zz 5 ?_
  refine zrS [.cell 4 25, .tmp 5] (v := .tuple #[.agg #[.bool false, .slice none 0 0, .slice none 0 0], .int .i64 16]) (Res.cM A6 0 (Res.tZ Res.nil)) ?_
  exact ⟨A6.upd, _, rfl, _, by rw [hend], by rw [hend]; exact raw_zero⟩
 have ht7 : (xs.length : Int) = (ys.length : Int) := by simpa using hc4
 have hxy0 : xs.length = ys.length := by omega
 have hdv : dotV xs ys = dotL .zero xs ys := if_pos hxy0
 refine zz 6 ?_
 refine zn pn (.cells #[.bool false, .slice none 0 0, .slice none 0 0] 25 (0, 0)) A3 ?_
 intro b9 w9 Y9 A9 j9 hu9
 refine zx 0 #[.bool false, .slice none 0 0, .slice none 0 0] A9 ?_
 intro w10 A10 j10
 refine zz 9 ?_
 refine zlp Tryz.f67 [] [1, 1, 1, 0, 1, 0] (fun (k : Nat) => [(0, .slice ad xs.length cap), (1, .slice ad2 ys.length cap2), (4, .pointer (some ⟨b3, 0, none⟩)), (6, .pointer (some ⟨b9, 0, none⟩)), (7, .int .i64 (k : Int))]) (fun (k : Nat) w1 => ∃ (Y1 : Hid) (r : Raw) (ar : Option Addr) (lr : Nat) (cr : Nat) (br : Option Addr) (mr : Nat) (dr : Nat), St E0 w X w1 Y1 [(b9, .cells #[.bool r.neg, .slice ar lr cr, .slice br mr dr] 25 (0, 0)), (b3, .cells #[.bool false, .slice none 0 0, .slice none 0 0] 25 (0, 0))] ∧ Le (rd w10 Y9) (rd w1 Y1) ∧ (Limbs (rd w1 Y1) ar lr cr r.ln) ∧ (Limbs (rd w1 Y1) br mr dr r.ld) ∧ (dotL r (xs.drop k) (ys.drop k) = dotL .zero xs ys) ∧ (Nf r) ∧ (k ≤ xs.length)) (fun (k : Nat) => xs.length - k) 0 ?_ ?_
 ·
  refine ⟨_, .zero, none, 0, 0, none, 0, 0, A10, Le.refl _, Limbs.nil none (by omega), Limbs.nil none (by omega), rfl, Nf.zero, Nat.zero_le _⟩
 rintro k w11 K11 G11 ⟨Y11, r, ar, lr, cr, br, mr, dr, A11, j11, hp11_0, hp11_1, hp11_2, hp11_3, hp11_4⟩
 have hr1 := hp11_0
 have hr2 := hp11_1
 have hgo := hp11_2
 have hnf := hp11_3
 have hkl := hp11_4
 refine zz 9 ?_
 refine zt 20 (p := (k : Int) < (xs.length : Int)) (fun ht12 => ?_) (fun ht12 => ?_)
 ·
  obtain ⟨bx, offx, xx, anx, lnx, cnx, amx, lmx, cmx, rfl, hxx, hAx, hLx, hMx⟩ := h.cell (k := k) (by omega)
  obtain ⟨bz, offz, xz, anz, lnz, cnz, amz, lmz, cmz, rfl, hxz, hAz, hLz, hMz⟩ := h2.cell (k := k) (by omega)
  refine zz 6 ?_
  refine zdr A11 ?_
  refine gz [0, 1] ?_
  refine gi 2 (b := bx) (off := offx) (len := xs.length) (cap := cap) (kd := .i64) (i := (k : Int)) 3 (offx + k * 3) ?_
  have hc1_ := (Le3 j3 j9 j10).trans j11
  refine gl 3 ((hAx.mono hc1_)) ?_
  refine gz [4, 5] ?_
  refine gi 6 (b := bz) (off := offz) (len := ys.length) (cap := cap2) (kd := .i64) (i := (k : Int)) 3 (offz + k * 3) ?_
  have hc2_ := (Le3 j3 j9 j10).trans j11
  refine gl 7 ((hAz.mono hc2_)) ?_
  refine gp (al 12 8 pn (.cells #[.bool false, .slice none 0 0, .slice none 0 0] 25 (0, 0))) ?_
  have hc3_ := (Le3 j3 j9 j10).trans j11
  refine gC 8 (fun w13 Y13 _ A13 j13 => (rMul6_c _ _ A13.lt xx _ _ _ (hLx.mono (hc3_.trans j13)) _ _ _ (hMx.mono (hc3_.trans j13)) xz _ _ _ (hLz.mono (hc3_.trans j13)) _ _ _ (hMz.mono (hc3_.trans j13)))) ?_ (hPd := PdOk.nil.k)
  rintro v14 w13 Y14 w14 A13 j14 ⟨u14, rfl, ⟨ad14, len14, cap14, ae14, le14, ce14, rfl, hN14, hD14⟩⟩
  refine gz [9, 10, 11] ?_
  refine gs1 (fun b15 => ?_) PdOk.nil.k
  refine gX 13 0 #[.bool ((opR xx xz (xx.rat * xz.rat)).neg), .slice ad14 len14 cap14, .slice ae14 le14 ce14] ?_
  intro w16 Y16 j16
  refine gz [14] ?_
  refine gend (fun w17 Y17 A17 j17 => ?_)
  refine zz 8 ?_
  refine zb 36 (b := ((opE xx xz (xx.rat * xz.rat)) != 0)) (fun hc18 => ?_) (fun hc18 => ?_)
  ·
   have ht19 : (opE xx xz (xx.rat * xz.rat)) ≠ 0 := by simpa using hc18
   have hend := hdv.trans (hgo.symm.trans (dotL_mul hxx hxz ht19))
   refine zz 5 ?_
   refine zx 2 #[.bool false, .slice none 0 0, .slice none 0 0] A17 ?_
   intro w20 A20 j20
   refine zz 10 ?_
   refine zrS [.cell 4 25, .tmp 5] (v := .tuple #[.agg #[.bool false, .slice none 0 0, .slice none 0 0], .int .i64 (opE xx xz (xx.rat * xz.rat))]) (Res.cM A20 2 (Res.tZ Res.nil)) ?_
   exact ⟨A20.upd, _, rfl, _, by rw [hend], by rw [hend]; exact raw_zero⟩
  have ht21 : (opE xx xz (xx.rat * xz.rat)) = 0 := by simpa using hc18
  refine zz 5 ?_
  refine zo 1 A17 ?_
  refine zo 0 A17 ?_
  refine zc A17 (rAdd6_c _ _ A17.lt r _ _ _ (hr1.mono (Le3 j14 j16 j17)) _ _ _ (hr2.mono (Le3 j14 j16 j17)) (opR xx xz (xx.rat * xz.rat)) _ _ _ (hN14.mono (Le2 j16 j17)) _ _ _ (hD14.mono (Le2 j16 j17))) ?_
  rintro v23 w23 A23 j23 hu23 ⟨u23, rfl, ⟨ad23, len23, cap23, ae23, le23, ce23, rfl, hN23, hD23⟩⟩
  refine zz 3 ?_
  refine zx 1 #[.bool ((opR r (opR xx xz (xx.rat * xz.rat)) (r.rat + (opR xx xz (xx.rat * xz.rat)).rat)).neg), .slice ad23 len23 cap23, .slice ae23 le23 ce23] A23 ?_
  intro w24 A24 j24
  refine zz 9 ?_
  refine zb 46 (b := ((opE r (opR xx xz (xx.rat * xz.rat)) (r.rat + (opR xx xz (xx.rat * xz.rat)).rat)) != 0)) (fun hc25 => ?_) (fun hc25 => ?_)
  ·
   have ht26 : (opE r (opR xx xz (xx.rat * xz.rat)) (r.rat + (opR xx xz (xx.rat * xz.rat)).rat)) ≠ 0 := by simpa using hc25
   have hend := hdv.trans (hgo.symm.trans (dot6_add hnf hxx hxz (by simpa using ht21) ht26))
   refine zz 5 ?_
   refine zx 2 #[.bool false, .slice none 0 0, .slice none 0 0] A24 ?_
   intro w27 A27 j27
   refine zz 9 ?_
   refine zrS [.cell 4 25, .tmp 5] (v := .tuple #[.agg #[.bool false, .slice none 0 0, .slice none 0 0], .int .i64 (opE r (opR xx xz (xx.rat * xz.rat)) (r.rat + (opR xx xz (xx.rat * xz.rat)).rat))]) (Res.cM A27 2 (Res.tZ Res.nil)) ?_
   exact ⟨A27.upd, _, rfl, _, by rw [hend], by rw [hend]; exact raw_zero⟩
  have ht28 : (opE r (opR xx xz (xx.rat * xz.rat)) (r.rat + (opR xx xz (xx.rat * xz.rat)).rat)) = 0 := by simpa using hc25
  refine zz 7 ?_
  refine zw 22 (x := (k : Int) + 1) ?_
  refine zz 2 ?_
  have hc4_ := (Le5 j11 j14 j16 j17 j23).trans j24
  refine znext (fun a h => G11 (k + 1) _ a h ⟨_, (opR r (opR xx xz (xx.rat * xz.rat)) (r.rat + (opR xx xz (xx.rat * xz.rat)).rat)), ad23, len23, cap23, ae23, le23, ce23, A24.tail, hc4_, (hN23.mono j24), (hD23.mono j24), (dot6_step hnf hxx hxz (by simpa using ht21) (by simpa using ht28)).symm.trans hgo, Nf.op (by simpa using ht28), by omega⟩ ?_)
  first | omega | (simp <;> omega)
 have hend := hdv.trans (hgo.symm.trans (dotL_end (by omega)))
 refine zz 8 ?_
 refine zo 0 A11 ?_
 refine zx 1 #[.bool r.neg, .slice ar lr cr, .slice br mr dr] A11 ?_
 intro w29 A29 j29
 refine zz 4 ?_
 refine zrS [.cell 4 25, .tmp 5] (v := .tuple #[.agg #[.bool r.neg, .slice ar lr cr, .slice br mr dr], .int .i64 0]) (Res.cM A29 1 (Res.tZ Res.nil)) ?_
 exact ⟨A29.upd, _, rfl, _, by rw [hend], by rw [hend]; exact ⟨_, _, _, _, _, _, rfl, (hr1.mono j29).mono A29.le, (hr2.mono j29).mono A29.le⟩⟩
end Go.Proofs.YtoocgllbbihoaaaGreat
namespace Go.Proofs.YtoocgllbbihoaaaGreat
open Go Go.Gv Go.RowKit
set_option maxRecDepth 100000
set_option maxHeartbeats 1000000
theorem At.tl {r : Rd} {b o : Nat} {x : Value} {vs : List Value} (h : At r ⟨b, o, none⟩ (x :: vs)) : At r ⟨b, o + 1, none⟩ vs := fun j v hj => by
  have := h (j + 1) v hj
  rw [add_mk] at *; rwa [show o + 1 + j = o + (j + 1) by omega]
theorem nf_one : Nf (.of 1) := by
  unfold Nf; rw [Raw.of_rat]; exact ⟨rfl, ratE_fits ⟨Nat.one_lt_pow (by omega) (by omega), Nat.pow_pos (by omega)⟩⟩
theorem one6_iff {r : Raw} (h : Nf r) : cmpR r (.of 1) = 0 ↔ r = .of 1 := (cmp_eq h.chk of1_chk).trans (h.eq nf_one).symm
theorem rFrom6_1 (w : World) (X : Hid) (hX : ∀ k o, X k o → k < w.heap.size) : Calls Tryz.prog 31 #[.int .i64 1] w (Ret E0 w fun w' v => RawX X w' v (.of 1)) := rFrom6_c w X hX 1 (by omega) (by omega)
theorem action6_c (w : World) (X : Hid) (hX : ∀ k o, X k o → k < w.heap.size) (a : Actn) (ad : Option Addr) (len cap : Nat) (h : Limbs (rd w X) ad len cap a.cost.ln) (ae : Option Addr) (le ce : Nat) (h2 : Limbs (rd w X) ae le ce a.cost.ld) (nx : Option Addr) (lx cx : Nat) (hx : OutsR (rd w X) nx lx cx a.next) (n : Nat) (hn : n ≤ 1000000) : Calls Tryz.prog 52 #[.agg #[.bool a.cost.neg, .slice ad len cap, .slice ae le ce, .slice nx lx cx], .int .i64 (n : Int)] w (Ret E0 w fun _ v => v = .int .i64 (chkAct n a)) := by
 obtain rfl := hx.hlen
 have hcapx := hx.hcap
 have hbigx := hx.hbig
 refine zen Tryz.func52 ?_
 have A0 : St E0 w X w X [] := St.start hX
 refine zz 2 ?_
 refine zn pn (.cells #[.bool a.cost.neg, .slice ad len cap, .slice ae le ce, .slice nx a.next.length cx] 63 (0, 0)) A0 ?_
 intro b3 w3 Y3 A3 j3 hu3
 refine zz 6 ?_
 refine zo 0 A3 ?_
 refine zc A3 (rcheck6_c _ _ A3.lt a.cost _ _ _ (h.mono j3) _ _ _ (h2.mono j3)) ?_
 rintro v5 w5 A5 j5 hu5 rfl
 refine zz 10 ?_
 refine zb 14 (b := ((a.cost.chk) != 0)) (fun hc6 => ?_) (fun hc6 => ?_)
 ·
  have ht7 : (a.cost.chk) ≠ 0 := by simpa using hc6
  refine zz 9 ?_
  refine zr' (v := .int .i64 a.cost.chk) ?_
  exact ⟨A5.upd, _, rfl, vint (ca_cost ht7).symm⟩
 have ht8 : (a.cost.chk) = 0 := by simpa using hc6
 have hc0 : a.cost.chk = 0 := by simpa using ht8
 refine zz 7 ?_
 refine zo 0 A5 ?_
 refine zz 4 ?_
 refine zb 19 (b := ((a.next.length : Int) == 0)) (fun hc9 => ?_) (fun hc9 => ?_)
 ·
  have ht10 : (a.next.length : Int) = 0 := by simpa using hc9
  refine zz 8 ?_
  refine zr' (v := .int .i64 3) ?_
  exact ⟨A5.upd, _, rfl, vint (ca_none hc0 (by omega)).symm⟩
 have ht11 : (a.next.length : Int) ≠ 0 := by simpa using hc9
 have hl0 : a.next.length ≠ 0 := by omega
 refine zz 7 ?_
 refine zo 0 A5 ?_
 refine zz 4 ?_
 refine zt 23 (p := (a.next.length : Int) > 64) (fun ht12 => ?_) (fun ht12 => ?_)
 ·
  refine zz 8 ?_
  refine zr' (v := .int .i64 4) ?_
  exact ⟨A5.upd, _, rfl, vint (ca_many hc0 (by omega)).symm⟩
 have hl64 : a.next.length ≤ 64 := by omega
 refine zz 10 ?_
 refine zlp Tryz.f52 [] [1, 1, 1, 1, 1, 0, 1, 0] (fun (k : Nat) => [(1, .int .i64 (n : Int)), (2, .pointer (some ⟨b3, 0, none⟩)), (6, .int .i64 (k : Int))]) (fun (k : Nat) w1 => ∃ (Y1 : Hid), St E0 w X w1 Y1 [(b3, .cells #[.bool a.cost.neg, .slice ad len cap, .slice ae le ce, .slice nx a.next.length cx] 63 (0, 0))] ∧ Le (rd w5 Y3) (rd w1 Y1) ∧ (chkOuts n (prevOf a.next k) (a.next.drop k) = chkOuts n none a.next) ∧ (k ≤ a.next.length)) (fun (k : Nat) => a.next.length - k) 0 ?_ ?_
 ·
  refine ⟨_, A5, Le.refl _, rfl, Nat.zero_le _⟩
 rintro k w13 K13 G13 ⟨Y13, A13, j13, hp13_0, hp13_1⟩
 refine zz 5 ?_
 refine zo 0 A13 ?_
 refine zz 4 ?_
 refine zt 28 (p := (k : Int) < (a.next.length : Int)) (fun ht14 => ?_) (fun ht14 => ?_)
 ·
  obtain ⟨b0, off0, rfl⟩ := hx.addr (by omega)
  obtain ⟨ox, anx, lnx, cnx, amx, lmx, cmx, hxx, hAx, hLx, hMx⟩ := hx.at (k := k) (by omega)
  refine zz 8 ?_
  refine zo 0 A13 ?_
  refine zz 1 ?_
  refine zi (b := b0) (off := off0) (len := a.next.length) (cap := cx) (kd := .i64) (i := (k : Int)) 4 (off0 + k * 4) ?_
  refine zl ((hAx.mono (Le3 j3 j5 j13))).cells ?_
  refine zn pn (.cells #[.int .i64 0, .bool false, .slice none 0 0, .slice none 0 0] 60 (0, 0)) A13 ?_
  intro b16 w16 Y16 A16 j16 hu16
  refine zx 0 #[.int .i64 ox.to, .bool ox.p.neg, .slice anx lnx cnx, .slice amx lmx cmx] A16 ?_
  intro w17 A17 j17
  refine zz 6 ?_
  refine zo 0 A17 ?_
  refine zz 2 ?_
  refine zt 39 (p := (ox.to) < 0) (fun ht18 => ?_) (fun ht18 => ?_)
  ·
   refine zz 20 ?_
   refine zr' (v := .int .i64 8) ?_
   exact ⟨A17.upd, _, rfl, vint (ca_outs hc0 hl0 hl64 ((co_8 hxx (.inl ht18) _).symm.trans hp13_0) (by decide)).symm⟩
  refine zz 1 ?_
  refine zo 0 A17 ?_
  refine zz 5 ?_
  refine zt 44 (p := (ox.to) ≥ (n : Int)) (fun ht19 => ?_) (fun ht19 => ?_)
  ·
   refine zz 13 ?_
   refine zr' (v := .int .i64 8) ?_
   exact ⟨A17.upd, _, rfl, vint (ca_outs hc0 hl0 hl64 ((co_8 hxx (.inr (by omega)) _).symm.trans hp13_0) (by decide)).symm⟩
  have hrange : ¬ (ox.to < 0 ∨ (n : Int) ≤ ox.to) := by omega
  refine zz 5 ?_
  rcases Nat.eq_zero_or_pos k with hk0 | hk0
  ·
   refine zdr A17 ?_
   refine gz [0, 1] ?_
   refine gset 46 (v := .bool (decide ((k : Int) > 0))) (v' := .bool false) (zJ (decide_eq_false (by omega))) ?_
   refine gz [2, 3, 4, 5, 6, 7, 8, 9, 10, 11, 12, 13] ?_
   refine gend (fun w20 Y20 A20 j20 => ?_)
   refine zz 7 ?_
   refine zo 0 A20 ?_
   have hc1_ := (Le5 j3 j5 j13 j16 j17).trans j20
   refine zc A20 (rcheck6_c _ _ A20.lt ox.p _ _ _ (hLx.mono hc1_) _ _ _ (hMx.mono hc1_)) ?_
   rintro v22 w22 A22 j22 hu22 rfl
   refine zz 10 ?_
   refine zb 63 (b := ((ox.p.chk) != 0)) (fun hc23 => ?_) (fun hc23 => ?_)
   ·
    have ht24 : (ox.p.chk) ≠ 0 := by simpa using hc23
    have hrest := co_rest hxx hrange (.inl hk0)
    refine zz 14 ?_
    refine zr' (v := .int .i64 ox.p.chk) ?_
    exact ⟨A22.upd, _, rfl, vint (ca_outs hc0 hl0 hl64 ((hrest.trans (if_pos ht24)).symm.trans hp13_0) ht24).symm⟩
   have ht25 : (ox.p.chk) = 0 := by simpa using hc23
   have hrest := co_rest hxx hrange (.inl hk0)
   rw [if_neg (by simpa using ht25)] at hrest
   refine zz 7 ?_
   refine zo 0 A22 ?_
   refine zz 1 ?_
   refine zb 68 (b := ox.p.neg) (fun hc26 => ?_) (fun hc26 => ?_)
   ·
    have ht27 : ox.p.neg = true := by simpa using hc26
    refine zz 20 ?_
    refine zr' (v := .int .i64 1) ?_
    exact ⟨A22.upd, _, rfl, vint (ca_outs hc0 hl0 hl64 ((hrest.trans (if_pos (.inl ht27))).symm.trans hp13_0) (by decide)).symm⟩
   have ht28 : ox.p.neg = false := by simpa using hc26
   refine zz 2 ?_
   refine zo 0 A22 ?_
   refine zz 5 ?_
   refine zb 74 (b := ((lnx : Int) == 0)) (fun hc29 => ?_) (fun hc29 => ?_)
   ·
    have ht30 : (lnx : Int) = 0 := by simpa using hc29
    have hlnx := hLx.hlen
    refine zz 12 ?_
    refine zr' (v := .int .i64 1) ?_
    exact ⟨A22.upd, _, rfl, vint (ca_outs hc0 hl0 hl64 ((hrest.trans (if_pos (.inr (by omega)))).symm.trans hp13_0) (by decide)).symm⟩
   have ht31 : (lnx : Int) ≠ 0 := by simpa using hc29
   have hlnx := hLx.hlen
   have hnext := hrest.trans (if_neg (by rintro (e | e); rw [ht28] at e; cases e; omega))
   refine zz 7 ?_
   refine zw 30 (x := (k : Int) + 1) ?_
   refine zz 2 ?_
   have hc2_ := (Le4 j13 j16 j17 j20).trans j22
   refine znext (fun a h => G13 (k + 1) _ a h ⟨_, A22.tail, hc2_, hnext.symm.trans hp13_0, by omega⟩ ?_)
   first | omega | (simp <;> omega)
  ·
   obtain ⟨oq, anq, lnq, cnq, amq, lmq, cmq, hxq, hAq, hLq, hMq⟩ := hx.at (k := (k - 1)) (by omega)
   have hA1 : At (rd w X) ⟨b0, off0 + (k - 1) * 4, none⟩ [.int .i64 oq.to] := hAq.one (i := 0) rfl
   refine zdr A17 ?_
   refine gz [0, 1] ?_
   refine gset 46 (v := .bool (decide ((k : Int) > 0))) (v' := .bool true) (zJ (decide_eq_true (by omega))) ?_
   refine gz [2, 3] ?_
   refine gw 4 0 ?_
   refine gz [5] ?_
   refine gw 6 1 ?_
   refine gz [7, 8] ?_
   refine gset 53 (v := .int .i64 (IntKind.i64.wrap ((k : Int) - 1))) (v' := .int .i64 ((k - 1 : Nat) : Int)) (vint ((wi64 (by omega) (by omega)).trans (by omega))) ?_
   refine gi 9 (b := b0) (off := off0) (len := a.next.length) (cap := cx) (kd := .i64) (i := ((k - 1 : Nat) : Int)) 4 (off0 + (k - 1) * 4) ?_
   have hc3_ := (Le4 j3 j5 j13 j16).trans j17
   refine gz [10] ?_
   refine gl 11 ((hA1.mono hc3_)) ?_
   refine gz [12, 13] ?_
   refine gend (fun w32 Y32 A32 j32 => ?_)
   refine zz 1 ?_
   refine zt 58 (p := (ox.to) ≤ oq.to) (fun ht33 => ?_) (fun ht33 => ?_)
   ·
    refine zz 13 ?_
    refine zr' (v := .int .i64 16) ?_
    exact ⟨A32.upd, _, rfl, vint (ca_outs hc0 hl0 hl64 ((co_16 hxx hrange (by omega) hxq ht33).symm.trans hp13_0) (by decide)).symm⟩
   have hrest := co_rest hxx hrange (.inr ⟨_, hxq, ht33⟩)
   refine zz 6 ?_
   refine zo 0 A32 ?_
   have hc4_ := (Le5 j3 j5 j13 j16 j17).trans j32
   refine zc A32 (rcheck6_c _ _ A32.lt ox.p _ _ _ (hLx.mono hc4_) _ _ _ (hMx.mono hc4_)) ?_
   rintro v35 w35 A35 j35 hu35 rfl
   refine zz 10 ?_
   refine zb 63 (b := ((ox.p.chk) != 0)) (fun hc36 => ?_) (fun hc36 => ?_)
   ·
    have ht37 : (ox.p.chk) ≠ 0 := by simpa using hc36
    refine zz 14 ?_
    refine zr' (v := .int .i64 ox.p.chk) ?_
    exact ⟨A35.upd, _, rfl, vint (ca_outs hc0 hl0 hl64 ((hrest.trans (if_pos ht37)).symm.trans hp13_0) ht37).symm⟩
   have ht38 : (ox.p.chk) = 0 := by simpa using hc36
   rw [if_neg (by simpa using ht38)] at hrest
   refine zz 7 ?_
   refine zo 0 A35 ?_
   refine zz 1 ?_
   refine zb 68 (b := ox.p.neg) (fun hc39 => ?_) (fun hc39 => ?_)
   ·
    have ht40 : ox.p.neg = true := by simpa using hc39
    refine zz 20 ?_
    refine zr' (v := .int .i64 1) ?_
    exact ⟨A35.upd, _, rfl, vint (ca_outs hc0 hl0 hl64 ((hrest.trans (if_pos (.inl ht40))).symm.trans hp13_0) (by decide)).symm⟩
   have ht41 : ox.p.neg = false := by simpa using hc39
   refine zz 2 ?_
   refine zo 0 A35 ?_
   refine zz 5 ?_
   refine zb 74 (b := ((lnx : Int) == 0)) (fun hc42 => ?_) (fun hc42 => ?_)
   ·
    have ht43 : (lnx : Int) = 0 := by simpa using hc42
    have hlnx := hLx.hlen
    refine zz 12 ?_
    refine zr' (v := .int .i64 1) ?_
    exact ⟨A35.upd, _, rfl, vint (ca_outs hc0 hl0 hl64 ((hrest.trans (if_pos (.inr (by omega)))).symm.trans hp13_0) (by decide)).symm⟩
   have ht44 : (lnx : Int) ≠ 0 := by simpa using hc42
   have hlnx := hLx.hlen
   have hnext := hrest.trans (if_neg (by rintro (e | e); rw [ht41] at e; cases e; omega))
   refine zz 7 ?_
   refine zw 30 (x := (k : Int) + 1) ?_
   refine zz 2 ?_
   have hc5_ := (Le4 j13 j16 j17 j32).trans j35
   refine znext (fun a h => G13 (k + 1) _ a h ⟨_, A35.tail, hc5_, hnext.symm.trans hp13_0, by omega⟩ ?_)
   first | omega | (simp <;> omega)
 have hco : chkOuts n none a.next = 0 := hp13_0.symm.trans (co_end (by omega))
 refine zz 9 ?_
 refine zn pn (.cells #[.bool false, .slice none 0 0, .slice none 0 0] 25 (0, 0)) A13 ?_
 intro b46 w46 Y46 A46 j46 hu46
 refine zx 0 #[.bool false, .slice none 0 0, .slice none 0 0] A46 ?_
 intro w47 A47 j47
 refine zz 9 ?_
 refine zlp Tryz.f52 [K13] [1, 1, 1, 1, 1, 1, 1, 0, 1, 0] (fun (k : Nat) => [(2, .pointer (some ⟨b3, 0, none⟩)), (8, .pointer (some ⟨b46, 0, none⟩)), (9, .int .i64 (k : Int))]) (fun (k : Nat) w1 => ∃ (Y1 : Hid) (r : Raw) (ar : Option Addr) (lr : Nat) (cr : Nat) (br : Option Addr) (mr : Nat) (dr : Nat), St E0 w X w1 Y1 [(b46, .cells #[.bool r.neg, .slice ar lr cr, .slice br mr dr] 25 (0, 0)), (b3, .cells #[.bool a.cost.neg, .slice ad len cap, .slice ae le ce, .slice nx a.next.length cx] 63 (0, 0))] ∧ Le (rd w47 Y46) (rd w1 Y1) ∧ (Limbs (rd w1 Y1) ar lr cr r.ln) ∧ (Limbs (rd w1 Y1) br mr dr r.ld) ∧ (addL r ((a.next.map (·.p)).drop k) = addL .zero (a.next.map (·.p))) ∧ (k ≤ a.next.length) ∧ (Nf r)) (fun (k : Nat) => a.next.length - k) 0 ?_ ?_
 ·
  refine ⟨_, .zero, none, 0, 0, none, 0, 0, A47, Le.refl _, Limbs.nil none (by omega), Limbs.nil none (by omega), rfl, Nat.zero_le _, Nf.zero⟩
 rintro k w48 K48 G48 ⟨Y48, r, ar, lr, cr, br, mr, dr, A48, j48, hp48_0, hp48_1, hp48_2, hp48_3, hp48_4⟩
 have hnf := hp48_4
 refine zz 5 ?_
 refine zo 1 A48 ?_
 refine zz 4 ?_
 refine zt 80 (p := (k : Int) < (a.next.length : Int)) (fun ht49 => ?_) (fun ht49 => ?_)
 ·
  obtain ⟨b0, off0, rfl⟩ := hx.addr (by omega)
  obtain ⟨ox, anx, lnx, cnx, amx, lmx, cmx, hxx, hAx, hLx, hMx⟩ := hx.at (k := k) (by omega)
  have hmx : (a.next.map (·.p))[k]? = some ox.p := by rw [List.getElem?_map, hxx]; rfl
  have hAxt := At.tl hAx
  refine zz 6 ?_
  refine zdr A48 ?_
  refine gw 0 0 ?_
  refine gz [1] ?_
  refine gw 2 1 ?_
  refine gz [3] ?_
  refine gi 4 (b := b0) (off := off0) (len := a.next.length) (cap := cx) (kd := .i64) (i := (k : Int)) 4 (off0 + k * 4) ?_
  have hc6_ := (Le5 j3 j5 j13 j46 j47).trans j48
  refine gz [5] ?_
  refine gl 6 ((hAxt.mono hc6_)) ?_
  have hc7_ := (Le5 j3 j5 j13 j46 j47).trans j48
  refine gC 7 (fun w50 Y50 _ A50 j50 => (rAdd6_c _ _ A50.lt r _ _ _ (hp48_0.mono j50) _ _ _ (hp48_1.mono j50) ox.p _ _ _ (hLx.mono (hc7_.trans j50)) _ _ _ (hMx.mono (hc7_.trans j50)))) ?_
  rintro v51 w50 Y51 w51 A50 j51 ⟨u51, rfl, ⟨ad51, len51, cap51, ae51, le51, ce51, rfl, hN51, hD51⟩⟩
  refine gz [8, 9, 10] ?_
  refine gX 11 0 #[.bool ((opR r ox.p (r.rat + ox.p.rat)).neg), .slice ad51 len51 cap51, .slice ae51 le51 ce51] ?_
  intro w52 Y52 j52
  refine gz [12] ?_
  refine gend (fun w53 Y53 A53 j53 => ?_)
  refine zz 7 ?_
  refine zb 95 (b := ((opE r ox.p (r.rat + ox.p.rat)) != 0)) (fun hc54 => ?_) (fun hc54 => ?_)
  ·
   have ht55 : (opE r ox.p (r.rat + ox.p.rat)) ≠ 0 := by simpa using hc54
   refine zz 13 ?_
   refine zr' (v := .int .i64 (opE r ox.p (r.rat + ox.p.rat))) ?_
   exact ⟨A53.upd, _, rfl, vint (ca_sum hc0 hl0 hl64 hco (congrArg Prod.snd ((addL_stop hmx ht55).symm.trans hp48_2)) ht55).symm⟩
  have ht56 : (opE r ox.p (r.rat + ox.p.rat)) = 0 := by simpa using hc54
  refine zz 7 ?_
  refine zw 82 (x := (k : Int) + 1) ?_
  refine zz 2 ?_
  have hc8_ := (Le3 j48 j51 j52).trans j53
  refine znext (fun a h => G48 (k + 1) _ a h ⟨_, (opR r ox.p (r.rat + ox.p.rat)), ad51, len51, cap51, ae51, le51, ce51, A53, hc8_, (hN51.mono (Le2 j52 j53)), (hD51.mono (Le2 j52 j53)), (addL_step hmx (by simpa using ht56)).symm.trans hp48_2, by omega, Nf.op (by simpa using ht56)⟩ ?_)
  first | omega | (simp <;> omega)
 have hsum := hp48_2.symm.trans (addL_end (by rw [List.length_map]; omega))
 refine zz 8 ?_
 refine zdr A48 ?_
 refine gw 0 0 ?_
 refine gC 1 (fun w57 Y57 _ A57 j57 => (rFrom6_1 _ _ A57.lt)) ?_
 rintro v58 w57 Y58 w58 A57 j58 ⟨ad58, len58, cap58, ae58, le58, ce58, rfl, hN58, hD58⟩
 refine gC 2 (fun w59 Y59 _ A59 j59 => (EqualRat_c _ _ A59.lt r _ _ _ (hp48_0.mono (Le2 j58 j59)) _ _ _ (hp48_1.mono (Le2 j58 j59)) (Raw.of 1) _ _ _ (hN58.mono j59) _ _ _ (hD58.mono j59))) ?_
 rintro v60 w59 Y60 w60 A59 j60 rfl
 refine gz [3] ?_
 refine gend (fun w61 Y61 A61 j61 => ?_)
 refine zz 1 ?_
 refine zb 100 (b := !(decide (r = (Raw.of 1)))) (fun hc62 => ?_) (fun hc62 => ?_)
 ·
  have ht63 : ¬ (r = (Raw.of 1)) := by simpa using hc62
  refine zz 8 ?_
  refine zr' (v := .int .i64 2) ?_
  exact ⟨A61.upd, _, rfl, vint ((ca_one hc0 hl0 hl64 hco hsum).trans (if_pos (fun e => absurd ((one6_iff hnf).1 e) (by simpa using ht63)))).symm⟩
 have ht64 : r = (Raw.of 1) := by simpa using hc62
 refine zz 9 ?_
 refine zr' (v := .int .i64 0) ?_
 exact ⟨A61.upd, _, rfl, vint ((ca_one hc0 hl0 hl64 hco hsum).trans (if_neg (fun e => e ((one6_iff hnf).2 (by simpa using ht64))))).symm⟩
end Go.Proofs.YtoocgllbbihoaaaGreat
namespace Go.Proofs.YtoocgllbbihoaaaGreat
open Go Go.Gv Go.RowKit
set_option maxRecDepth 100000
set_option maxHeartbeats 1000000
theorem order6_r (w : World) (X : Hid) (hX : ∀ k o, X k o → k < w.heap.size) (a : Raw) (ad₁ : Option Addr) (len₁ cap₁ : Nat) (h₁ : Limbs (rd w X) ad₁ len₁ cap₁ a.ln) (ae₁ : Option Addr) (le₁ ce₁ : Nat) (k₁ : Limbs (rd w X) ae₁ le₁ ce₁ a.ld) (b : Raw) (ad₂ : Option Addr) (len₂ cap₂ : Nat) (h₂ : Limbs (rd w X) ad₂ len₂ cap₂ b.ln) (ae₂ : Option Addr) (le₂ ce₂ : Nat) (k₂ : Limbs (rd w X) ae₂ le₂ ce₂ b.ld) (hca : a.chk = 0) (hcb : b.chk = 0) : Calls Tryz.prog 41 #[.agg #[.bool a.neg, .slice ad₁ len₁ cap₁, .slice ae₁ le₁ ce₁], .agg #[.bool b.neg, .slice ad₂ len₂ cap₂, .slice ae₂ le₂ ce₂]] w (Ret E0 w fun _ v => v = .int .i64 (cmpR a b)) := by
  have e : cmpR a b = cmpQ a.rat b.rat := if_pos (cmp_ok hca hcb)
  rw [e]; exact order6_c w X hX a ad₁ len₁ cap₁ h₁ ae₁ le₁ ce₁ k₁ b ad₂ len₂ cap₂ h₂ ae₂ le₂ ce₂ k₂ (vr_of hca) (vr_of hcb)
theorem mCheck6_c (w : World) (X : Hid) (hX : ∀ k o, X k o → k < w.heap.size) (m : Mdp) (ad : Option Addr) (len cap : Nat) (h : Limbs (rd w X) ad len cap m.disc.ln) (ae : Option Addr) (le ce : Nat) (h2 : Limbs (rd w X) ae le ce m.disc.ld) (st : Option Addr) (ls cs : Nat) (hst : StatesR (rd w X) st ls cs m.states) : Calls Tryz.prog 19 #[.agg #[.bool m.disc.neg, .slice ad len cap, .slice ae le ce, .slice st ls cs]] w (Ret E0 w fun _ v => v = .int .i64 m.chk) := by
 obtain rfl := hst.hlen
 have hcaps := hst.hcap
 have hbigs := hst.hbig
 refine zen Tryz.func19 ?_
 have A0 : St E0 w X w X [] := St.start hX
 refine zz 2 ?_
 refine zn pn (.cells #[.bool m.disc.neg, .slice ad len cap, .slice ae le ce, .slice st m.states.length cs] 28 (0, 0)) A0 ?_
 intro b3 w3 Y3 A3 j3 hu3
 refine zz 6 ?_
 refine zo 0 A3 ?_
 refine zc A3 (rcheck6_c _ _ A3.lt m.disc _ _ _ (h.mono j3) _ _ _ (h2.mono j3)) ?_
 rintro v5 w5 A5 j5 hu5 rfl
 refine zz 10 ?_
 refine zb 10 (b := ((m.disc.chk) != 0)) (fun hc6 => ?_) (fun hc6 => ?_)
 ·
  have ht7 : (m.disc.chk) ≠ 0 := by simpa using hc6
  refine zz 9 ?_
  refine zr' (v := .int .i64 m.disc.chk) ?_
  exact ⟨A5.upd, _, rfl, vint (mc_disc ht7).symm⟩
 have ht8 : (m.disc.chk) = 0 := by simpa using hc6
 have hd0 : m.disc.chk = 0 := by simpa using ht8
 refine zz 5 ?_
 refine zdr A5 ?_
 refine gz [0, 1] ?_
 refine gw 2 0 ?_
 refine gz [3] ?_
 refine gb 15 (b := m.disc.neg) (fun hc9 => ?_) (fun hc9 => ?_)
 ·
  have ht10 : m.disc.neg = true := by simpa using hc9
  refine gz [4, 5, 6, 7, 8, 9] ?_
  refine gend (fun w11 Y11 A11 j11 => ?_)
  refine zz 9 ?_
  refine zr' (v := .int .i64 1) ?_
  exact ⟨A11.upd, _, rfl, vint (mc_big hd0 (.inl ht10)).symm⟩
 have ht12 : m.disc.neg = false := by simpa using hc9
 refine gz [4] ?_
 refine gw 5 0 ?_
 refine gC 6 (fun w13 Y13 _ A13 j13 => (rFrom6_1 _ _ A13.lt)) ?_
 rintro v14 w13 Y14 w14 A13 j14 ⟨ad14, len14, cap14, ae14, le14, ce14, rfl, hN14, hD14⟩
 have hc1_ := (Le2 j3 j5).trans j14
 refine gC 7 (fun w15 Y15 _ A15 j15 => (order6_r _ _ A15.lt m.disc _ _ _ (h.mono (hc1_.trans j15)) _ _ _ (h2.mono (hc1_.trans j15)) (Raw.of 1) _ _ _ (hN14.mono j15) _ _ _ (hD14.mono j15) hd0 of1_chk)) ?_
 rintro v16 w15 Y16 w16 A15 j16 rfl
 refine gz [8, 9] ?_
 refine gend (fun w17 Y17 A17 j17 => ?_)
 refine zz 1 ?_
 refine zt 21 (p := (cmpR m.disc (Raw.of 1)) > 0) (fun ht18 => ?_) (fun ht18 => ?_)
 ·
  refine zz 8 ?_
  refine zr' (v := .int .i64 1) ?_
  exact ⟨A17.upd, _, rfl, vint (mc_big hd0 (.inr (by omega))).symm⟩
 have hd1 : ¬ (m.disc.neg = true ∨ 0 < cmpR m.disc (.of 1)) := by rintro (e | e); rw [ht12] at e; cases e; omega
 refine zz 7 ?_
 refine zo 0 A17 ?_
 refine zz 4 ?_
 refine zb 25 (b := ((m.states.length : Int) == 0)) (fun hc19 => ?_) (fun hc19 => ?_)
 ·
  have ht20 : (m.states.length : Int) = 0 := by simpa using hc19
  refine zz 8 ?_
  refine zr' (v := .int .i64 3) ?_
  exact ⟨A17.upd, _, rfl, vint (mc_none hd0 hd1 (by omega)).symm⟩
 have ht21 : (m.states.length : Int) ≠ 0 := by simpa using hc19
 have hs0 : m.states.length ≠ 0 := by omega
 refine zz 7 ?_
 refine zo 0 A17 ?_
 refine zz 4 ?_
 refine zt 29 (p := (m.states.length : Int) > 200) (fun ht22 => ?_) (fun ht22 => ?_)
 ·
  refine zz 8 ?_
  refine zr' (v := .int .i64 4) ?_
  exact ⟨A17.upd, _, rfl, vint (mc_many hd0 hd1 (by omega)).symm⟩
 have hs1 : m.states.length ≤ 200 := by omega
 refine zz 10 ?_
 refine zlp Tryz.f19 [] [1, 1, 1, 1, 1, 1, 0, 1, 0] (fun (k : Nat) => [(1, .pointer (some ⟨b3, 0, none⟩)), (4, .int .i64 (k : Int))]) (fun (k : Nat) w1 => ∃ (Y1 : Hid), St E0 w X w1 Y1 [(b3, .cells #[.bool m.disc.neg, .slice ad len cap, .slice ae le ce, .slice st m.states.length cs] 28 (0, 0))] ∧ Le (rd w17 Y17) (rd w1 Y1) ∧ (chkStates m.states.length (m.states.drop k) = chkStates m.states.length m.states) ∧ (k ≤ m.states.length)) (fun (k : Nat) => m.states.length - k) 0 ?_ ?_
 ·
  refine ⟨_, A17, Le.refl _, rfl, Nat.zero_le _⟩
 rintro k w23 K23 G23 ⟨Y23, A23, j23, hp23_0, hp23_1⟩
 have hkO := hp23_1
 refine zz 5 ?_
 refine zo 0 A23 ?_
 refine zz 4 ?_
 refine zt 34 (p := (k : Int) < (m.states.length : Int)) (fun ht24 => ?_) (fun ht24 => ?_)
 ·
  obtain ⟨b0, off0, rfl⟩ := hst.addr (by omega)
  obtain ⟨sx, ax, lx, cx, hxs, hAs, hacts⟩ := hst.at (k := k) (by omega)
  obtain rfl := hacts.hlen
  have hcapx := hacts.hcap
  have hbigx := hacts.hbig
  have hAs1 : At (rd w X) ⟨b0, off0 + k, none⟩ [.slice ax sx.length cx] := by simpa using hAs
  refine zz 9 ?_
  refine zo 0 A23 ?_
  refine zz 1 ?_
  refine zi (b := b0) (off := off0) (len := m.states.length) (cap := cs) (kd := .i64) (i := (k : Int)) 1 (off0 + k) ?_
  have hc2_ := ((hc1_.trans j16).trans j17).trans j23
  refine zl ((hAs1.mono hc2_)).cells ?_
  refine zz 4 ?_
  refine zb 43 (b := ((sx.length : Int) == 0)) (fun hc25 => ?_) (fun hc25 => ?_)
  ·
   have ht26 : (sx.length : Int) = 0 := by simpa using hc25
   refine zz 13 ?_
   refine zr' (v := .int .i64 3) ?_
   exact ⟨A23.upd, _, rfl, vint (mc_st hd0 hd1 hs0 hs1 ((cs_none hxs (by omega)).symm.trans hp23_0) (by decide)).symm⟩
  have ht27 : (sx.length : Int) ≠ 0 := by simpa using hc25
  have hz : sx.length ≠ 0 := by omega
  refine zz 7 ?_
  refine zo 0 A23 ?_
  refine zz 1 ?_
  refine zi (b := b0) (off := off0) (len := m.states.length) (cap := cs) (kd := .i64) (i := (k : Int)) 1 (off0 + k) ?_
  refine zl ((hAs1.mono hc2_)).cells ?_
  refine zz 4 ?_
  refine zt 50 (p := (sx.length : Int) > 6) (fun ht28 => ?_) (fun ht28 => ?_)
  ·
   refine zz 13 ?_
   refine zr' (v := .int .i64 4) ?_
   exact ⟨A23.upd, _, rfl, vint (mc_st hd0 hd1 hs0 hs1 ((cs_many hxs hz (by omega)).symm.trans hp23_0) (by decide)).symm⟩
  have hz6 : sx.length ≤ 6 := by omega
  refine zz 9 ?_
  refine zlp Tryz.f19 [K23] [1, 1, 1, 1, 1, 1, 0, 1, 0, 0, 1, 0, 0, 1, 1, 1, 0] (fun (j : Nat) => [(1, .pointer (some ⟨b3, 0, none⟩)), (4, .int .i64 (k : Int)), (5, .int .i64 (j : Int))]) (fun (j : Nat) w1 => ∃ (Y1 : Hid), St E0 w X w1 Y1 [(b3, .cells #[.bool m.disc.neg, .slice ad len cap, .slice ae le ce, .slice (some ⟨b0, off0, none⟩) m.states.length cs] 28 (0, 0))] ∧ Le (rd w23 Y23) (rd w1 Y1) ∧ (chkActs m.states.length (sx.drop j) = chkActs m.states.length sx) ∧ (j ≤ sx.length)) (fun (j : Nat) => sx.length - j) 0 ?_ ?_
  ·
   refine ⟨_, A23, Le.refl _, rfl, Nat.zero_le _⟩
  rintro j w29 K29 G29 ⟨Y29, A29, j29, hp29_0, hp29_1⟩
  refine zz 5 ?_
  refine zo 0 A29 ?_
  refine zz 1 ?_
  refine zi (b := b0) (off := off0) (len := m.states.length) (cap := cs) (kd := .i64) (i := (k : Int)) 1 (off0 + k) ?_
  have hc3_ := hc2_.trans j29
  refine zl ((hAs1.mono hc3_)).cells ?_
  refine zz 4 ?_
  refine zt 58 (p := (j : Int) < (sx.length : Int)) (fun ht30 => ?_) (fun ht30 => ?_)
  ·
   obtain ⟨b1, off1, rfl⟩ := hacts.addr (by omega)
   obtain ⟨xa, a1, a2, a3, a4, a5, a6, a7, a8, a9, hxa, hAa, hLa, hMa, hOa⟩ := hacts.at (k := j) (by omega)
   refine zz 6 ?_
   refine zdr A29 ?_
   refine gz [0] ?_
   refine gw 1 0 ?_
   refine gz [2] ?_
   refine gi 3 (b := b0) (off := off0) (len := m.states.length) (cap := cs) (kd := .i64) (i := (k : Int)) 1 (off0 + k) ?_
   refine gl 4 ((hAs1.mono hc3_)) ?_
   refine gz [5] ?_
   refine gi 6 (b := b1) (off := off1) (len := sx.length) (cap := cx) (kd := .i64) (i := (j : Int)) 4 (off1 + j * 4) ?_
   refine gl 7 ((hAa.mono hc3_)) ?_
   refine gz [8] ?_
   refine gw 9 0 ?_
   refine gz [10] ?_
   refine gC 11 (fun w31 Y31 _ A31 j31 => (action6_c _ _ A31.lt xa _ _ _ (hLa.mono (hc3_.trans j31)) _ _ _ (hMa.mono (hc3_.trans j31)) _ _ _ (hOa.mono (hc3_.trans j31)) m.states.length (by omega))) ?_
   rintro v32 w31 Y32 w32 A31 j32 rfl
   refine gz [12] ?_
   refine gend (fun w33 Y33 A33 j33 => ?_)
   refine zz 7 ?_
   refine zb 74 (b := ((chkAct m.states.length xa) != 0)) (fun hc34 => ?_) (fun hc34 => ?_)
   ·
    have ht35 : (chkAct m.states.length xa) ≠ 0 := by simpa using hc34
    refine zz 17 ?_
    refine zr' (v := .int .i64 (chkAct m.states.length xa)) ?_
    exact ⟨A33.upd, _, rfl, vint (mc_st hd0 hd1 hs0 hs1 ((cs_acts hxs hz hz6 ((cac_stop hxa ht35).symm.trans hp29_0).symm ht35).symm.trans hp23_0) ht35).symm⟩
   have ht36 : (chkAct m.states.length xa) = 0 := by simpa using hc34
   refine zz 7 ?_
   refine zw 60 (x := (j : Int) + 1) ?_
   refine zz 2 ?_
   refine znext (fun a h => G29 (j + 1) _ a h ⟨_, A33, (Le3 j29 j32 j33), (cac_next hxa (by simpa using ht36)).symm.trans hp29_0, by omega⟩ ?_)
   first | omega | (simp <;> omega)
  have hnext := cs_next hxs hz hz6 (hp29_0.symm.trans (cac_end (by omega)))
  refine zz 10 ?_
  refine zw 36 (x := (k : Int) + 1) ?_
  refine zz 2 ?_
  refine znext (fun a h => G23 (k + 1) _ a h ⟨_, A29, (Le2 j23 j29), hnext.symm.trans hp23_0, by omega⟩ ?_)
  first | omega | (simp <;> omega)
 refine zz 12 ?_
 refine zr' (v := .int .i64 0) ?_
 exact ⟨A23.upd, _, rfl, vint (mc_all hd0 hd1 hs0 hs1 (hp23_0.symm.trans (cs_end (by omega)))).symm⟩
theorem wrong21_c (w : World) (X : Hid) (hX : ∀ k o, X k o → k < w.heap.size) (m : Mdp) (ad : Option Addr) (len cap : Nat) (h : Limbs (rd w X) ad len cap m.disc.ln) (ae : Option Addr) (le ce : Nat) (h2 : Limbs (rd w X) ae le ce m.disc.ld) (st : Option Addr) (ls cs : Nat) (hst : StatesR (rd w X) st ls cs m.states) (av : Option Addr) (lv cv : Nat) (v : List Raw) (hlv : lv = v.length) (hbv : lv ≤ 4611686018427387904) : Calls Tryz.prog 38 #[.agg #[.bool m.disc.neg, .slice ad len cap, .slice ae le ce, .slice st ls cs], .slice av lv cv] w (Ret E0 w fun _ u => u = .int .i64 (m.chkV v)) := by
 subst hlv
 obtain rfl := hst.hlen
 have hcaps := hst.hcap
 have hbigs := hst.hbig
 refine zen Tryz.func38 ?_
 have A0 : St E0 w X w X [] := St.start hX
 refine zz 2 ?_
 refine zn pn (.cells #[.bool m.disc.neg, .slice ad len cap, .slice ae le ce, .slice st m.states.length cs] 28 (0, 0)) A0 ?_
 intro b3 w3 Y3 A3 j3 hu3
 refine zz 5 ?_
 refine zo 0 A3 ?_
 refine zc A3 (mCheck6_c _ _ A3.lt m _ _ _ (h.mono j3) _ _ _ (h2.mono j3) _ _ _ (hst.mono j3)) ?_
 rintro v5 w5 A5 j5 hu5 rfl
 refine zz 9 ?_
 refine zb 10 (b := ((m.chk) == 0)) (fun hc6 => ?_) (fun hc6 => ?_)
 ·
  have ht7 : (m.chk) = 0 := by simpa using hc6
  have hm0 : ¬ m.chk ≠ 0 := by simpa using ht7
  refine zz 3 ?_
  refine zo 0 A5 ?_
  refine zz 5 ?_
  refine zb 17 (b := ((v.length : Int) != (m.states.length : Int))) (fun hc8 => ?_) (fun hc8 => ?_)
  ·
   have ht9 : (v.length : Int) ≠ (m.states.length : Int) := by simpa using hc8
   refine zz 12 ?_
   refine zr' (v := .int .i64 16) ?_
   exact ⟨A5.upd, _, rfl, vint (show _ = Mdp.chkV m v from ((if_neg hm0).trans (if_pos (by omega))).symm)⟩
  have ht10 : (v.length : Int) = (m.states.length : Int) := by simpa using hc8
  refine zz 10 ?_
  refine zr' (v := .int .i64 m.chk) ?_
  exact ⟨A5.upd, _, rfl, vint (show _ = Mdp.chkV m v from (Classical.not_not.1 hm0).trans ((if_neg hm0).trans (if_neg (by omega))).symm)⟩
 have ht11 : (m.chk) ≠ 0 := by simpa using hc6
 refine zz 19 ?_
 refine zr' (v := .int .i64 m.chk) ?_
 exact ⟨A5.upd, _, rfl, vint (show _ = Mdp.chkV m v from (if_pos ht11).symm)⟩
end Go.Proofs.YtoocgllbbihoaaaGreat
namespace Go.Proofs.YtoocgllbbihoaaaGreat
open Go Go.Gv Go.RowKit
set_option maxRecDepth 100000
set_option maxHeartbeats 1000000
section
variable {d : Raw} {v : List Raw} {a : Actn} {D : Raw × Int}
theorem rDot6_g (w : World) (X : Hid) (hX : ∀ k o, X k o → k < w.heap.size) (ad : Option Addr) (len cap : Nat) (xs : List Raw) (h : Rats (rd w X) ad len cap xs) (ad2 : Option Addr) (len2 cap2 : Nat) (ys : List Raw) (h2 : Rats (rd w X) ad2 len2 cap2 ys) (hm : len ≤ 1099511627776) (hm2 : len2 ≤ 1099511627776) : Calls Tryz.prog 67 #[.slice ad len cap, .slice ad2 len2 cap2] w (Ret E0 w fun w' v => ∃ D : Raw × Int, D = dotV xs ys ∧ ∃ u, v = .tuple #[u, .int .i64 D.2] ∧ RawX X w' u D.1) :=
  (rDot6_c w X hX ad len cap xs h ad2 len2 cap2 ys h2 hm hm2).mono (by rintro e w' ⟨hu, v, rfl, h⟩; exact ⟨hu, _, rfl, _, rfl, h⟩)
end
theorem score21_c (w : World) (X : Hid) (hX : ∀ k o, X k o → k < w.heap.size) (m : Mdp) (ad : Option Addr) (len cap : Nat) (h : Limbs (rd w X) ad len cap m.disc.ln) (ae : Option Addr) (le ce : Nat) (h2 : Limbs (rd w X) ae le ce m.disc.ld) (st : Option Addr) (ls cs : Nat) (hst : StatesR (rd w X) st ls cs m.states) (v : List Raw) (av : Option Addr) (lv cv : Nat) (hv : Rats (rd w X) av lv cv v) (hlv : lv ≤ 1099511627776) (hm0 : ¬ m.chkV v ≠ 0) (i j : Int) (hi0 : 0 ≤ i) (hi1 : i < m.states.length) (hj0 : 0 ≤ j) (hj1 : j < (m.states.getD i.toNat []).length) : Calls Tryz.prog 39 #[.agg #[.bool m.disc.neg, .slice ad len cap, .slice ae le ce, .slice st ls cs], .slice av lv cv, .int .i64 i, .int .i64 j] w (Ret E0 w fun w' u => ∃ x, u = .tuple #[x, .int .i64 (scoreV m.disc v (actAt (m.states.getD i.toNat []) j)).2] ∧ RawX X w' x (scoreV m.disc v (actAt (m.states.getD i.toNat []) j)).1) := by
 obtain rfl := hv.hlen
 have hcapv := hv.hcap
 have hbigv := hv.hbig
 obtain rfl := hst.hlen
 have hcaps := hst.hcap
 have hbigs := hst.hbig
 refine zen Tryz.func39 ?_
 have A0 : St E0 w X w X [] := St.start hX
 have hpos := chkV_pos hm0
 obtain ⟨b0, off0, rfl⟩ := hst.addr (by omega)
 obtain ⟨sx, ax, lx, cx, hxs, hAs, hacts⟩ := hst.at (k := i.toNat) (by omega)
 obtain rfl := hacts.hlen
 have hcapx := hacts.hcap
 have hbigx := hacts.hbig
 have hAs1 : At (rd w X) ⟨b0, off0 + i.toNat, none⟩ [.slice ax sx.length cx] := by simpa using hAs
 rw [getD_get hxs] at hj1 ⊢
 obtain ⟨b9a, off9a, rfl⟩ := hacts.addr (by omega)
 obtain ⟨xa, a1a, a2a, a3a, a4a, a5a, a6a, a7a, a8a, a9a, hxa, hAa, hLa, hMa, hx⟩ := hacts.at (k := j.toNat) (by omega)
 obtain rfl := hx.hlen
 have hcapo := hx.hcap
 have hbigo := hx.hbig
 rw [show actAt sx j = xa from getD_get hxa]
 obtain ⟨hn, hto⟩ := score_range hm0 (List.mem_of_getElem? hxs) (List.mem_of_getElem? hxa)
 refine zz 2 ?_
 refine zn pn (.cells #[.bool m.disc.neg, .slice ad len cap, .slice ae le ce, .slice (some ⟨b0, off0, none⟩) m.states.length cs] 28 (0, 0)) A0 ?_
 intro b3 w3 Y3 A3 j3 hu3
 refine zn pn (.cells #[.bool false, .slice none 0 0, .slice none 0 0] 25 (0, 0)) A3 ?_
 intro b5 w5 Y5 A5 j5 hu5
 refine zz 6 ?_
 refine zo 1 A5 ?_
 refine zz 1 ?_
 refine zi (b := b0) (off := off0) (len := m.states.length) (cap := cs) (kd := .i64) (i := i) 1 (off0 + i.toNat) ?_
 refine zl ((hAs1.mono (Le2 j3 j5))).cells ?_
 refine zz 1 ?_
 refine zi (b := b9a) (off := off9a) (len := sx.length) (cap := cx) (kd := .i64) (i := j) 4 (off9a + j.toNat * 4) ?_
 refine zl ((hAa.mono (Le2 j3 j5))).cells ?_
 refine zn pn (.cells #[.bool false, .slice none 0 0, .slice none 0 0, .slice none 0 0] 63 (0, 0)) A5 ?_
 intro b7 w7 Y7 A7 j7 hu7
 refine zx 0 #[.bool xa.cost.neg, .slice a1a a2a a3a, .slice a4a a5a a6a, .slice a7a xa.next.length a9a] A7 ?_
 intro w8 A8 j8
 refine zz 15 ?_
 refine zlp Tryz.f39 [] [1, 1, 1, 0, 1, 0] (fun ((k, ad8, cap8, ad9, cap9) : Nat × (Option Addr) × Nat × (Option Addr) × Nat) => [(1, .slice av v.length cv), (4, .pointer (some ⟨b3, 0, none⟩)), (8, .pointer (some ⟨b5, 0, none⟩)), (10, .pointer (some ⟨b7, 0, none⟩)), (11, .slice ad8 k cap8), (12, .slice ad9 k cap9), (13, .int .i64 (k : Int))]) (fun ((k, ad8, cap8, ad9, cap9) : Nat × (Option Addr) × Nat × (Option Addr) × Nat) w1 => ∃ (Y1 : Hid) (rb1 : List (Nat × Obj)) (es1 : List RE) (rb2 : List (Nat × Obj)) (es2 : List RE), St E0 w X w1 Y1 ((b7, .cells #[.bool xa.cost.neg, .slice a1a a2a a3a, .slice a4a a5a a6a, .slice a7a xa.next.length a9a] 63 (0, 0)) :: (b5, .cells #[.bool false, .slice none 0 0, .slice none 0 0] 25 (0, 0)) :: (b3, .cells #[.bool m.disc.neg, .slice ad len cap, .slice ae le ce, .slice (some ⟨b0, off0, none⟩) m.states.length cs] 28 (0, 0)) :: (rb1 ++ rb2)) ∧ Le (rd w8 Y7) (rd w1 Y1) ∧ (TRow 25 3 rb1 ad8 k cap8 (flat es1)) ∧ (es1.map (·.x) = (xa.next.map (·.p)).take k) ∧ (∀ e ∈ es1, e.ok (rd w1 Y1)) ∧ (TRow 25 3 rb2 ad9 k cap9 (flat es2)) ∧ (es2.map (·.x) = (xa.next.map (pick v)).take k) ∧ (∀ e ∈ es2, e.ok (rd w1 Y1)) ∧ (k ≤ xa.next.length)) (fun ((k, ad8, cap8, ad9, cap9) : Nat × (Option Addr) × Nat × (Option Addr) × Nat) => xa.next.length - k) (0, none, 0, none, 0) ?_ ?_
 ·
  refine ⟨_, [], [], [], [], A8, Le.refl _, TRow.nil _ _, rfl, fun _ h => absurd h (by simp), TRow.nil _ _, rfl, fun _ h => absurd h (by simp), Nat.zero_le _⟩
 rintro ⟨k, ad8, cap8, ad9, cap9⟩ w9 K9 G9 ⟨Y9, rb1, es1, rb2, es2, A9, j9, hp9_0, hp9_1, hp9_2, hp9_3, hp9_4, hp9_5, hp9_6⟩
 have hr1 := hp9_0
 have hq1 := hp9_1
 have hk1 := hp9_2
 have hr2 := hp9_3
 have hq2 := hp9_4
 have hk2 := hp9_5
 have hkl := hp9_6
 refine zz 5 ?_
 refine zo 0 A9 ?_
 refine zz 4 ?_
 refine zt 28 (p := (k : Int) < (xa.next.length : Int)) (fun ht10 => ?_) (fun ht10 => ?_)
 ·
  obtain ⟨bo, offo, rfl⟩ := hx.addr (by omega)
  obtain ⟨ox, anx, lnx, cnx, amx, lmx, cmx, hxx, hAx, hLx, hMx⟩ := hx.at (k := k) (by omega)
  have hAxt := At.tl hAx
  have hAx0 := hAx.one (i := 0) rfl
  have hto0 := hto ox (List.mem_of_getElem? hxx)
  obtain ⟨bz, offz, xz, anz, lnz, cnz, amz, lmz, cmz, rfl, hxz, hAz, hLz, hMz⟩ := hv.cell (k := ox.to.toNat) (by omega)
  have hmx : (xa.next.map (·.p))[k]? = some ox.p := by rw [List.getElem?_map, hxx]; rfl
  have hmv : (xa.next.map (pick v))[k]? = some xz := by rw [List.getElem?_map, hxx]; show some (v.getD _ _) = _; rw [List.getD_eq_getElem?_getD, hxz]; rfl
  refine zz 5 ?_
  refine zdraw [0, 1, 2] A9 ?_
  refine gz [0, 1] ?_
  refine gw 2 0 ?_
  refine gz [3] ?_
  refine gi 4 (b := bo) (off := offo) (len := xa.next.length) (cap := a9a) (kd := .i64) (i := (k : Int)) 4 (offo + k * 4) ?_
  have hc1_ := (Le4 j3 j5 j7 j8).trans j9
  refine gz [5] ?_
  refine gl 6 ((hAxt.mono hc1_)) ?_
  refine gz [9, 10, 11] ?_
  refine gw 12 0 ?_
  refine gz [13] ?_
  refine gi 14 (b := bo) (off := offo) (len := xa.next.length) (cap := a9a) (kd := .i64) (i := (k : Int)) 4 (offo + k * 4) ?_
  have hc2_ := (Le4 j3 j5 j7 j8).trans j9
  refine gz [15] ?_
  refine gl 16 ((hAx0.mono hc2_)) ?_
  refine gi 17 (b := bz) (off := offz) (len := v.length) (cap := cv) (kd := .i64) (i := ox.to) 3 (offz + ox.to.toNat * 3) ?_
  have hc3_ := (Le4 j3 j5 j7 j8).trans j9
  refine gl 18 ((hAz.mono hc3_)) ?_
  refine gp (al 19 50 (fun b => .slice (some ⟨b, 0, none⟩) 1 1) (.cells #[.bool xz.neg, .slice anz lnz cnz, .slice amz lmz cmz] 25 (0, 0))) ?_
  refine gp (al 7 38 (fun b => .slice (some ⟨b, 0, none⟩) 1 1) (.cells #[.bool ox.p.neg, .slice anx lnx cnx, .slice amx lmx cmx] 25 (0, 0))) ?_
  refine gs1 (fun b11 => ?_) PdOk.nil.k.k
  refine g_op 8 (fun a12 w12 Y12 B12 C12 A12 j12 => ?_) PdOk.nil.k
  refine op_appBZ (b := 56) (m := 1) (c := 1) (ad := ⟨b11, 0, none⟩) (news := [.bool ox.p.neg, .slice anx lnx cnx, .slice amx lmx cmx]) (i0 := Tryz.t25) (R1 := []) (B := rb2) 4 C12 A12 rfl hr1 (A12.cells 0 rfl rfl) (by omega) (by omega) ?_
  intro rb13 ad13 cap13 w13 Y13 hrow13 A13 j13 a14 C14
  have hrw13 : TRow 25 3 rb13 ad13 (k + 1) cap13 (flat (es1 ++ [(RE.mk ox.p anx lnx cnx amx lmx cmx)])) := by rw [flat_snoc]; exact hrow13
  refine ⟨_, _, _, _, C14, A13, Le.refl _, .inr ⟨fun _ => selm [1, 2, 3], (Le2 j12 j13)⟩, ?_⟩
  refine gs1 (fun b15 => ?_) PdOk.nil.k
  refine gO 20 (fun a16 w16 Y16 C16 A16 j16 => ?_)
  refine op_appEZ (b := 56) (m := 1) (c := 1) (ad := ⟨b15, 0, none⟩) (news := [.bool xz.neg, .slice anz lnz cnz, .slice amz lmz cmz]) (i0 := Tryz.t25) (R1 := rb13) 5 C16 A16 rfl hr2 (A16.cells 0 rfl rfl) (by omega) (by omega) ?_
  intro rb17 ad17 cap17 w17 Y17 hrow17 A17 j17 a18 C18
  have hrw17 : TRow 25 3 rb17 ad17 (k + 1) cap17 (flat (es2 ++ [(RE.mk xz anz lnz cnz amz lmz cmz)])) := by rw [flat_snoc]; exact hrow17
  refine ⟨_, _, _, _, C18, A17, Le.refl _, .inr ⟨fun _ => selm [2, 3, 4], (Le2 j16 j17)⟩, ?_⟩
  refine gz [21, 22] ?_
  refine gend (fun w19 Y19 A19 j19 => ?_)
  refine zz 5 ?_
  refine zw 30 (x := (k : Int) + 1) ?_
  refine zz 2 ?_
  have hc4_ := (Le4 j12 j13 j16 j17).trans j19
  have hc5_ := (Le9 j3 j5 j7 j8 j9 j12 j13 j16 j17).trans j19
  have hc6_ := (Le5 j9 j12 j13 j16 j17).trans j19
  refine znext (fun a h => G9 ((k + 1, ad13, cap13, ad17, cap17)) _ a h ⟨_, rb13, (es1 ++ [(RE.mk ox.p anx lnx cnx amx lmx cmx)]), rb17, (es2 ++ [(RE.mk xz anz lnz cnz amz lmz cmz)]), A19.tail.tail, hc6_, hrw13, by rw [List.map_append, hq1, take_snoc hmx]; rfl, fun e he => by rcases List.mem_append.1 he with h1 | h1; exact (hk1 e h1).mono hc4_; obtain rfl := List.mem_singleton.1 h1; exact ⟨(hLx.mono hc5_), (hMx.mono hc5_)⟩, hrw17, by rw [List.map_append, hq2, take_snoc hmv]; rfl, fun e he => by rcases List.mem_append.1 he with h1 | h1; exact (hk2 e h1).mono hc4_; obtain rfl := List.mem_singleton.1 h1; exact ⟨(hLz.mono hc5_), (hMz.mono hc5_)⟩, by omega⟩ ?_)
  first | omega | (simp <;> omega)
 refine zz 10 ?_
 have hke : k = xa.next.length := by omega
 have e1 : es1.map (·.x) = xa.next.map (·.p) := hq1.trans (List.take_of_length_le (by rw [List.length_map]; omega))
 have e2 : es2.map (·.x) = xa.next.map (pick v) := hq2.trans (List.take_of_length_le (by rw [List.length_map]; omega))
 obtain ⟨Y21, hSx21, j21, hRx21⟩ := St.pubRats (A := [(b7, .cells #[.bool xa.cost.neg, .slice a1a a2a a3a, .slice a4a a5a a6a, .slice a7a xa.next.length a9a] 63 (0, 0)), (b5, .cells #[.bool false, .slice none 0 0, .slice none 0 0] 25 (0, 0)), (b3, .cells #[.bool m.disc.neg, .slice ad len cap, .slice ae le ce, .slice (some ⟨b0, off0, none⟩) m.states.length cs] 28 (0, 0))]) (B := rb2) (fun rb => ((b7, .cells #[.bool xa.cost.neg, .slice a1a a2a a3a, .slice a4a a5a a6a, .slice a7a xa.next.length a9a] 63 (0, 0)) :: (b5, .cells #[.bool false, .slice none 0 0, .slice none 0 0] 25 (0, 0)) :: (b3, .cells #[.bool m.disc.neg, .slice ad len cap, .slice ae le ce, .slice (some ⟨b0, off0, none⟩) m.states.length cs] 28 (0, 0)) :: (rb ++ rb2))) A9 (fun _ => by simp only [List.append_assoc, List.cons_append, List.nil_append, List.append_nil]) hr1 (row_len hq1 (by rw [List.length_map]; omega)) (fun e he => (hk1 e he).mono (Le.refl _))
 have A21 : St E0 w X w9 Y21 ((b7, .cells #[.bool xa.cost.neg, .slice a1a a2a a3a, .slice a4a a5a a6a, .slice a7a xa.next.length a9a] 63 (0, 0)) :: (b5, .cells #[.bool false, .slice none 0 0, .slice none 0 0] 25 (0, 0)) :: (b3, .cells #[.bool m.disc.neg, .slice ad len cap, .slice ae le ce, .slice (some ⟨b0, off0, none⟩) m.states.length cs] 28 (0, 0)) :: rb2) := hSx21
 have hR21 : Rats (rd w9 Y21) ad8 k cap8 (xa.next.map (·.p)) := by have h9 := hRx21; rwa [e1] at h9
 obtain ⟨Y22, hSx22, j22, hRx22⟩ := St.pubRats (A := [(b7, .cells #[.bool xa.cost.neg, .slice a1a a2a a3a, .slice a4a a5a a6a, .slice a7a xa.next.length a9a] 63 (0, 0)), (b5, .cells #[.bool false, .slice none 0 0, .slice none 0 0] 25 (0, 0)), (b3, .cells #[.bool m.disc.neg, .slice ad len cap, .slice ae le ce, .slice (some ⟨b0, off0, none⟩) m.states.length cs] 28 (0, 0))]) (B := []) (fun rb => ((b7, .cells #[.bool xa.cost.neg, .slice a1a a2a a3a, .slice a4a a5a a6a, .slice a7a xa.next.length a9a] 63 (0, 0)) :: (b5, .cells #[.bool false, .slice none 0 0, .slice none 0 0] 25 (0, 0)) :: (b3, .cells #[.bool m.disc.neg, .slice ad len cap, .slice ae le ce, .slice (some ⟨b0, off0, none⟩) m.states.length cs] 28 (0, 0)) :: rb)) A21 (fun _ => by simp only [List.append_assoc, List.cons_append, List.nil_append, List.append_nil]) hr2 (row_len hq2 (by rw [List.length_map]; omega)) (fun e he => (hk2 e he).mono j21)
 have A22 : St E0 w X w9 Y22 [(b7, .cells #[.bool xa.cost.neg, .slice a1a a2a a3a, .slice a4a a5a a6a, .slice a7a xa.next.length a9a] 63 (0, 0)), (b5, .cells #[.bool false, .slice none 0 0, .slice none 0 0] 25 (0, 0)), (b3, .cells #[.bool m.disc.neg, .slice ad len cap, .slice ae le ce, .slice (some ⟨b0, off0, none⟩) m.states.length cs] 28 (0, 0))] := hSx22
 have hR22 : Rats (rd w9 Y22) ad9 k cap9 (xa.next.map (pick v)) := by have h9 := hRx22; rwa [e2] at h9
 refine zc A22 (rDot6_g _ _ A22.lt _ _ _ _ (hR21.mono j22) _ _ _ _ hR22 (by omega) (by omega)) ?_
 rintro v23 w23 A23 j23 hu23 ⟨D, hDv, u23, rfl, ⟨ad23, len23, cap23, ae23, le23, ce23, rfl, hN23, hD23⟩⟩
 refine zz 3 ?_
 refine zn pn (.cells #[.bool false, .slice none 0 0, .slice none 0 0] 25 (0, 0)) A23 ?_
 intro b25 w25 Y25 A25 j25 hu25
 refine zx 0 #[.bool D.1.neg, .slice ad23 len23 cap23, .slice ae23 le23 ce23] A25 ?_
 intro w26 A26 j26
 refine zz 10 ?_
 refine zb 59 (b := ((D.2) == 0)) (fun hc27 => ?_) (fun hc27 => ?_)
 ·
  have ht28 : (D.2) = 0 := by simpa using hc27
  refine zz 3 ?_
  refine zo 3 A26 ?_
  refine zo 0 A26 ?_
  have hc7_ := (Le9 j3 j5 j7 j8 j9 j21 j22 j23 j25).trans j26
  refine zc A26 (rMul6_c _ _ A26.lt m.disc _ _ _ (h.mono hc7_) _ _ _ (h2.mono hc7_) D.1 _ _ _ (hN23.mono (Le2 j25 j26)) _ _ _ (hD23.mono (Le2 j25 j26))) ?_
  rintro v30 w30 A30 j30 hu30 ⟨u30, rfl, ⟨ad30, len30, cap30, ae30, le30, ce30, rfl, hN30, hD30⟩⟩
  refine zz 3 ?_
  refine zx 0 #[.bool ((opR m.disc D.1 (m.disc.rat * D.1.rat)).neg), .slice ad30 len30 cap30, .slice ae30 le30 ce30] A30 ?_
  intro w31 A31 j31
  refine zz 10 ?_
  refine zb 68 (b := ((opE m.disc D.1 (m.disc.rat * D.1.rat)) != 0)) (fun hc32 => ?_) (fun hc32 => ?_)
  ·
   have ht33 : (opE m.disc D.1 (m.disc.rat * D.1.rat)) ≠ 0 := by simpa using hc32
   refine zz 5 ?_
   refine zx 2 #[.bool false, .slice none 0 0, .slice none 0 0] A31 ?_
   intro w34 A34 j34
   refine zz 5 ?_
   refine zrS [.cell 8 25, .tmp 9] (v := .tuple #[.agg #[.bool false, .slice none 0 0, .slice none 0 0], .int .i64 (opE m.disc D.1 (m.disc.rat * D.1.rat))]) (Res.cM A34 2 (Res.tZ Res.nil)) ?_
   have hend := (sc_mul hDv ht28 ht33 : scoreV m.disc v xa = _)
   exact ⟨A34.upd, _, rfl, _, by rw [hend], by rw [hend]; exact raw_zero⟩
  have ht35 : (opE m.disc D.1 (m.disc.rat * D.1.rat)) = 0 := by simpa using hc32
  refine zz 6 ?_
  refine zo 1 A31 ?_
  refine zo 0 A31 ?_
  have hc8_ := (hc7_.trans j30).trans j31
  refine zc A31 (rAdd6_c _ _ A31.lt xa.cost _ _ _ (hLa.mono hc8_) _ _ _ (hMa.mono hc8_) (opR m.disc D.1 (m.disc.rat * D.1.rat)) _ _ _ (hN30.mono j31) _ _ _ (hD30.mono j31)) ?_
  rintro v37 w37 A37 j37 hu37 ⟨u37, rfl, ⟨ad37, len37, cap37, ae37, le37, ce37, rfl, hN37, hD37⟩⟩
  refine zz 2 ?_
  refine zx 2 #[.bool ((opR xa.cost (opR m.disc D.1 (m.disc.rat * D.1.rat)) (xa.cost.rat + (opR m.disc D.1 (m.disc.rat * D.1.rat)).rat)).neg), .slice ad37 len37 cap37, .slice ae37 le37 ce37] A37 ?_
  intro w38 A38 j38
  refine zz 4 ?_
  refine zrS [.cell 8 25, .tmp 9] (v := .tuple #[.agg #[.bool ((opR xa.cost (opR m.disc D.1 (m.disc.rat * D.1.rat)) (xa.cost.rat + (opR m.disc D.1 (m.disc.rat * D.1.rat)).rat)).neg), .slice ad37 len37 cap37, .slice ae37 le37 ce37], .int .i64 (opE xa.cost (opR m.disc D.1 (m.disc.rat * D.1.rat)) (xa.cost.rat + (opR m.disc D.1 (m.disc.rat * D.1.rat)).rat))]) (Res.cM A38 2 (Res.tZ Res.nil)) ?_
  have hend := (sc_add hDv ht28 (by simpa using ht35) : scoreV m.disc v xa = _)
  exact ⟨A38.upd, _, rfl, _, by rw [hend], by rw [hend]; exact ⟨_, _, _, _, _, _, rfl, (hN37.mono j38).mono A38.le, (hD37.mono j38).mono A38.le⟩⟩
 have ht39 : (D.2) ≠ 0 := by simpa using hc27
 refine zz 10 ?_
 refine zb 68 (b := ((D.2) != 0)) (fun hc40 => ?_) (fun hc40 => ?_)
 ·
  have ht41 : (D.2) ≠ 0 := by simpa using hc40
  refine zz 5 ?_
  refine zx 2 #[.bool false, .slice none 0 0, .slice none 0 0] A26 ?_
  intro w42 A42 j42
  refine zz 5 ?_
  refine zrS [.cell 8 25, .tmp 9] (v := .tuple #[.agg #[.bool false, .slice none 0 0, .slice none 0 0], .int .i64 D.2]) (Res.cM A42 2 (Res.tZ Res.nil)) ?_
  have hend := (sc_dot hDv ht39 : scoreV m.disc v xa = _)
  exact ⟨A42.upd, _, rfl, _, by rw [hend], by rw [hend]; exact raw_zero⟩
 have ht43 : (D.2) = 0 := by simpa using hc40
 exact absurd ht39 (by simpa using ht43)
end Go.Proofs.YtoocgllbbihoaaaGreat
namespace Go.Proofs.YtoocgllbbihoaaaGreat
open Go Go.Gv Go.RowKit
set_option maxRecDepth 100000
set_option maxHeartbeats 1000000
theorem score21_k (w : World) (X : Hid) (hX : ∀ k o, X k o → k < w.heap.size) (m : Mdp) (ad : Option Addr) (len cap : Nat) (h : Limbs (rd w X) ad len cap m.disc.ln) (ae : Option Addr) (le ce : Nat) (h2 : Limbs (rd w X) ae le ce m.disc.ld) (st : Option Addr) (ls cs : Nat) (hst : StatesR (rd w X) st ls cs m.states) (v : List Raw) (av : Option Addr) (lv cv : Nat) (hv : Rats (rd w X) av lv cv v) (hlv : lv ≤ 1099511627776) (hm0 : ¬ m.chkV v ≠ 0) (i j : Int) {sx : List Actn} {xa : Actn} (hxs : m.states[i.toNat]? = some sx) (hxa : sx[j.toNat]? = some xa) (hi0 : 0 ≤ i) (hj0 : 0 ≤ j) : Calls Tryz.prog 39 #[.agg #[.bool m.disc.neg, .slice ad len cap, .slice ae le ce, .slice st ls cs], .slice av lv cv, .int .i64 i, .int .i64 j] w (Ret E0 w fun w' u => ∃ x, u = .tuple #[x, .int .i64 (scoreV m.disc v xa).2] ∧ RawX X w' x (scoreV m.disc v xa).1) := by
  have e1 : m.states.getD i.toNat [] = sx := getD_get hxs
  have e2 : actAt (m.states.getD i.toNat []) j = xa := by rw [e1]; exact getD_get hxa
  have h8 := (List.getElem?_eq_some_iff.1 hxs).1
  have h9 := (List.getElem?_eq_some_iff.1 hxa).1
  rw [← e2]
  exact score21_c w X hX m ad len cap h ae le ce h2 st ls cs hst v av lv cv hv hlv hm0 i j hi0 (by omega) hj0 (by rw [e1]; omega)
theorem Score21_c (w : World) (X : Hid) (hX : ∀ k o, X k o → k < w.heap.size) (m : Mdp) (ad : Option Addr) (len cap : Nat) (h : Limbs (rd w X) ad len cap m.disc.ln) (ae : Option Addr) (le ce : Nat) (h2 : Limbs (rd w X) ae le ce m.disc.ld) (st : Option Addr) (ls cs : Nat) (hst : StatesR (rd w X) st ls cs m.states) (v : List Raw) (av : Option Addr) (lv cv : Nat) (hv : Rats (rd w X) av lv cv v) (hlv : lv ≤ 1099511627776) (i j : Int) : Calls Tryz.prog 12 #[.agg #[.bool m.disc.neg, .slice ad len cap, .slice ae le ce, .slice st ls cs], .slice av lv cv, .int .i64 i, .int .i64 j] w (Ret E0 w fun w' u => ∃ x, u = .tuple #[x, .int .i64 (m.scoreAt v i j).2] ∧ RawX X w' x (m.scoreAt v i j).1) := by
 obtain rfl := hv.hlen
 have hcapv := hv.hcap
 have hbigv := hv.hbig
 obtain rfl := hst.hlen
 have hcaps := hst.hcap
 have hbigs := hst.hbig
 refine zen Tryz.func12 ?_
 have A0 : St E0 w X w X [] := St.start hX
 refine zz 2 ?_
 refine zn pn (.cells #[.bool m.disc.neg, .slice ad len cap, .slice ae le ce, .slice st m.states.length cs] 28 (0, 0)) A0 ?_
 intro b3 w3 Y3 A3 j3 hu3
 refine zn pn (.cells #[.bool false, .slice none 0 0, .slice none 0 0] 25 (0, 0)) A3 ?_
 intro b5 w5 Y5 A5 j5 hu5
 refine zz 5 ?_
 refine zo 1 A5 ?_
 refine zz 1 ?_
 refine zc A5 (wrong21_c _ _ A5.lt m _ _ _ (h.mono (Le2 j3 j5)) _ _ _ (h2.mono (Le2 j3 j5)) _ _ _ (hst.mono (Le2 j3 j5)) av v.length cv v rfl (by omega)) ?_
 rintro v7 w7 A7 j7 hu7 rfl
 refine zz 10 ?_
 refine zb 15 (b := ((m.chkV v) != 0)) (fun hc8 => ?_) (fun hc8 => ?_)
 ·
  have ht9 : (m.chkV v) ≠ 0 := by simpa using hc8
  refine zz 5 ?_
  refine zx 0 #[.bool false, .slice none 0 0, .slice none 0 0] A7 ?_
  intro w10 A10 j10
  refine zz 5 ?_
  refine zrS [.cell 8 25, .tmp 9] (v := .tuple #[.agg #[.bool false, .slice none 0 0, .slice none 0 0], .int .i64 (m.chkV v)]) (Res.cM A10 0 (Res.tZ Res.nil)) ?_
  have hend := (sa_chk ht9 : m.scoreAt v i j = _)
  exact ⟨A10.upd, _, rfl, _, by rw [hend], by rw [hend]; exact raw_zero⟩
 have ht11 : (m.chkV v) = 0 := by simpa using hc8
 have hm0 : ¬ m.chkV v ≠ 0 := by simpa using ht11
 have hpos := chkV_pos hm0
 refine zz 9 ?_
 refine zt 20 (p := (i) < 0) (fun ht12 => ?_) (fun ht12 => ?_)
 ·
  refine zz 26 ?_
  refine zx 0 #[.bool false, .slice none 0 0, .slice none 0 0] A7 ?_
  intro w13 A13 j13
  refine zz 5 ?_
  refine zrS [.cell 8 25, .tmp 9] (v := .tuple #[.agg #[.bool false, .slice none 0 0, .slice none 0 0], .int .i64 8]) (Res.cM A13 0 (Res.tZ Res.nil)) ?_
  have hend := (sa_range hm0 (.inl ht12) : m.scoreAt v i j = _)
  exact ⟨A13.upd, _, rfl, _, by rw [hend], by rw [hend]; exact raw_zero⟩
 refine zz 2 ?_
 refine zo 1 A7 ?_
 refine zz 4 ?_
 refine zt 27 (p := (i) ≥ (m.states.length : Int)) (fun ht14 => ?_) (fun ht14 => ?_)
 ·
  refine zz 19 ?_
  refine zx 0 #[.bool false, .slice none 0 0, .slice none 0 0] A7 ?_
  intro w15 A15 j15
  refine zz 5 ?_
  refine zrS [.cell 8 25, .tmp 9] (v := .tuple #[.agg #[.bool false, .slice none 0 0, .slice none 0 0], .int .i64 8]) (Res.cM A15 0 (Res.tZ Res.nil)) ?_
  have hend := (sa_range hm0 (.inr (.inl (by omega))) : m.scoreAt v i j = _)
  exact ⟨A15.upd, _, rfl, _, by rw [hend], by rw [hend]; exact raw_zero⟩
 obtain ⟨b0, off0, rfl⟩ := hst.addr (by omega)
 obtain ⟨sx, ax, lx, cx, hxs, hAs, hacts⟩ := hst.at (k := i.toNat) (by omega)
 obtain rfl := hacts.hlen
 have hcapx := hacts.hcap
 have hbigx := hacts.hbig
 have hAs1 : At (rd w X) ⟨b0, off0 + i.toNat, none⟩ [.slice ax sx.length cx] := by simpa using hAs
 refine zz 4 ?_
 refine zt 31 (p := (j) < 0) (fun ht16 => ?_) (fun ht16 => ?_)
 ·
  refine zz 15 ?_
  refine zx 0 #[.bool false, .slice none 0 0, .slice none 0 0] A7 ?_
  intro w17 A17 j17
  refine zz 5 ?_
  refine zrS [.cell 8 25, .tmp 9] (v := .tuple #[.agg #[.bool false, .slice none 0 0, .slice none 0 0], .int .i64 8]) (Res.cM A17 0 (Res.tZ Res.nil)) ?_
  have hend := (sa_range hm0 (.inr (.inr (.inl ht16))) : m.scoreAt v i j = _)
  exact ⟨A17.upd, _, rfl, _, by rw [hend], by rw [hend]; exact raw_zero⟩
 refine zz 2 ?_
 refine zo 1 A7 ?_
 refine zz 1 ?_
 refine zi (b := b0) (off := off0) (len := m.states.length) (cap := cs) (kd := .i64) (i := i) 1 (off0 + i.toNat) ?_
 refine zl ((hAs1.mono (Le3 j3 j5 j7))).cells ?_
 refine zz 5 ?_
 refine zt 40 (p := (j) ≥ (sx.length : Int)) (fun ht18 => ?_) (fun ht18 => ?_)
 ·
  refine zz 4 ?_
  refine zx 0 #[.bool false, .slice none 0 0, .slice none 0 0] A7 ?_
  intro w19 A19 j19
  refine zz 5 ?_
  refine zrS [.cell 8 25, .tmp 9] (v := .tuple #[.agg #[.bool false, .slice none 0 0, .slice none 0 0], .int .i64 8]) (Res.cM A19 0 (Res.tZ Res.nil)) ?_
  have hend := (sa_range hm0 (.inr (.inr (.inr (by rw [getD_get hxs]; omega)))) : m.scoreAt v i j = _)
  exact ⟨A19.upd, _, rfl, _, by rw [hend], by rw [hend]; exact raw_zero⟩
 obtain ⟨b9a, off9a, rfl⟩ := hacts.addr (by omega)
 obtain ⟨xa, a1a, a2a, a3a, a4a, a5a, a6a, a7a, a8a, a9a, hxa, hAa, hLa, hMa, hOa⟩ := hacts.at (k := j.toNat) (by omega)
 have hin := score_range hm0 (List.mem_of_getElem? hxs) (List.mem_of_getElem? hxa)
 refine zz 5 ?_
 refine zo 1 A7 ?_
 refine zz 3 ?_
 refine zc A7 (score21_k _ _ A7.lt m _ _ _ (h.mono (Le3 j3 j5 j7)) _ _ _ (h2.mono (Le3 j3 j5 j7)) _ _ _ (hst.mono (Le3 j3 j5 j7)) v _ _ _ (hv.mono (Le3 j3 j5 j7)) (by omega) hm0 i j hxs hxa (by omega) (by omega)) ?_
 rintro v21 w21 A21 j21 hu21 ⟨u21, rfl, ⟨ad21, len21, cap21, ae21, le21, ce21, rfl, hN21, hD21⟩⟩
 refine zz 2 ?_
 refine zx 0 #[.bool ((scoreV m.disc v xa).1.neg), .slice ad21 len21 cap21, .slice ae21 le21 ce21] A21 ?_
 intro w22 A22 j22
 refine zz 4 ?_
 refine zrS [.cell 8 25, .tmp 9] (v := .tuple #[.agg #[.bool ((scoreV m.disc v xa).1.neg), .slice ad21 len21 cap21, .slice ae21 le21 ce21], .int .i64 ((scoreV m.disc v xa).2)]) (Res.cM A22 0 (Res.tZ Res.nil)) ?_
 have hend := (sa_ok hm0 (by omega) (by omega) hxs (by omega) (by omega) hxa : m.scoreAt v i j = _)
 exact ⟨A22.upd, _, rfl, _, by rw [hend], by rw [hend]; exact ⟨_, _, _, _, _, _, rfl, (hN21.mono j22).mono A22.le, (hD21.mono j22).mono A22.le⟩⟩
theorem Scores21_c (w : World) (X : Hid) (hX : ∀ k o, X k o → k < w.heap.size) (m : Mdp) (ad : Option Addr) (len cap : Nat) (h : Limbs (rd w X) ad len cap m.disc.ln) (ae : Option Addr) (le ce : Nat) (h2 : Limbs (rd w X) ae le ce m.disc.ld) (st : Option Addr) (ls cs : Nat) (hst : StatesR (rd w X) st ls cs m.states) (v : List Raw) (av : Option Addr) (lv cv : Nat) (hv : Rats (rd w X) av lv cv v) (hlv : lv ≤ 1099511627776) (hm0 : ¬ m.chkV v ≠ 0) : Calls Tryz.prog 40 #[.agg #[.bool m.disc.neg, .slice ad len cap, .slice ae le ce, .slice st ls cs], .slice av lv cv] w (Ret E0 w fun w' u => ∃ ad len cap, u = .tuple #[.slice ad len cap, .int .i64 (allV m.disc v [] m.states).2] ∧ RowsR (rd w' X) ad len cap (allV m.disc v [] m.states).1) := by
 obtain rfl := hv.hlen
 have hcapv := hv.hcap
 have hbigv := hv.hbig
 obtain rfl := hst.hlen
 have hcaps := hst.hcap
 have hbigs := hst.hbig
 have hpos := chkV_pos hm0
 refine zen Tryz.func40 ?_
 have A0 : St E0 w X w X [] := St.start hX
 refine zz 2 ?_
 refine zn pn (.cells #[.bool m.disc.neg, .slice ad len cap, .slice ae le ce, .slice st m.states.length cs] 28 (0, 0)) A0 ?_
 intro b3 w3 Y3 A3 j3 hu3
 refine zz 16 ?_
 refine zlp Tryz.f40 [] [1, 1, 0, 1, 0] (fun ((k, ado, capo) : Nat × (Option Addr) × Nat) => [(1, .slice av v.length cv), (2, .pointer (some ⟨b3, 0, none⟩)), (6, .slice ado k capo), (7, .int .i64 (k : Int))]) (fun ((k, ado, capo) : Nat × (Option Addr) × Nat) w1 => ∃ (Y1 : Hid) (rbo : List (Nat × Obj)) (eo : List (GE (List Raw))), St E0 w X w1 Y1 ((b3, .cells #[.bool m.disc.neg, .slice ad len cap, .slice ae le ce, .slice st m.states.length cs] 28 (0, 0)) :: rbo) ∧ Le (rd w3 Y3) (rd w1 Y1) ∧ (TRow 29 1 rbo ado k capo (flatG eo)) ∧ (allV m.disc v (eo.map (·.x)) (m.states.drop k) = allV m.disc v [] m.states) ∧ (∀ e ∈ eo, GE.ok RowAt 1 (rd w1 Y1) e) ∧ (k = eo.length) ∧ (k ≤ m.states.length)) (fun ((k, ado, capo) : Nat × (Option Addr) × Nat) => m.states.length - k) (0, none, 0) ?_ ?_
 ·
  refine ⟨_, [], [], A3, Le.refl _, TRow.nil _ _, rfl, fun _ h => absurd h (by simp), rfl, Nat.zero_le _⟩
 rintro ⟨k, ado, capo⟩ w4 K4 G4 ⟨Y4, rbo, eo, A4, j4, hp4_0, hp4_1, hp4_2, hp4_3, hp4_4⟩
 have hro := hp4_0
 have hgo := hp4_1
 have hko := hp4_2
 have hke := hp4_3
 have hkl := hp4_4
 refine zz 5 ?_
 refine zo 0 A4 ?_
 refine zz 4 ?_
 refine zt 16 (p := (k : Int) < (m.states.length : Int)) (fun ht5 => ?_) (fun ht5 => ?_)
 ·
  obtain ⟨b0, off0, rfl⟩ := hst.addr (by omega)
  obtain ⟨sx, ax, lx, cx, hxs, hAs, hacts⟩ := hst.at (k := k) (by omega)
  obtain rfl := hacts.hlen
  have hcapx := hacts.hcap
  have hbigx := hacts.hbig
  have hAs1 : At (rd w X) ⟨b0, off0 + k, none⟩ [.slice ax sx.length cx] := by simpa using hAs
  have hsx := List.mem_of_getElem? hxs
  have hlen6 := state_len hm0 hsx
  refine zz 17 ?_
  refine zlp Tryz.f40 [K4] [1, 1, 0, 1, 0, 0, 1, 0, 0, 1, 0, 1, 0] (fun ((j, adi, capi) : Nat × (Option Addr) × Nat) => [(1, .slice av v.length cv), (2, .pointer (some ⟨b3, 0, none⟩)), (6, .slice ado k capo), (7, .int .i64 (k : Int)), (8, .slice adi j capi), (9, .int .i64 (j : Int))]) (fun ((j, adi, capi) : Nat × (Option Addr) × Nat) w1 => ∃ (Y1 : Hid) (rbi : List (Nat × Obj)) (el : List RE), St E0 w X w1 Y1 ((b3, .cells #[.bool m.disc.neg, .slice ad len cap, .slice ae le ce, .slice (some ⟨b0, off0, none⟩) m.states.length cs] 28 (0, 0)) :: (rbi ++ rbo)) ∧ Le (rd w4 Y4) (rd w1 Y1) ∧ (TRow 25 3 rbi adi j capi (flat el)) ∧ (scoresGo m.disc v (el.map (·.x)) (sx.drop j) = scoresV m.disc v sx) ∧ (∀ e ∈ el, e.ok (rd w1 Y1)) ∧ (j = el.length) ∧ (j ≤ sx.length)) (fun ((j, adi, capi) : Nat × (Option Addr) × Nat) => sx.length - j) (0, none, 0) ?_ ?_
  ·
   refine ⟨_, [], [], A4, Le.refl _, TRow.nil _ _, rfl, fun _ h => absurd h (by simp), rfl, Nat.zero_le _⟩
  rintro ⟨j, adi, capi⟩ w6 K6 G6 ⟨Y6, rbi, el, A6, j6, hp6_0, hp6_1, hp6_2, hp6_3, hp6_4⟩
  have hri := hp6_0
  have hgl := hp6_1
  have hkl1 := hp6_2
  have hel := hp6_3
  have hjl := hp6_4
  refine zz 5 ?_
  refine zo 0 A6 ?_
  refine zz 1 ?_
  refine zi (b := b0) (off := off0) (len := m.states.length) (cap := cs) (kd := .i64) (i := (k : Int)) 1 (off0 + k) ?_
  refine zl ((hAs1.mono (Le3 j3 j4 j6))).cells ?_
  refine zz 4 ?_
  refine zt 26 (p := (j : Int) < (sx.length : Int)) (fun ht7 => ?_) (fun ht7 => ?_)
  ·
   obtain ⟨b9a, off9a, rfl⟩ := hacts.addr (by omega)
   obtain ⟨xa, a1a, a2a, a3a, a4a, a5a, a6a, a7a, a8a, a9a, hxa, hAa, hLa, hMa, hOa⟩ := hacts.at (k := j) (by omega)
   refine zz 7 ?_
   refine zo 0 A6 ?_
   refine zz 3 ?_
   refine zc A6 (score21_k _ _ A6.lt m _ _ _ (h.mono (Le3 j3 j4 j6)) _ _ _ (h2.mono (Le3 j3 j4 j6)) _ _ _ (hst.mono (Le3 j3 j4 j6)) v _ _ _ (hv.mono (Le3 j3 j4 j6)) (by omega) hm0 (k : Int) (j : Int) hxs hxa (by omega) (by omega)) ?_
   rintro v9 w9 A9 j9 hu9 ⟨u9, rfl, ⟨ad9, len9, cap9, ae9, le9, ce9, rfl, hN9, hD9⟩⟩
   refine zz 3 ?_
   refine zn pn (.cells #[.bool false, .slice none 0 0, .slice none 0 0] 25 (0, 0)) A9 ?_
   intro b11 w11 Y11 A11 j11 hu11
   refine zx 0 #[.bool ((scoreV m.disc v xa).1.neg), .slice ad9 len9 cap9, .slice ae9 le9 ce9] A11 ?_
   intro w12 A12 j12
   refine zz 10 ?_
   refine zb 38 (b := (((scoreV m.disc v xa).2) != 0)) (fun hc13 => ?_) (fun hc13 => ?_)
   ·
    have ht14 : ((scoreV m.disc v xa).2) ≠ 0 := by simpa using hc13
    have hse := hgl.symm.trans (scoresGo_stop hxa ht14)
    refine zz 20 ?_
    refine zr' (v := .tuple #[.slice none 0 0, .int .i64 ((scoreV m.disc v xa).2)]) ?_
    have hend : allV m.disc v [] m.states = _ := (hgo.symm.trans ((allV_stop hxs (by rw [hse]; exact ht14)).trans (by rw [hse])))
    exact ⟨A12.upd, _, rfl, _, _, _, by rw [hend], by rw [hend]; exact SlR.nil none (by omega)⟩
   have ht15 : ((scoreV m.disc v xa).2) = 0 := by simpa using hc13
   refine zz 5 ?_
   refine zo 0 A12 ?_
   refine zn (fun b => .slice (some ⟨b, 0, none⟩) 1 1) (.cells #[.bool ((scoreV m.disc v xa).1.neg), .slice ad9 len9 cap9, .slice ae9 le9 ce9] 25 (0, 0)) A12 ?_
   intro b17 w17 Y17 A17 j17 hu17
   refine zop (at1 [K4, K6] Tryz.f40 [1, 1, 0, 1, 0, 0, 1, 0, 0, 1, 0, 1, 0, 0, 1, 0, 0, 1, 1]) 3 (fun a18 _ C18 hz18 => op_appZ (b := 56) (m := 1) (c := 1) (ad := ⟨b17, 0, none⟩) (news := [.bool ((scoreV m.disc v xa).1.neg), .slice ad9 len9 cap9, .slice ae9 le9 ce9]) (i0 := Tryz.t25) (R1 := []) (B := rbo) 3 C18 A17 rfl hri (A17.cells 0 rfl rfl) (by omega) (by omega) ?_)
   intro rb19 ad19 cap19 w19 Y19 hrow19 A19 j19 a20 C20
   have hrw19 : TRow 25 3 rb19 ad19 (j + 1) cap19 (flat (el ++ [(RE.mk (scoreV m.disc v xa).1 ad9 len9 cap9 ae9 le9 ce9)])) := by rw [flat_snoc]; exact hrow19
   refine hz18 C20 ?_
   refine zz 7 ?_
   refine zw 28 (x := (j : Int) + 1) ?_
   refine zz 2 ?_
   have hc1_ := (Le4 j9 j11 j12 j17).trans j19
   have hc2_ := (Le3 j11 j12 j17).trans j19
   have hc3_ := (Le5 j6 j9 j11 j12 j17).trans j19
   refine znext (fun a h => G6 ((j + 1, ad19, cap19)) _ a h ⟨_, rb19, (el ++ [(RE.mk (scoreV m.disc v xa).1 ad9 len9 cap9 ae9 le9 ce9)]), A19.tail.tail, hc3_, hrw19, by rw [List.map_append]; exact (scoresGo_step hxa (by simpa using ht15)).symm.trans hgl, fun e he => by rcases List.mem_append.1 he with h1 | h1; exact (hkl1 e h1).mono hc1_; obtain rfl := List.mem_singleton.1 h1; exact ⟨(hN9.mono hc2_), (hD9.mono hc2_)⟩, by rw [List.length_append, ← hel]; rfl, by omega⟩ ?_)
   first | omega | (simp <;> omega)
  have hsv : scoresV m.disc v sx = (el.map (·.x), 0) := hgl.symm.trans (scoresGo_end (by omega))
  have hsv0 : (scoresV m.disc v sx).2 = 0 := by rw [hsv]
  have hsv1 : el.map (·.x) = (scoresV m.disc v sx).1 := by rw [hsv]
  refine zz 9 ?_
  refine zn (fun b => .slice (some ⟨b, 0, none⟩) 1 1) (.cells #[.slice adi j capi] 29 (0, 0)) A6 ?_
  intro b22 w22 Y22 A22 j22 hu22
  obtain ⟨Y24, hSx24, j24, hRx24⟩ := St.pubRats (A := [(b22, .cells #[.slice adi j capi] 29 (0, 0)), (b3, .cells #[.bool m.disc.neg, .slice ad len cap, .slice ae le ce, .slice (some ⟨b0, off0, none⟩) m.states.length cs] 28 (0, 0))]) (B := rbo) (fun rb => ((b22, .cells #[.slice adi j capi] 29 (0, 0)) :: (b3, .cells #[.bool m.disc.neg, .slice ad len cap, .slice ae le ce, .slice (some ⟨b0, off0, none⟩) m.states.length cs] 28 (0, 0)) :: (rb ++ rbo))) A22 (fun _ => by simp only [List.append_assoc, List.cons_append, List.nil_append, List.append_nil]) hri hel (fun e he => (hkl1 e he).mono j22)
  have A24 : St E0 w X w22 Y24 ((b22, .cells #[.slice adi j capi] 29 (0, 0)) :: (b3, .cells #[.bool m.disc.neg, .slice ad len cap, .slice ae le ce, .slice (some ⟨b0, off0, none⟩) m.states.length cs] 28 (0, 0)) :: rbo) := hSx24
  have hR24 : Rats (rd w22 Y24) adi j capi (scoresV m.disc v sx).1 := by have h9 := hRx24; rwa [hsv1] at h9
  refine zop (at1 [K4, K6] Tryz.f40 [1, 1, 0, 1, 0, 0, 1, 0, 0, 1, 1]) 3 (fun a23 _ C23 hz23 => op_appEZ (b := 24) (m := 1) (c := 1) (ad := ⟨b22, 0, none⟩) (news := [.slice adi j capi]) (i0 := Tryz.t29) (R1 := []) 2 C23 A24 rfl hro (A24.cells 0 rfl rfl) (by omega) (by omega) ?_)
  intro rb25 ad25 cap25 w25 Y25 hrow25 A25 j25 a26 C26
  have hrw25 : TRow 29 1 rb25 ad25 (k + 1) cap25 (flatG (eo ++ [GE.mk ((scoresV m.disc v sx).1) [.slice adi j capi]])) := by rw [flatG_snoc]; exact hrow25
  refine hz23 C26 ?_
  refine zz 7 ?_
  refine zw 18 (x := (k : Int) + 1) ?_
  refine zz 2 ?_
  have hc4_ := (Le3 j6 j22 j24).trans j25
  have hc5_ := (Le4 j4 j6 j22 j24).trans j25
  refine znext (fun a h => G4 ((k + 1, ad25, cap25)) _ a h ⟨_, rb25, (eo ++ [GE.mk ((scoresV m.disc v sx).1) [.slice adi j capi]]), A25.tail, hc5_, hrw25, by rw [List.map_append]; exact (allV_step hxs hsv0).symm.trans hgo, fun e he => by rcases List.mem_append.1 he with h1 | h1; exact (hko e h1).mono hc4_; obtain rfl := List.mem_singleton.1 h1; exact ⟨rfl, fun r2 h2 b o h9 => ⟨_, _, _, h9, (hR24.mono j25).mono h2⟩⟩, by rw [List.length_append, ← hke]; rfl, by omega⟩ ?_)
  first | omega | (simp <;> omega)
 refine zz 14 ?_
 refine zr' (v := .tuple #[.slice ado k capo, .int .i64 0]) ?_
 have hend : allV m.disc v [] m.states = _ := (hgo.symm.trans (allV_end (by omega)))
 obtain ⟨Y27, hSx27, j27, hRx27⟩ := St.pubG (El := RowAt) (A := [(b3, .cells #[.bool m.disc.neg, .slice ad len cap, .slice ae le ce, .slice st m.states.length cs] 28 (0, 0))]) (B := []) (fun rb => ((b3, .cells #[.bool m.disc.neg, .slice ad len cap, .slice ae le ce, .slice st m.states.length cs] 28 (0, 0)) :: rb)) A4 (fun _ => by simp only [List.append_assoc, List.cons_append, List.nil_append, List.append_nil]) hro hke (fun e he => (hko e he).mono (Le.refl _))
 have A27 : St E0 w X w4 Y27 [(b3, .cells #[.bool m.disc.neg, .slice ad len cap, .slice ae le ce, .slice st m.states.length cs] 28 (0, 0))] := hSx27
 have hR27 : RowsR (rd w4 Y27) ado k capo (eo.map (·.x)) := by have h9 := hRx27; exact h9
 exact ⟨A27.upd, _, rfl, _, _, _, by rw [hend], by rw [hend]; exact hR27.mono A27.le⟩
end Go.Proofs.YtoocgllbbihoaaaGreat
namespace Go.Proofs.YtoocgllbbihoaaaGreat
open Go Go.Gv Go.RowKit
set_option maxRecDepth 100000
set_option maxHeartbeats 1000000
theorem Under21_c (w : World) (X : Hid) (hX : ∀ k o, X k o → k < w.heap.size) (m : Mdp) (ad : Option Addr) (len cap : Nat) (h : Limbs (rd w X) ad len cap m.disc.ln) (ae : Option Addr) (le ce : Nat) (h2 : Limbs (rd w X) ae le ce m.disc.ld) (st : Option Addr) (ls cs : Nat) (hst : StatesR (rd w X) st ls cs m.states) (v : List Raw) (av : Option Addr) (lv cv : Nat) (hv : Rats (rd w X) av lv cv v) (hlv : lv ≤ 1099511627776) (p : List Int) (ap : Option Addr) (lp cp : Nat) (hp : Ints (rd w X) ap lp cp p) (hlp : lp ≤ 1099511627776) : Calls Tryz.prog 14 #[.agg #[.bool m.disc.neg, .slice ad len cap, .slice ae le ce, .slice st ls cs], .slice ap lp cp, .slice av lv cv] w (Ret E0 w fun w' u => ∃ ad len cap, u = .tuple #[.slice ad len cap, .int .i64 (m.underV p v).2] ∧ Rats (rd w' X) ad len cap (m.underV p v).1) := by
 obtain rfl := hv.hlen
 have hcapv := hv.hcap
 have hbigv := hv.hbig
 obtain rfl := hst.hlen
 have hcaps := hst.hcap
 have hbigs := hst.hbig
 obtain rfl := hp.hlen
 have hcapp := hp.hcap
 have hbigp := hp.hbig
 refine zen Tryz.func14 ?_
 have A0 : St E0 w X w X [] := St.start hX
 refine zz 2 ?_
 refine zn pn (.cells #[.bool m.disc.neg, .slice ad len cap, .slice ae le ce, .slice st m.states.length cs] 28 (0, 0)) A0 ?_
 intro b3 w3 Y3 A3 j3 hu3
 refine zz 6 ?_
 refine zo 0 A3 ?_
 refine zz 1 ?_
 refine zc A3 (wrong21_c _ _ A3.lt m _ _ _ (h.mono j3) _ _ _ (h2.mono j3) _ _ _ (hst.mono j3) av v.length cv v rfl (by omega)) ?_
 rintro v5 w5 A5 j5 hu5 rfl
 refine zz 10 ?_
 refine zb 17 (b := ((m.chkV v) != 0)) (fun hc6 => ?_) (fun hc6 => ?_)
 ·
  have ht7 : (m.chkV v) ≠ 0 := by simpa using hc6
  refine zz 10 ?_
  refine zr' (v := .tuple #[.slice none 0 0, .int .i64 (m.chkV v)]) ?_
  have hend : m.underV p v = _ := un_chk ht7
  exact ⟨A5.upd, _, rfl, _, _, _, by rw [hend], by rw [hend]; exact rats_nil⟩
 have ht8 : (m.chkV v) = 0 := by simpa using hc6
 have hm0 : ¬ m.chkV v ≠ 0 := by simpa using ht8
 have hpos := chkV_pos hm0
 refine zz 9 ?_
 refine zo 0 A5 ?_
 refine zz 4 ?_
 refine zb 24 (b := ((p.length : Int) != (m.states.length : Int))) (fun hc9 => ?_) (fun hc9 => ?_)
 ·
  have ht10 : (p.length : Int) ≠ (m.states.length : Int) := by simpa using hc9
  refine zz 9 ?_
  refine zr' (v := .tuple #[.slice none 0 0, .int .i64 16]) ?_
  have hend : m.underV p v = _ := un_len hm0 (by omega)
  exact ⟨A5.upd, _, rfl, _, _, _, by rw [hend], by rw [hend]; exact rats_nil⟩
 have ht11 : (p.length : Int) = (m.states.length : Int) := by simpa using hc9
 have hpl : p.length = m.states.length := by omega
 have hug := un_go hm0 hpl
 refine zz 15 ?_
 refine zlp Tryz.f14 [] [1, 1, 1, 1, 1, 0, 1, 0] (fun ((k, adr, capr) : Nat × (Option Addr) × Nat) => [(1, .slice ap p.length cp), (2, .slice av v.length cv), (3, .pointer (some ⟨b3, 0, none⟩)), (9, .slice adr k capr), (10, .int .i64 (k : Int))]) (fun ((k, adr, capr) : Nat × (Option Addr) × Nat) w1 => ∃ (Y1 : Hid) (rb1 : List (Nat × Obj)) (es : List RE), St E0 w X w1 Y1 ((b3, .cells #[.bool m.disc.neg, .slice ad len cap, .slice ae le ce, .slice st m.states.length cs] 28 (0, 0)) :: rb1) ∧ Le (rd w5 Y3) (rd w1 Y1) ∧ (TRow 25 3 rb1 adr k capr (flat es)) ∧ (underGo m.disc v (es.map (·.x)) (m.states.drop k) (p.drop k) = underGo m.disc v [] m.states p) ∧ (∀ e ∈ es, e.ok (rd w1 Y1)) ∧ (k = es.length) ∧ (k ≤ p.length)) (fun ((k, adr, capr) : Nat × (Option Addr) × Nat) => p.length - k) (0, none, 0) ?_ ?_
 ·
  refine ⟨_, [], [], A5, Le.refl _, TRow.nil _ _, rfl, fun _ h => absurd h (by simp), rfl, Nat.zero_le _⟩
 rintro ⟨k, adr, capr⟩ w12 K12 G12 ⟨Y12, rb1, es, A12, j12, hp12_0, hp12_1, hp12_2, hp12_3, hp12_4⟩
 have hr1 := hp12_0
 have hgo := hp12_1
 have hk1 := hp12_2
 have hke := hp12_3
 have hkl := hp12_4
 refine zz 9 ?_
 refine zt 28 (p := (k : Int) < (p.length : Int)) (fun ht13 => ?_) (fun ht13 => ?_)
 ·
  obtain ⟨bp, offp, rfl⟩ := hp.addr (by omega)
  obtain ⟨ip, hxp, hAp⟩ := hp.at (k := k) (by omega)
  have hAp1 : At (rd w X) ⟨bp, offp + k, none⟩ [.int .i64 ip] := by have h9 := hAp; unfold IntAt at h9; simpa using h9
  refine zz 7 ?_
  refine zdraw [0] A12 ?_
  refine gz [0, 1] ?_
  refine gi 2 (b := bp) (off := offp) (len := p.length) (cap := cp) (kd := .i64) (i := (k : Int)) 1 (offp + k) ?_
  refine gl 3 ((hAp1.mono (Le3 j3 j5 j12))) ?_
  refine gz [4, 5] ?_
  refine gt 36 (p := (ip) < 0) (fun ht14 => ?_) (fun ht14 => ?_)
  ·
   obtain ⟨sx, hxs⟩ : ∃ sx, m.states[k]? = some sx := ⟨m.states[k]'(by omega), List.getElem?_eq_getElem _⟩
   refine gz [6, 7, 8, 9, 10, 11, 12, 13, 14, 15, 16, 17] ?_
   refine gend (fun w15 Y15 A15 j15 => ?_)
   refine zz 15 ?_
   refine zr' (v := .tuple #[.slice none 0 0, .int .i64 8]) ?_
   have hend : m.underV p v = _ := hug.trans (hgo.symm.trans (underGo_range hxs hxp (.inl ht14)))
   exact ⟨A15.upd, _, rfl, _, _, _, by rw [hend], by rw [hend]; exact rats_nil⟩
  obtain ⟨b0, off0, rfl⟩ := hst.addr (by omega)
  obtain ⟨sx, ax, lx, cx, hxs, hAs, hacts⟩ := hst.at (k := k) (by omega)
  obtain rfl := hacts.hlen
  have hcapx := hacts.hcap
  have hbigx := hacts.hbig
  have hAs1 : At (rd w X) ⟨b0, off0 + k, none⟩ [.slice ax sx.length cx] := by simpa using hAs
  refine gz [6, 7] ?_
  refine gi 8 (b := bp) (off := offp) (len := p.length) (cap := cp) (kd := .i64) (i := (k : Int)) 1 (offp + k) ?_
  refine gl 9 ((hAp1.mono (Le3 j3 j5 j12))) ?_
  refine gz [10] ?_
  refine gw 11 0 ?_
  refine gz [12] ?_
  refine gi 13 (b := b0) (off := off0) (len := m.states.length) (cap := cs) (kd := .i64) (i := (k : Int)) 1 (off0 + k) ?_
  refine gl 14 ((hAs1.mono (Le3 j3 j5 j12))) ?_
  refine gz [15, 16, 17] ?_
  refine gend (fun w16 Y16 A16 j16 => ?_)
  refine zz 1 ?_
  refine zt 48 (p := (ip) ≥ (sx.length : Int)) (fun ht17 => ?_) (fun ht17 => ?_)
  ·
   refine zz 14 ?_
   refine zr' (v := .tuple #[.slice none 0 0, .int .i64 8]) ?_
   have hend : m.underV p v = _ := hug.trans (hgo.symm.trans (underGo_range hxs hxp (.inr (by omega))))
   exact ⟨A16.upd, _, rfl, _, _, _, by rw [hend], by rw [hend]; exact rats_nil⟩
  obtain ⟨b9a, off9a, rfl⟩ := hacts.addr (by omega)
  obtain ⟨xa, a1a, a2a, a3a, a4a, a5a, a6a, a7a, a8a, a9a, hxa, hAa, hLa, hMa, hOa⟩ := hacts.at (k := ip.toNat) (by omega)
  have hin := score_range hm0 (List.mem_of_getElem? hxs) (List.mem_of_getElem? hxa)
  have hact : actAt sx ip = xa := getD_get hxa
  refine zz 4 ?_
  refine zdraw [0] A16 ?_
  refine gw 0 0 ?_
  refine gz [1, 2, 3, 4] ?_
  refine gi 5 (b := bp) (off := offp) (len := p.length) (cap := cp) (kd := .i64) (i := (k : Int)) 1 (offp + k) ?_
  have hc1_ := (Le3 j3 j5 j12).trans j16
  refine gl 6 ((hAp1.mono hc1_)) ?_
  refine gp (al 11 11 pn (.cells #[.bool false, .slice none 0 0, .slice none 0 0] 25 (0, 0))) ?_
  have hc2_ := (Le3 j3 j5 j12).trans j16
  refine gC 7 (fun w18 Y18 _ A18 j18 => (score21_k _ _ A18.lt m _ _ _ (h.mono (hc2_.trans j18)) _ _ _ (h2.mono (hc2_.trans j18)) _ _ _ (hst.mono (hc2_.trans j18)) v _ _ _ (hv.mono (hc2_.trans j18)) (by omega) hm0 (k : Int) ip hxs hxa (by omega) (by omega))) ?_ (hPd := PdOk.nil.k)
  rintro v19 w18 Y19 w19 A18 j19 ⟨u19, rfl, ⟨ad19, len19, cap19, ae19, le19, ce19, rfl, hN19, hD19⟩⟩
  refine gz [8, 9, 10] ?_
  refine gs1 (fun b20 => ?_) PdOk.nil.k
  refine gX 12 0 #[.bool ((scoreV m.disc v xa).1.neg), .slice ad19 len19 cap19, .slice ae19 le19 ce19] ?_
  intro w21 Y21 j21
  refine gz [13] ?_
  refine gend (fun w22 Y22 A22 j22 => ?_)
  refine zz 8 ?_
  refine zb 61 (b := (((scoreV m.disc v xa).2) != 0)) (fun hc23 => ?_) (fun hc23 => ?_)
  ·
   have ht24 : ((scoreV m.disc v xa).2) ≠ 0 := by simpa using hc23
   have hstop := underGo_stop (d := m.disc) (v := v) (xs := es.map (·.x)) hxs hxp (by omega) (by rw [hact]; exact ht24)
   rw [hact] at hstop
   refine zz 15 ?_
   refine zr' (v := .tuple #[.slice none 0 0, .int .i64 ((scoreV m.disc v xa).2)]) ?_
   have hend : m.underV p v = _ := hug.trans (hgo.symm.trans hstop)
   exact ⟨A22.upd, _, rfl, _, _, _, by rw [hend], by rw [hend]; exact rats_nil⟩
  have ht25 : ((scoreV m.disc v xa).2) = 0 := by simpa using hc23
  have hstep := underGo_step (d := m.disc) (v := v) (xs := es.map (·.x)) hxs hxp (by omega) (by rw [hact]; exact ht25)
  rw [hact] at hstep
  refine zz 5 ?_
  refine zo 0 A22 ?_
  refine zn (fun b => .slice (some ⟨b, 0, none⟩) 1 1) (.cells #[.bool ((scoreV m.disc v xa).1.neg), .slice ad19 len19 cap19, .slice ae19 le19 ce19] 25 (0, 0)) A22 ?_
  intro b27 w27 Y27 A27 j27 hu27
  refine zop (at1 [K12] Tryz.f14 [1, 1, 1, 1, 1, 0, 1, 0, 0, 1, 0, 0, 1, 1, 1]) 3 (fun a28 _ C28 hz28 => op_appEZ (b := 56) (m := 1) (c := 1) (ad := ⟨b27, 0, none⟩) (news := [.bool ((scoreV m.disc v xa).1.neg), .slice ad19 len19 cap19, .slice ae19 le19 ce19]) (i0 := Tryz.t25) (R1 := []) 3 C28 A27 rfl hr1 (A27.cells 0 rfl rfl) (by omega) (by omega) ?_)
  intro rb29 ad29 cap29 w29 Y29 hrow29 A29 j29 a30 C30
  have hrw29 : TRow 25 3 rb29 ad29 (k + 1) cap29 (flat (es ++ [(RE.mk (scoreV m.disc v xa).1 ad19 len19 cap19 ae19 le19 ce19)])) := by rw [flat_snoc]; exact hrow29
  refine hz28 C30 ?_
  refine zz 7 ?_
  refine zw 30 (x := (k : Int) + 1) ?_
  refine zz 2 ?_
  have hc3_ := (Le5 j16 j19 j21 j22 j27).trans j29
  have hc4_ := (Le3 j21 j22 j27).trans j29
  have hc5_ := (Le6 j12 j16 j19 j21 j22 j27).trans j29
  refine znext (fun a h => G12 ((k + 1, ad29, cap29)) _ a h ⟨_, rb29, (es ++ [(RE.mk (scoreV m.disc v xa).1 ad19 len19 cap19 ae19 le19 ce19)]), A29.tail.tail, hc5_, hrw29, by rw [List.map_append]; exact hstep.symm.trans hgo, fun e he => by rcases List.mem_append.1 he with h1 | h1; exact (hk1 e h1).mono hc3_; obtain rfl := List.mem_singleton.1 h1; exact ⟨(hN19.mono hc4_), (hD19.mono hc4_)⟩, by rw [List.length_append, ← hke]; rfl, by omega⟩ ?_)
  first | omega | (simp <;> omega)
 refine zz 14 ?_
 refine zr' (v := .tuple #[.slice adr k capr, .int .i64 0]) ?_
 have hend : m.underV p v = _ := hug.trans (hgo.symm.trans (underGo_end (by omega)))
 obtain ⟨Y31, hSx31, j31, hRx31⟩ := St.pubRats (A := [(b3, .cells #[.bool m.disc.neg, .slice ad len cap, .slice ae le ce, .slice st m.states.length cs] 28 (0, 0))]) (B := []) (fun rb => ((b3, .cells #[.bool m.disc.neg, .slice ad len cap, .slice ae le ce, .slice st m.states.length cs] 28 (0, 0)) :: rb)) A12 (fun _ => by simp only [List.append_assoc, List.cons_append, List.nil_append, List.append_nil]) hr1 hke (fun e he => (hk1 e he).mono (Le.refl _))
 have A31 : St E0 w X w12 Y31 [(b3, .cells #[.bool m.disc.neg, .slice ad len cap, .slice ae le ce, .slice st m.states.length cs] 28 (0, 0))] := hSx31
 have hR31 : Rats (rd w12 Y31) adr k capr (es.map (·.x)) := by have h9 := hRx31; exact h9
 exact ⟨A31.upd, _, rfl, _, _, _, by rw [hend], by rw [hend]; exact hR31.mono A31.le⟩
section
variable {m : Mdp} {v : List Raw}
theorem back_all_err (h : ¬ m.chkV v ≠ 0) (h2 : (allV m.disc v [] m.states).2 ≠ 0) : m.backV v = ([], [], (allV m.disc v [] m.states).2) := by
  rw [show m.backV v = backGo m.disc v [] [] m.states from if_neg h]
  have h1 := (@allV_back m.disc v m.states [] [] []).1
  obtain ⟨h3, h4, _⟩ := @backGo_err m.disc v m.states [] [] (by rw [← h1]; exact h2)
  rw [h1]; exact Prod.ext h3 (Prod.ext h4 rfl)
theorem all_rows (h : ¬ (allV m.disc v [] m.states).2 ≠ 0) : (allV m.disc v [] m.states).1 = m.states.map (fun s => (scoresV m.disc v s).1) ∧ ∀ s ∈ m.states, (scoresV m.disc v s).2 = 0 := by
  obtain ⟨h1, h2⟩ := (@allV_back m.disc v m.states [] [] []).2 (Classical.not_not.1 h)
  exact ⟨by rw [h1, List.nil_append], h2⟩
theorem scores_chk {d : Raw} {s : List Actn} (h : (scoresV d v s).2 = 0) : ∀ x ∈ (scoresV d v s).1, x.chk = 0 := by
  obtain ⟨h1, h2⟩ := scoresV_ok h
  intro x hx
  rw [h1] at hx
  obtain ⟨a, ha, rfl⟩ := List.mem_map.1 hx
  exact (scoreV_ok (h2 a ha)).2.2
theorem least_from1 {less : Raw → Raw → Bool} {xs : List Raw} (h : 0 < xs.length) : leastL less xs 0 1 (xs.drop 1) = leastV less xs := by
  have hx := List.getElem?_eq_getElem h
  have h1 := leastL_step (less := less) (b := 0) hx hx
  rw [ite_self, List.drop_zero] at h1
  exact h1.symm
theorem rats_addr {r : Rd} {ad : Option Addr} {len cap : Nat} {xs : List Raw} (h : Rats r ad len cap xs) (h0 : 0 < len) : ∃ b off, ad = some ⟨b, off, none⟩ := by
  rcases h.hat with h1 | ⟨b, off, e, _⟩
  · have := h.hlen; rw [h1] at this; simp at this; omega
  · exact ⟨b, off, e⟩
end
theorem Backup21_c (w : World) (X : Hid) (hX : ∀ k o, X k o → k < w.heap.size) (m : Mdp) (ad : Option Addr) (len cap : Nat) (h : Limbs (rd w X) ad len cap m.disc.ln) (ae : Option Addr) (le ce : Nat) (h2 : Limbs (rd w X) ae le ce m.disc.ld) (st : Option Addr) (ls cs : Nat) (hst : StatesR (rd w X) st ls cs m.states) (v : List Raw) (av : Option Addr) (lv cv : Nat) (hv : Rats (rd w X) av lv cv v) (hlv : lv ≤ 1099511627776) : Calls Tryz.prog 13 #[.agg #[.bool m.disc.neg, .slice ad len cap, .slice ae le ce, .slice st ls cs], .slice av lv cv] w (Ret E0 w fun w' u => ∃ ad len cap ad2 len2 cap2, u = .tuple #[.slice ad len cap, .slice ad2 len2 cap2, .int .i64 (m.backV v).2.2] ∧ Rats (rd w' X) ad len cap (m.backV v).1 ∧ Ints (rd w' X) ad2 len2 cap2 (m.backV v).2.1) := by
 obtain rfl := hv.hlen
 have hcapv := hv.hcap
 have hbigv := hv.hbig
 obtain rfl := hst.hlen
 have hcaps := hst.hcap
 have hbigs := hst.hbig
 refine zen Tryz.func13 ?_
 have A0 : St E0 w X w X [] := St.start hX
 refine zz 2 ?_
 refine zn pn (.cells #[.bool m.disc.neg, .slice ad len cap, .slice ae le ce, .slice st m.states.length cs] 28 (0, 0)) A0 ?_
 intro b3 w3 Y3 A3 j3 hu3
 refine zz 7 ?_
 refine zo 0 A3 ?_
 refine zz 1 ?_
 refine zc A3 (wrong21_c _ _ A3.lt m _ _ _ (h.mono j3) _ _ _ (h2.mono j3) _ _ _ (hst.mono j3) av v.length cv v rfl (by omega)) ?_
 rintro v5 w5 A5 j5 hu5 rfl
 refine zz 10 ?_
 refine zb 18 (b := ((m.chkV v) != 0)) (fun hc6 => ?_) (fun hc6 => ?_)
 ·
  have ht7 : (m.chkV v) ≠ 0 := by simpa using hc6
  refine zz 11 ?_
  refine zr' (v := .tuple #[.slice none 0 0, .slice none 0 0, .int .i64 (m.chkV v)]) ?_
  have hend : m.backV v = _ := bk_chk ht7
  exact ⟨A5.upd, _, rfl, _, _, _, _, _, _, by rw [hend], by rw [hend]; exact rats_nil, by rw [hend]; exact ints_nil⟩
 have ht8 : (m.chkV v) = 0 := by simpa using hc6
 have hm0 : ¬ m.chkV v ≠ 0 := by simpa using ht8
 have hpos := chkV_pos hm0
 have hbg := bk_go hm0
 refine zz 5 ?_
 refine zo 0 A5 ?_
 refine zz 1 ?_
 refine zc A5 (Scores21_c _ _ A5.lt m _ _ _ (h.mono (Le2 j3 j5)) _ _ _ (h2.mono (Le2 j3 j5)) _ _ _ (hst.mono (Le2 j3 j5)) v _ _ _ (hv.mono (Le2 j3 j5)) (by omega) hm0) ?_
 rintro v10 w10 A10 j10 hu10 ⟨adL, lenL, capL, rfl, hRL⟩
 have hlenL := hRL.hlen
 have hcapL := hRL.hcap
 have hbigL := hRL.hbig
 refine zz 14 ?_
 refine zb 27 (b := (((allV m.disc v [] m.states).2) != 0)) (fun hc11 => ?_) (fun hc11 => ?_)
 ·
  have ht12 : ((allV m.disc v [] m.states).2) ≠ 0 := by simpa using hc11
  refine zz 11 ?_
  refine zr' (v := .tuple #[.slice none 0 0, .slice none 0 0, .int .i64 ((allV m.disc v [] m.states).2)]) ?_
  have hend : m.backV v = _ := back_all_err hm0 ht12
  exact ⟨A10.upd, _, rfl, _, _, _, _, _, _, by rw [hend], by rw [hend]; exact rats_nil, by rw [hend]; exact ints_nil⟩
 have ht13 : ((allV m.disc v [] m.states).2) = 0 := by simpa using hc11
 obtain ⟨hrows, hall⟩ := all_rows (m := m) (v := v) (by simpa using ht13)
 rw [hrows, List.length_map] at hlenL
 subst hlenL
 refine zz 20 ?_
 refine zlp Tryz.f13 [] [1, 1, 1, 1, 1, 1, 1, 0, 1, 0] (fun ((k, adv, capv, adi, capi) : Nat × (Option Addr) × Nat × (Option Addr) × Nat) => [(8, .slice adL m.states.length capL), (9, .slice adv k capv), (10, .slice adi k capi), (11, .int .i64 (k : Int))]) (fun ((k, adv, capv, adi, capi) : Nat × (Option Addr) × Nat × (Option Addr) × Nat) w1 => ∃ (Y1 : Hid) (rbv : List (Nat × Obj)) (es : List RE) (rbi : List (Nat × Obj)) (is : List Int), St E0 w X w1 Y1 ((b3, .cells #[.bool m.disc.neg, .slice ad len cap, .slice ae le ce, .slice st m.states.length cs] 28 (0, 0)) :: (rbv ++ rbi)) ∧ Le (rd w10 Y3) (rd w1 Y1) ∧ (TRow 25 3 rbv adv k capv (flat es)) ∧ (TRow 3 1 rbi adi k capi (ivals is)) ∧ (backGo m.disc v (es.map (·.x)) is (m.states.drop k) = backGo m.disc v [] [] m.states) ∧ (∀ e ∈ es, e.ok (rd w1 Y1)) ∧ (k = es.length) ∧ (k = is.length) ∧ (k ≤ m.states.length)) (fun ((k, adv, capv, adi, capi) : Nat × (Option Addr) × Nat × (Option Addr) × Nat) => m.states.length - k) (0, none, 0, none, 0) ?_ ?_
 ·
  refine ⟨_, [], [], [], [], A10, Le.refl _, TRow.nil _ _, TRow.nil _ _, rfl, fun _ h => absurd h (by simp), rfl, rfl, Nat.zero_le _⟩
 rintro ⟨k, adv, capv, adi, capi⟩ w14 K14 G14 ⟨Y14, rbv, es, rbi, is, A14, j14, hp14_0, hp14_1, hp14_2, hp14_3, hp14_4, hp14_5, hp14_6⟩
 have hr1 := hp14_0
 have hr2 := hp14_1
 have hgo := hp14_2
 have hk1 := hp14_3
 have hke := hp14_4
 have hki := hp14_5
 have hkl := hp14_6
 refine zz 9 ?_
 refine zt 32 (p := (k : Int) < (m.states.length : Int)) (fun ht15 => ?_) (fun ht15 => ?_)
 ·
  obtain ⟨bL, offL, rfl⟩ := hRL.addr (by omega)
  obtain ⟨xr, ar1, ar2, ar3, hxr, hAr, hRr⟩ := hRL.at (k := k) (by omega)
  obtain ⟨sx, hxs⟩ : ∃ sx, m.states[k]? = some sx := ⟨m.states[k]'(by omega), List.getElem?_eq_getElem _⟩
  have hxr0 : xr = (scoresV m.disc v sx).1 := by rw [hrows, List.getElem?_map, hxs] at hxr; exact (Option.some.inj hxr).symm
  have hsx := List.mem_of_getElem? hxs
  have hsv0 := hall sx hsx
  have hlen6 := state_len hm0 hsx
  have hrl : xr.length = sx.length := by rw [hxr0, (scoresV_ok hsv0).1, List.length_map]
  have hrpos : 0 < xr.length := by omega
  have hchk : ∀ x ∈ xr, x.chk = 0 := by rw [hxr0]; exact scores_chk hsv0
  obtain rfl := hRr.hlen
  have hcapr := hRr.hcap
  have hbigr := hRr.hbig
  obtain ⟨br, offr, rfl⟩ := rats_addr hRr hrpos
  refine zz 17 ?_
  refine zlp Tryz.f13 [K14] [1, 1, 1, 1, 1, 1, 1, 0, 1, 0, 0, 1, 0, 0, 1, 0, 1, 0] (fun ((j, b) : Nat × Nat) => [(8, .slice (some ⟨bL, offL, none⟩) m.states.length capL), (9, .slice adv k capv), (10, .slice adi k capi), (11, .int .i64 (k : Int)), (12, .int .i64 (b : Int)), (13, .int .i64 (j : Int))]) (fun ((j, b) : Nat × Nat) w1 => ∃ (Y1 : Hid), St E0 w X w1 Y1 ((b3, .cells #[.bool m.disc.neg, .slice ad len cap, .slice ae le ce, .slice st m.states.length cs] 28 (0, 0)) :: (rbv ++ rbi)) ∧ Le (rd w14 Y14) (rd w1 Y1) ∧ (leastL lessB xr b j (xr.drop j) = leastV lessB xr) ∧ (j ≤ xr.length) ∧ (b < xr.length) ∧ (1 ≤ j)) (fun ((j, b) : Nat × Nat) => xr.length - j) (1, 0) ?_ ?_
  ·
   refine ⟨_, A14, Le.refl _, least_from1 hrpos, by omega, hrpos, Nat.le_refl _⟩
  rintro ⟨j, b⟩ w16 K16 G16 ⟨Y16, A16, j16, hp16_0, hp16_1, hp16_2, hp16_3⟩
  have j1 := hp16_0
  have hj1 := hp16_1
  have hb1 := hp16_2
  have hj0 := hp16_3
  refine zz 6 ?_
  refine zi (b := bL) (off := offL) (len := m.states.length) (cap := capL) (kd := .i64) (i := (k : Int)) 1 (offL + k) ?_
  refine zl ((hAr.mono (Le2 j14 j16))).cells ?_
  refine zz 4 ?_
  refine zt 41 (p := (j : Int) < (xr.length : Int)) (fun ht17 => ?_) (fun ht17 => ?_)
  ·
   obtain ⟨xx, anx, lnx, cnx, amx, lmx, cmx, hxx, hAx, hLx, hMx⟩ := hRr.at (k := j) (by omega)
   obtain ⟨xz, anz, lnz, cnz, amz, lmz, cmz, hxz, hAz, hLz, hMz⟩ := hRr.at (k := b) (by omega)
   refine zz 6 ?_
   refine zdraw [0] A16 ?_
   refine gz [0, 1] ?_
   refine gi 2 (b := bL) (off := offL) (len := m.states.length) (cap := capL) (kd := .i64) (i := (k : Int)) 1 (offL + k) ?_
   refine gl 3 ((hAr.mono (Le2 j14 j16))) ?_
   refine gz [4] ?_
   refine gi 5 (b := br) (off := offr) (len := xr.length) (cap := ar3) (kd := .i64) (i := (j : Int)) 3 (offr + j * 3) ?_
   refine gl 6 ((hAx.mono (Le2 j14 j16))) ?_
   refine gz [7, 8] ?_
   refine gi 9 (b := bL) (off := offL) (len := m.states.length) (cap := capL) (kd := .i64) (i := (k : Int)) 1 (offL + k) ?_
   refine gl 10 ((hAr.mono (Le2 j14 j16))) ?_
   refine gz [11] ?_
   refine gi 12 (b := br) (off := offr) (len := xr.length) (cap := ar3) (kd := .i64) (i := (b : Int)) 3 (offr + b * 3) ?_
   refine gl 13 ((hAz.mono (Le2 j14 j16))) ?_
   refine gC 14 (fun w18 Y18 _ A18 j18 => (order6_r _ _ A18.lt xx _ _ _ (hLx.mono (Le3 j14 j16 j18)) _ _ _ (hMx.mono (Le3 j14 j16 j18)) xz _ _ _ (hLz.mono (Le3 j14 j16 j18)) _ _ _ (hMz.mono (Le3 j14 j16 j18)) (hchk xx (List.mem_of_getElem? hxx)) (hchk xz (List.mem_of_getElem? hxz)))) ?_
   rintro v19 w18 Y19 w19 A18 j19 rfl
   refine gz [15] ?_
   refine gend (fun w20 Y20 A20 j20 => ?_)
   refine zz 1 ?_
   refine zt 59 (p := (cmpR xx xz) < 0) (fun ht21 => ?_) (fun ht21 => ?_)
   ·
    refine zz 10 ?_
    refine zw 43 (x := (j : Int) + 1) ?_
    refine zz 2 ?_
    refine znext (fun a h => G16 ((j + 1, j)) _ a h ⟨_, A20, (Le3 j16 j19 j20), by have h9 := (leastL_step (less := lessB) hxx hxz).symm.trans j1; rwa [if_pos (show lessB xx xz = true by unfold lessB; simpa using ht21)] at h9, by omega, by omega, by omega⟩ ?_)
    first | omega | (simp <;> omega)
   refine zz 7 ?_
   refine zw 43 (x := (j : Int) + 1) ?_
   refine zz 2 ?_
   refine znext (fun a h => G16 ((j + 1, b)) _ a h ⟨_, A20, (Le3 j16 j19 j20), by have h9 := (leastL_step (less := lessB) hxx hxz).symm.trans j1; rwa [if_neg (show ¬ lessB xx xz = true by unfold lessB; simpa using ht21)] at h9, by omega, by omega, by omega⟩ ?_)
   first | omega | (simp <;> omega)
  have hbi : b = bestI m.disc v sx := by have h9 := (leastL_end (less := lessB) (xs := xr) (b := b) (k := j) (by omega)).symm.trans j1; rw [h9, hxr0]; rfl
  obtain ⟨xk, ank, lnk, cnk, amk, lmk, cmk, hxk, hAk, hLk, hMk⟩ := hRr.at (k := b) (by omega)
  have hbr : bestR m.disc v sx = xk := by unfold bestR; rw [← hbi, ← hxr0]; exact getD_get hxk
  have hstep : backGo m.disc v (es.map (·.x)) is (m.states.drop k) = _ := backGo_step hxs hsv0
  rw [hbr, ← hbi] at hstep
  refine zz 10 ?_
  refine zi (b := bL) (off := offL) (len := m.states.length) (cap := capL) (kd := .i64) (i := (k : Int)) 1 (offL + k) ?_
  refine zl ((hAr.mono (Le2 j14 j16))).cells ?_
  refine zz 1 ?_
  refine zi (b := br) (off := offr) (len := xr.length) (cap := ar3) (kd := .i64) (i := (b : Int)) 3 (offr + b * 3) ?_
  refine zl ((hAk.mono (Le2 j14 j16))).cells ?_
  refine zn (fun b => .slice (some ⟨b, 0, none⟩) 1 1) (.cells #[.bool xk.neg, .slice ank lnk cnk, .slice amk lmk cmk] 25 (0, 0)) A16 ?_
  intro b23 w23 Y23 A23 j23 hu23
  refine zop (at1 [K14, K16] Tryz.f13 [1, 1, 1, 1, 1, 1, 1, 0, 1, 0, 0, 1, 0, 0, 1, 1]) 9 (fun a24 _ C24 hz24 => op_appZ (b := 56) (m := 1) (c := 1) (ad := ⟨b23, 0, none⟩) (news := [.bool xk.neg, .slice ank lnk cnk, .slice amk lmk cmk]) (i0 := Tryz.t25) (R1 := []) (B := rbi) 2 C24 A23 rfl hr1 (A23.cells 0 rfl rfl) (by omega) (by omega) ?_)
  intro rb25 ad25 cap25 w25 Y25 hrow25 A25 j25 a26 C26
  have hrw25 : TRow 25 3 rb25 ad25 (k + 1) cap25 (flat (es ++ [(RE.mk xk ank lnk cnk amk lmk cmk)])) := by rw [flat_snoc]; exact hrow25
  refine hz24 C26 ?_
  refine zz 2 ?_
  refine zn (fun b => .slice (some ⟨b, 0, none⟩) 1 1) (.cells #[.int .i64 (b : Int)] 3 (0, 0)) A25 ?_
  intro b28 w28 Y28 A28 j28 hu28
  refine zop (at1 [K14, K16] Tryz.f13 [1, 1, 1, 1, 1, 1, 1, 0, 1, 0, 0, 1, 0, 0, 1, 1]) 13 (fun a29 _ C29 hz29 => op_appEZ (b := 8) (m := 1) (c := 1) (ad := ⟨b28, 0, none⟩) (news := [.int .i64 (b : Int)]) (i0 := Tryz.t3) (R1 := rb25) 3 C29 A28 rfl hr2 (A28.cells 0 rfl rfl) (by omega) (by omega) ?_)
  intro rb30 ad30 cap30 w30 Y30 hrow30 A30 j30 a31 C31
  have hrw30 : TRow 3 1 rb30 ad30 (k + 1) cap30 (ivals (is ++ [(b : Int)])) := by rw [ivals_snoc]; exact hrow30
  refine hz29 C31 ?_
  refine zz 8 ?_
  refine zw 34 (x := (k : Int) + 1) ?_
  refine zz 2 ?_
  have hc1_ := (Le4 j16 j23 j25 j28).trans j30
  have hc2_ := (Le5 j14 j16 j23 j25 j28).trans j30
  refine znext (fun a h => G14 ((k + 1, ad25, cap25, ad30, cap30)) _ a h ⟨_, rb25, (es ++ [(RE.mk xk ank lnk cnk amk lmk cmk)]), rb30, (is ++ [(b : Int)]), A30.tail.tail, hc2_, hrw25, hrw30, by rw [List.map_append]; exact hstep.symm.trans hgo, fun e he => by rcases List.mem_append.1 he with h1 | h1; exact (hk1 e h1).mono hc1_; obtain rfl := List.mem_singleton.1 h1; exact ⟨(hLk.mono hc2_), (hMk.mono hc2_)⟩, by rw [List.length_append, ← hke]; rfl, by rw [List.length_append, ← hki]; rfl, by omega⟩ ?_)
  first | omega | (simp <;> omega)
 refine zz 16 ?_
 refine zr' (v := .tuple #[.slice adv k capv, .slice adi k capi, .int .i64 0]) ?_
 have hend : m.backV v = _ := hbg.trans (hgo.symm.trans (backGo_end (by omega)))
 obtain ⟨Y32, hSx32, j32, hRx32⟩ := St.pubRats (A := [(b3, .cells #[.bool m.disc.neg, .slice ad len cap, .slice ae le ce, .slice st m.states.length cs] 28 (0, 0))]) (B := rbi) (fun rb => ((b3, .cells #[.bool m.disc.neg, .slice ad len cap, .slice ae le ce, .slice st m.states.length cs] 28 (0, 0)) :: (rb ++ rbi))) A14 (fun _ => by simp only [List.append_assoc, List.cons_append, List.nil_append, List.append_nil]) hr1 hke (fun e he => (hk1 e he).mono (Le.refl _))
 have A32 : St E0 w X w14 Y32 ((b3, .cells #[.bool m.disc.neg, .slice ad len cap, .slice ae le ce, .slice st m.states.length cs] 28 (0, 0)) :: rbi) := hSx32
 have hR32 : Rats (rd w14 Y32) adv k capv (es.map (·.x)) := by have h9 := hRx32; exact h9
 obtain ⟨Y33, hSx33, j33, hRx33⟩ := St.pubInts (A := [(b3, .cells #[.bool m.disc.neg, .slice ad len cap, .slice ae le ce, .slice st m.states.length cs] 28 (0, 0))]) (B := []) (fun rb => ((b3, .cells #[.bool m.disc.neg, .slice ad len cap, .slice ae le ce, .slice st m.states.length cs] 28 (0, 0)) :: rb)) A32 (fun _ => by simp only [List.append_assoc, List.cons_append, List.nil_append, List.append_nil]) hr2 hki
 have A33 : St E0 w X w14 Y33 [(b3, .cells #[.bool m.disc.neg, .slice ad len cap, .slice ae le ce, .slice st m.states.length cs] 28 (0, 0))] := hSx33
 have hR33 : Ints (rd w14 Y33) adi k capi is := by have h9 := hRx33; exact h9
 exact ⟨A33.upd, _, rfl, _, _, _, _, _, _, by rw [hend], by rw [hend]; exact (hR32.mono j33).mono A33.le, by rw [hend]; exact hR33.mono A33.le⟩
end Go.Proofs.YtoocgllbbihoaaaGreat
namespace Go.Proofs.YtoocgllbbihoaaaGreat
open Go Go.Gv Go.RowKit
set_option maxRecDepth 100000
set_option maxHeartbeats 1000000
theorem CopyRats_c (w : World) (X : Hid) (hX : ∀ k o, X k o → k < w.heap.size) (ad : Option Addr) (len cap : Nat) (xs : List Raw) (h : Rats (rd w X) ad len cap xs) (hm : xs.length * 56 ≤ 140737488351232) (hs : ∀ x ∈ xs, Raw.sh x) : Calls Tryz.prog 10 #[.slice ad len cap] w (Ret E0 w fun w' v => ∃ ad len cap, v = .slice ad len cap ∧ Rats (rd w' X) ad len cap xs) := by
 obtain rfl := h.hlen
 have hcap := h.hcap
 have hbig := h.hbig
 refine zen Tryz.func10 ?_
 have A0 : St E0 w X w X [] := St.start hX
 refine zz 17 ?_
 refine zlp Tryz.f10 [] [1, 1, 0, 1, 0] (fun ((k, adr, capr) : Nat × (Option Addr) × Nat) => [(0, .slice ad xs.length cap), (3, .slice adr k capr), (4, .int .i64 (k : Int))]) (fun ((k, adr, capr) : Nat × (Option Addr) × Nat) w1 => ∃ (Y1 : Hid) (rb1 : List (Nat × Obj)) (es : List (GE Raw)), St E0 w X w1 Y1 (rb1) ∧ Le (rd w X) (rd w1 Y1) ∧ (TRow 25 3 rb1 adr k capr (flatG es)) ∧ (es.map (·.x) = xs.take k) ∧ (∀ e ∈ es, GE.ok RatAt 3 (rd w1 Y1) e) ∧ (k ≤ xs.length)) (fun ((k, adr, capr) : Nat × (Option Addr) × Nat) => xs.length - k) (0, none, 0) ?_ ?_
 ·
  refine ⟨_, [], [], A0, Le.refl _, TRow.nil _ _, rfl, fun _ h => absurd h (by simp), Nat.zero_le _⟩
 rintro ⟨k, adr, capr⟩ w2 K2 G2 ⟨Y2, rb1, es, A2, j2, hp2_0, hp2_1, hp2_2, hp2_3⟩
 have hr1 := hp2_0
 have hq := hp2_1
 have hk1 := hp2_2
 have hkl := hp2_3
 refine zz 9 ?_
 refine zt 8 (p := (k : Int) < (xs.length : Int)) (fun ht3 => ?_) (fun ht3 => ?_)
 ·
  obtain ⟨bx, offx, xx, anx, lnx, cnx, amx, lmx, cmx, rfl, hxx, hAx, hLx, hMx⟩ := h.cell (k := k) (by omega)
  have hlx := hLx.hlen
  have hmx := hMx.hlen
  have hsx := hs xx (List.mem_of_getElem? hxx)
  refine zz 9 ?_
  refine zi (b := bx) (off := offx) (len := xs.length) (cap := cap) (kd := .i64) (i := (k : Int)) 3 (offx + k * 3) ?_
  refine zl ((hAx.mono j2)).cells ?_
  refine zc A2 (CopyRat_c _ _ A2.lt xx _ _ _ (hLx.mono j2) _ _ _ (hMx.mono j2) (by have := hsx.1; omega) (by have := hsx.2; omega)) ?_
  rintro v5 w5 A5 j5 hu5 ⟨ad5, len5, cap5, ae5, le5, ce5, rfl, hN5, hD5⟩
  refine zn (fun b => .slice (some ⟨b, 0, none⟩) 1 1) (.cells #[.bool xx.neg, .slice ad5 len5 cap5, .slice ae5 le5 ce5] 25 (0, 0)) A5 ?_
  intro b7 w7 Y7 A7 j7 hu7
  refine zop (at1 [K2] Tryz.f10 [1, 1, 0, 1, 0, 0, 1, 0, 0]) 7 (fun a8 _ C8 hz8 => op_appEZ (b := 56) (m := 1) (c := 1) (ad := ⟨b7, 0, none⟩) (news := [.bool xx.neg, .slice ad5 len5 cap5, .slice ae5 le5 ce5]) (i0 := Tryz.t25) (R1 := []) 1 C8 A7 rfl hr1 (A7.cells 0 rfl rfl) (by omega) (by omega) ?_)
  intro rb9 ad9 cap9 w9 Y9 hrow9 A9 j9 a10 C10
  have hrw9 : TRow 25 3 rb9 ad9 (k + 1) cap9 (flatG (es ++ [GE.mk xx [.bool xx.neg, .slice ad5 len5 cap5, .slice ae5 le5 ce5]])) := by rw [flatG_snoc]; exact hrow9
  refine hz8 C10 ?_
  refine zz 7 ?_
  refine zw 10 (x := (k : Int) + 1) ?_
  refine zz 2 ?_
  have hc1_ := (Le3 j2 j5 j7).trans j9
  refine znext (fun a h => G2 ((k + 1, ad9, cap9)) _ a h ⟨_, rb9, (es ++ [GE.mk xx [.bool xx.neg, .slice ad5 len5 cap5, .slice ae5 le5 ce5]]), A9.tail, hc1_, hrw9, by rw [List.map_append, hq, take_snoc hxx]; rfl, fun e he => by rcases List.mem_append.1 he with h1 | h1; exact (hk1 e h1).mono (Le3 j5 j7 j9); obtain rfl := List.mem_singleton.1 h1; exact ⟨rfl, fun r2 h2 b o h9 => ⟨_, _, _, _, _, _, h9, (hN5.mono (Le2 j7 j9)).mono h2, (hD5.mono (Le2 j7 j9)).mono h2⟩⟩, by omega⟩ ?_)
  first | omega | (simp <;> omega)
 refine zz 13 ?_
 refine zr' (v := .slice adr k capr) ?_
 have e1 : es.map (·.x) = xs := hq.trans (List.take_of_length_le (by omega))
 have hke : k = es.length := by have := congrArg List.length e1; rw [List.length_map] at this; omega
 obtain ⟨Y11, hSx11, j11, hRx11⟩ := St.pubG (El := RatAt) (A := []) (B := []) (fun rb => (rb)) A2 (fun _ => by simp only [List.append_assoc, List.cons_append, List.nil_append, List.append_nil]) hr1 hke (fun e he => (hk1 e he).mono (Le.refl _))
 have A11 : St E0 w X w2 Y11 [] := hSx11
 have hR11 : SlR RatAt 3 (rd w2 Y11) adr k capr xs := by have h9 := hRx11; rwa [e1] at h9
 exact ⟨A11.upd, _, rfl, _, _, _, rfl, hR11.rats.mono A11.le⟩
theorem CopyOutcome_c (w : World) (X : Hid) (hX : ∀ k o, X k o → k < w.heap.size) (o : Out) (an : Option Addr) (ln cn : Nat) (h : Limbs (rd w X) an ln cn o.p.ln) (am : Option Addr) (lm cm : Nat) (h2 : Limbs (rd w X) am lm cm o.p.ld) (hs : o.sh) : Calls Tryz.prog 149 #[.agg #[.int .i64 o.to, .bool o.p.neg, .slice an ln cn, .slice am lm cm]] w (Ret E0 w fun w' v => ∃ a1 a2 a3 a4 a5 a6, v = .agg #[.int .i64 o.to, .bool o.p.neg, .slice a1 a2 a3, .slice a4 a5 a6] ∧ Limbs (rd w' X) a1 a2 a3 o.p.ln ∧ Limbs (rd w' X) a4 a5 a6 o.p.ld) := by
 refine zen Tryz.func149 ?_
 have A0 : St E0 w X w X [] := St.start hX
 refine zz 2 ?_
 refine zn pn (.cells #[.int .i64 o.to, .bool o.p.neg, .slice an ln cn, .slice am lm cm] 60 (0, 0)) A0 ?_
 intro b3 w3 Y3 A3 j3 hu3
 refine zn pn (.cells #[.int .i64 0, .bool false, .slice none 0 0, .slice none 0 0] 60 (0, 0)) A3 ?_
 intro b5 w5 Y5 A5 j5 hu5
 refine zz 3 ?_
 refine zdr A5 ?_
 refine gz [0] ?_
 refine gw 1 1 ?_
 refine gz [2] ?_
 refine gw 3 1 ?_
 refine gC 4 (fun w6 Y6 _ A6 j6 => (CopyRat_c _ _ A6.lt o.p _ _ _ (h.mono (Le3 j3 j5 j6)) _ _ _ (h2.mono (Le3 j3 j5 j6)) (by have := hs.1; have := h.hlen; omega) (by have := hs.2; have := h2.hlen; omega))) ?_
 rintro v7 w6 Y7 w7 A6 j7 ⟨ad7, len7, cap7, ae7, le7, ce7, rfl, hN7, hD7⟩
 refine gz [5] ?_
 refine gX 6 0 #[.int .i64 o.to, .bool o.p.neg, .slice ad7 len7 cap7, .slice ae7 le7 ce7] ?_
 intro w8 Y8 j8
 refine gend (fun w9 Y9 A9 j9 => ?_)
 refine zz 2 ?_
 refine zrS [.cell 2 60] (v := .agg #[.int .i64 o.to, .bool o.p.neg, .slice ad7 len7 cap7, .slice ae7 le7 ce7]) (Res.cM A9 0 Res.nil) ?_
 exact ⟨A9.upd, _, rfl, _, _, _, _, _, _, rfl, ((hN7.mono (Le2 j8 j9))).mono A9.le, ((hD7.mono (Le2 j8 j9))).mono A9.le⟩
theorem CopyOutcomes_c (w : World) (X : Hid) (hX : ∀ k o, X k o → k < w.heap.size) (ad : Option Addr) (len cap : Nat) (xs : List Out) (h : OutsR (rd w X) ad len cap xs) (hm : xs.length * 64 ≤ 140737488351232) (hs : ∀ x ∈ xs, Out.sh x) : Calls Tryz.prog 131 #[.slice ad len cap] w (Ret E0 w fun w' v => ∃ ad len cap, v = .slice ad len cap ∧ OutsR (rd w' X) ad len cap xs) := by
 obtain rfl := h.hlen
 have hcap := h.hcap
 have hbig := h.hbig
 refine zen Tryz.func131 ?_
 have A0 : St E0 w X w X [] := St.start hX
 refine zz 17 ?_
 refine zlp Tryz.f131 [] [1, 1, 0, 1, 0] (fun ((k, adr, capr) : Nat × (Option Addr) × Nat) => [(0, .slice ad xs.length cap), (3, .slice adr k capr), (4, .int .i64 (k : Int))]) (fun ((k, adr, capr) : Nat × (Option Addr) × Nat) w1 => ∃ (Y1 : Hid) (rb1 : List (Nat × Obj)) (es : List (GE Out)), St E0 w X w1 Y1 (rb1) ∧ Le (rd w X) (rd w1 Y1) ∧ (TRow 60 4 rb1 adr k capr (flatG es)) ∧ (es.map (·.x) = xs.take k) ∧ (∀ e ∈ es, GE.ok OutAt 4 (rd w1 Y1) e) ∧ (k ≤ xs.length)) (fun ((k, adr, capr) : Nat × (Option Addr) × Nat) => xs.length - k) (0, none, 0) ?_ ?_
 ·
  refine ⟨_, [], [], A0, Le.refl _, TRow.nil _ _, rfl, fun _ h => absurd h (by simp), Nat.zero_le _⟩
 rintro ⟨k, adr, capr⟩ w2 K2 G2 ⟨Y2, rb1, es, A2, j2, hp2_0, hp2_1, hp2_2, hp2_3⟩
 have hr1 := hp2_0
 have hq := hp2_1
 have hk1 := hp2_2
 have hkl := hp2_3
 refine zz 9 ?_
 refine zt 8 (p := (k : Int) < (xs.length : Int)) (fun ht3 => ?_) (fun ht3 => ?_)
 ·
  obtain ⟨bo, offo, rfl⟩ := h.addr (by omega)
  obtain ⟨ox, anx, lnx, cnx, amx, lmx, cmx, hxx, hAx, hLx, hMx⟩ := h.at (k := k) (by omega)
  have hsx := hs ox (List.mem_of_getElem? hxx)
  refine zz 9 ?_
  refine zi (b := bo) (off := offo) (len := xs.length) (cap := cap) (kd := .i64) (i := (k : Int)) 4 (offo + k * 4) ?_
  refine zl ((hAx.mono j2)).cells ?_
  refine zc A2 (CopyOutcome_c _ _ A2.lt ox _ _ _ (hLx.mono j2) _ _ _ (hMx.mono j2) hsx) ?_
  rintro v5 w5 A5 j5 hu5 ⟨ad5, len5, cap5, ae5, le5, ce5, rfl, hN5, hD5⟩
  refine zn (fun b => .slice (some ⟨b, 0, none⟩) 1 1) (.cells #[.int .i64 ox.to, .bool ox.p.neg, .slice ad5 len5 cap5, .slice ae5 le5 ce5] 60 (0, 0)) A5 ?_
  intro b7 w7 Y7 A7 j7 hu7
  refine zop (at1 [K2] Tryz.f131 [1, 1, 0, 1, 0, 0, 1, 0, 0]) 7 (fun a8 _ C8 hz8 => op_appEZ (b := 64) (m := 1) (c := 1) (ad := ⟨b7, 0, none⟩) (news := [.int .i64 ox.to, .bool ox.p.neg, .slice ad5 len5 cap5, .slice ae5 le5 ce5]) (i0 := Tryz.t60) (R1 := []) 1 C8 A7 rfl hr1 (A7.cells 0 rfl rfl) (by omega) (by omega) ?_)
  intro rb9 ad9 cap9 w9 Y9 hrow9 A9 j9 a10 C10
  have hrw9 : TRow 60 4 rb9 ad9 (k + 1) cap9 (flatG (es ++ [GE.mk ox [.int .i64 ox.to, .bool ox.p.neg, .slice ad5 len5 cap5, .slice ae5 le5 ce5]])) := by rw [flatG_snoc]; exact hrow9
  refine hz8 C10 ?_
  refine zz 7 ?_
  refine zw 10 (x := (k : Int) + 1) ?_
  refine zz 2 ?_
  have hc1_ := (Le3 j2 j5 j7).trans j9
  refine znext (fun a h => G2 ((k + 1, ad9, cap9)) _ a h ⟨_, rb9, (es ++ [GE.mk ox [.int .i64 ox.to, .bool ox.p.neg, .slice ad5 len5 cap5, .slice ae5 le5 ce5]]), A9.tail, hc1_, hrw9, by rw [List.map_append, hq, take_snoc hxx]; rfl, fun e he => by rcases List.mem_append.1 he with h1 | h1; exact (hk1 e h1).mono (Le3 j5 j7 j9); obtain rfl := List.mem_singleton.1 h1; exact ⟨rfl, fun r2 h2 b o h9 => ⟨_, _, _, _, _, _, h9, (hN5.mono (Le2 j7 j9)).mono h2, (hD5.mono (Le2 j7 j9)).mono h2⟩⟩, by omega⟩ ?_)
  first | omega | (simp <;> omega)
 refine zz 13 ?_
 refine zr' (v := .slice adr k capr) ?_
 have e1 : es.map (·.x) = xs := hq.trans (List.take_of_length_le (by omega))
 have hke : k = es.length := by have := congrArg List.length e1; rw [List.length_map] at this; omega
 obtain ⟨Y11, hSx11, j11, hRx11⟩ := St.pubG (El := OutAt) (A := []) (B := []) (fun rb => (rb)) A2 (fun _ => by simp only [List.append_assoc, List.cons_append, List.nil_append, List.append_nil]) hr1 hke (fun e he => (hk1 e he).mono (Le.refl _))
 have A11 : St E0 w X w2 Y11 [] := hSx11
 have hR11 : OutsR (rd w2 Y11) adr k capr xs := by have h9 := hRx11; rwa [e1] at h9
 exact ⟨A11.upd, _, rfl, _, _, _, rfl, hR11.mono A11.le⟩
theorem CopyAction_c (w : World) (X : Hid) (hX : ∀ k o, X k o → k < w.heap.size) (a : Actn) (an : Option Addr) (ln cn : Nat) (h : Limbs (rd w X) an ln cn a.cost.ln) (am : Option Addr) (lm cm : Nat) (h2 : Limbs (rd w X) am lm cm a.cost.ld) (nx : Option Addr) (lx cx : Nat) (h3 : OutsR (rd w X) nx lx cx a.next) (hs : a.sh) : Calls Tryz.prog 98 #[.agg #[.bool a.cost.neg, .slice an ln cn, .slice am lm cm, .slice nx lx cx]] w (Ret E0 w fun w' v => ∃ a1 a2 a3 a4 a5 a6 a7 a8 a9, v = .agg #[.bool a.cost.neg, .slice a1 a2 a3, .slice a4 a5 a6, .slice a7 a8 a9] ∧ Limbs (rd w' X) a1 a2 a3 a.cost.ln ∧ Limbs (rd w' X) a4 a5 a6 a.cost.ld ∧ OutsR (rd w' X) a7 a8 a9 a.next) := by
 refine zen Tryz.func98 ?_
 have A0 : St E0 w X w X [] := St.start hX
 refine zz 2 ?_
 refine zn pn (.cells #[.bool a.cost.neg, .slice an ln cn, .slice am lm cm, .slice nx lx cx] 63 (0, 0)) A0 ?_
 intro b3 w3 Y3 A3 j3 hu3
 refine zn pn (.cells #[.bool false, .slice none 0 0, .slice none 0 0, .slice none 0 0] 63 (0, 0)) A3 ?_
 intro b5 w5 Y5 A5 j5 hu5
 refine zz 3 ?_
 refine zdr A5 ?_
 refine gz [0] ?_
 refine gw 1 1 ?_
 refine gz [3] ?_
 refine gw 4 1 ?_
 refine gC 2 (fun w6 Y6 _ A6 j6 => (CopyRat_c _ _ A6.lt a.cost _ _ _ (h.mono (Le3 j3 j5 j6)) _ _ _ (h2.mono (Le3 j3 j5 j6)) (by have := hs.1.1; have := h.hlen; omega) (by have := hs.1.2; have := h2.hlen; omega))) ?_
 rintro v7 w6 Y7 w7 A6 j7 ⟨ad7, len7, cap7, ae7, le7, ce7, rfl, hN7, hD7⟩
 have hc1_ := (Le2 j3 j5).trans j7
 refine gC 5 (fun w8 Y8 _ A8 j8 => (CopyOutcomes_c _ _ A8.lt _ _ _ a.next (h3.mono (hc1_.trans j8)) hs.2.1 hs.2.2)) ?_
 rintro v9 w8 Y9 w9 A8 j9 ⟨ad9, len9, cap9, rfl, hN9⟩
 refine gz [6] ?_
 refine gX 7 0 #[.bool a.cost.neg, .slice ad7 len7 cap7, .slice ae7 le7 ce7, .slice ad9 len9 cap9] ?_
 intro w10 Y10 j10
 refine gend (fun w11 Y11 A11 j11 => ?_)
 refine zz 2 ?_
 refine zrS [.cell 2 63] (v := .agg #[.bool a.cost.neg, .slice ad7 len7 cap7, .slice ae7 le7 ce7, .slice ad9 len9 cap9]) (Res.cM A11 0 Res.nil) ?_
 exact ⟨A11.upd, _, rfl, _, _, _, _, _, _, _, _, _, rfl, ((hN7.mono (Le3 j9 j10 j11))).mono A11.le, ((hD7.mono (Le3 j9 j10 j11))).mono A11.le, ((hN9.mono (Le2 j10 j11))).mono A11.le⟩
theorem CopyActions_c (w : World) (X : Hid) (hX : ∀ k o, X k o → k < w.heap.size) (ad : Option Addr) (len cap : Nat) (xs : List Actn) (h : ActsR (rd w X) ad len cap xs) (hm : xs.length * 80 ≤ 140737488351232) (hs : ∀ x ∈ xs, Actn.sh x) : Calls Tryz.prog 66 #[.slice ad len cap] w (Ret E0 w fun w' v => ∃ ad len cap, v = .slice ad len cap ∧ ActsR (rd w' X) ad len cap xs) := by
 obtain rfl := h.hlen
 have hcap := h.hcap
 have hbig := h.hbig
 refine zen Tryz.func66 ?_
 have A0 : St E0 w X w X [] := St.start hX
 refine zz 17 ?_
 refine zlp Tryz.f66 [] [1, 1, 0, 1, 0] (fun ((k, adr, capr) : Nat × (Option Addr) × Nat) => [(0, .slice ad xs.length cap), (3, .slice adr k capr), (4, .int .i64 (k : Int))]) (fun ((k, adr, capr) : Nat × (Option Addr) × Nat) w1 => ∃ (Y1 : Hid) (rb1 : List (Nat × Obj)) (es : List (GE Actn)), St E0 w X w1 Y1 (rb1) ∧ Le (rd w X) (rd w1 Y1) ∧ (TRow 63 4 rb1 adr k capr (flatG es)) ∧ (es.map (·.x) = xs.take k) ∧ (∀ e ∈ es, GE.ok ActAt 4 (rd w1 Y1) e) ∧ (k ≤ xs.length)) (fun ((k, adr, capr) : Nat × (Option Addr) × Nat) => xs.length - k) (0, none, 0) ?_ ?_
 ·
  refine ⟨_, [], [], A0, Le.refl _, TRow.nil _ _, rfl, fun _ h => absurd h (by simp), Nat.zero_le _⟩
 rintro ⟨k, adr, capr⟩ w2 K2 G2 ⟨Y2, rb1, es, A2, j2, hp2_0, hp2_1, hp2_2, hp2_3⟩
 have hr1 := hp2_0
 have hq := hp2_1
 have hk1 := hp2_2
 have hkl := hp2_3
 refine zz 9 ?_
 refine zt 8 (p := (k : Int) < (xs.length : Int)) (fun ht3 => ?_) (fun ht3 => ?_)
 ·
  obtain ⟨bo, offo, rfl⟩ := h.addr (by omega)
  obtain ⟨ax, a1x, a2x, a3x, a4x, a5x, a6x, a7x, a8x, a9x, hxx, hAx, hLx, hMx, hOx⟩ := h.at (k := k) (by omega)
  have hsx := hs ax (List.mem_of_getElem? hxx)
  refine zz 9 ?_
  refine zi (b := bo) (off := offo) (len := xs.length) (cap := cap) (kd := .i64) (i := (k : Int)) 4 (offo + k * 4) ?_
  refine zl ((hAx.mono j2)).cells ?_
  refine zc A2 (CopyAction_c _ _ A2.lt ax _ _ _ (hLx.mono j2) _ _ _ (hMx.mono j2) _ _ _ (hOx.mono j2) hsx) ?_
  rintro v5 w5 A5 j5 hu5 ⟨ad5, len5, cap5, ae5, le5, ce5, af5, lf5, cf5, rfl, hN5, hD5, hO5⟩
  refine zn (fun b => .slice (some ⟨b, 0, none⟩) 1 1) (.cells #[.bool ax.cost.neg, .slice ad5 len5 cap5, .slice ae5 le5 ce5, .slice af5 lf5 cf5] 63 (0, 0)) A5 ?_
  intro b7 w7 Y7 A7 j7 hu7
  refine zop (at1 [K2] Tryz.f66 [1, 1, 0, 1, 0, 0, 1, 0, 0]) 7 (fun a8 _ C8 hz8 => op_appEZ (b := 80) (m := 1) (c := 1) (ad := ⟨b7, 0, none⟩) (news := [.bool ax.cost.neg, .slice ad5 len5 cap5, .slice ae5 le5 ce5, .slice af5 lf5 cf5]) (i0 := Tryz.t63) (R1 := []) 1 C8 A7 rfl hr1 (A7.cells 0 rfl rfl) (by omega) (by omega) ?_)
  intro rb9 ad9 cap9 w9 Y9 hrow9 A9 j9 a10 C10
  have hrw9 : TRow 63 4 rb9 ad9 (k + 1) cap9 (flatG (es ++ [GE.mk ax [.bool ax.cost.neg, .slice ad5 len5 cap5, .slice ae5 le5 ce5, .slice af5 lf5 cf5]])) := by rw [flatG_snoc]; exact hrow9
  refine hz8 C10 ?_
  refine zz 7 ?_
  refine zw 10 (x := (k : Int) + 1) ?_
  refine zz 2 ?_
  have hc1_ := (Le3 j2 j5 j7).trans j9
  refine znext (fun a h => G2 ((k + 1, ad9, cap9)) _ a h ⟨_, rb9, (es ++ [GE.mk ax [.bool ax.cost.neg, .slice ad5 len5 cap5, .slice ae5 le5 ce5, .slice af5 lf5 cf5]]), A9.tail, hc1_, hrw9, by rw [List.map_append, hq, take_snoc hxx]; rfl, fun e he => by rcases List.mem_append.1 he with h1 | h1; exact (hk1 e h1).mono (Le3 j5 j7 j9); obtain rfl := List.mem_singleton.1 h1; exact ⟨rfl, fun r2 h2 b o h9 => ⟨_, _, _, _, _, _, _, _, _, h9, (hN5.mono (Le2 j7 j9)).mono h2, (hD5.mono (Le2 j7 j9)).mono h2, (hO5.mono (Le2 j7 j9)).mono h2⟩⟩, by omega⟩ ?_)
  first | omega | (simp <;> omega)
 refine zz 13 ?_
 refine zr' (v := .slice adr k capr) ?_
 have e1 : es.map (·.x) = xs := hq.trans (List.take_of_length_le (by omega))
 have hke : k = es.length := by have := congrArg List.length e1; rw [List.length_map] at this; omega
 obtain ⟨Y11, hSx11, j11, hRx11⟩ := St.pubG (El := ActAt) (A := []) (B := []) (fun rb => (rb)) A2 (fun _ => by simp only [List.append_assoc, List.cons_append, List.nil_append, List.append_nil]) hr1 hke (fun e he => (hk1 e he).mono (Le.refl _))
 have A11 : St E0 w X w2 Y11 [] := hSx11
 have hR11 : ActsR (rd w2 Y11) adr k capr xs := by have h9 := hRx11; rwa [e1] at h9
 exact ⟨A11.upd, _, rfl, _, _, _, rfl, hR11.mono A11.le⟩
theorem CopyStates_c (w : World) (X : Hid) (hX : ∀ k o, X k o → k < w.heap.size) (ad : Option Addr) (len cap : Nat) (xs : List (List Actn)) (h : StatesR (rd w X) ad len cap xs) (hm : xs.length * 24 ≤ 140737488351232) (hs : ∀ x ∈ xs, stSh x) : Calls Tryz.prog 37 #[.slice ad len cap] w (Ret E0 w fun w' v => ∃ ad len cap, v = .slice ad len cap ∧ StatesR (rd w' X) ad len cap xs) := by
 obtain rfl := h.hlen
 have hcap := h.hcap
 have hbig := h.hbig
 refine zen Tryz.func37 ?_
 have A0 : St E0 w X w X [] := St.start hX
 refine zz 17 ?_
 refine zlp Tryz.f37 [] [1, 1, 0, 1, 0] (fun ((k, adr, capr) : Nat × (Option Addr) × Nat) => [(0, .slice ad xs.length cap), (3, .slice adr k capr), (4, .int .i64 (k : Int))]) (fun ((k, adr, capr) : Nat × (Option Addr) × Nat) w1 => ∃ (Y1 : Hid) (rb1 : List (Nat × Obj)) (es : List (GE (List Actn))), St E0 w X w1 Y1 (rb1) ∧ Le (rd w X) (rd w1 Y1) ∧ (TRow 64 1 rb1 adr k capr (flatG es)) ∧ (es.map (·.x) = xs.take k) ∧ (∀ e ∈ es, GE.ok StateAt 1 (rd w1 Y1) e) ∧ (k ≤ xs.length)) (fun ((k, adr, capr) : Nat × (Option Addr) × Nat) => xs.length - k) (0, none, 0) ?_ ?_
 ·
  refine ⟨_, [], [], A0, Le.refl _, TRow.nil _ _, rfl, fun _ h => absurd h (by simp), Nat.zero_le _⟩
 rintro ⟨k, adr, capr⟩ w2 K2 G2 ⟨Y2, rb1, es, A2, j2, hp2_0, hp2_1, hp2_2, hp2_3⟩
 have hr1 := hp2_0
 have hq := hp2_1
 have hk1 := hp2_2
 have hkl := hp2_3
 refine zz 9 ?_
 refine zt 8 (p := (k : Int) < (xs.length : Int)) (fun ht3 => ?_) (fun ht3 => ?_)
 ·
  obtain ⟨bo, offo, rfl⟩ := h.addr (by omega)
  obtain ⟨sx, a1x, a2x, a3x, hxx, hAx, hSx⟩ := StateAt.cell h (k := k) (by omega)
  have hsx := hs sx (List.mem_of_getElem? hxx)
  refine zz 9 ?_
  refine zi (b := bo) (off := offo) (len := xs.length) (cap := cap) (kd := .i64) (i := (k : Int)) 1 (offo + k) ?_
  refine zl ((hAx.mono j2)).cells ?_
  refine zc A2 (CopyActions_c _ _ A2.lt _ _ _ sx (hSx.mono j2) hsx.1 hsx.2) ?_
  rintro v5 w5 A5 j5 hu5 ⟨ad5, len5, cap5, rfl, hN5⟩
  refine zn (fun b => .slice (some ⟨b, 0, none⟩) 1 1) (.cells #[.slice ad5 len5 cap5] 64 (0, 0)) A5 ?_
  intro b7 w7 Y7 A7 j7 hu7
  refine zop (at1 [K2] Tryz.f37 [1, 1, 0, 1, 0, 0, 1, 0, 0]) 7 (fun a8 _ C8 hz8 => op_appEZ (b := 24) (m := 1) (c := 1) (ad := ⟨b7, 0, none⟩) (news := [.slice ad5 len5 cap5]) (i0 := Tryz.t64) (R1 := []) 1 C8 A7 rfl hr1 (A7.cells 0 rfl rfl) (by omega) (by omega) ?_)
  intro rb9 ad9 cap9 w9 Y9 hrow9 A9 j9 a10 C10
  have hrw9 : TRow 64 1 rb9 ad9 (k + 1) cap9 (flatG (es ++ [GE.mk sx [.slice ad5 len5 cap5]])) := by rw [flatG_snoc]; exact hrow9
  refine hz8 C10 ?_
  refine zz 7 ?_
  refine zw 10 (x := (k : Int) + 1) ?_
  refine zz 2 ?_
  have hc1_ := (Le3 j2 j5 j7).trans j9
  refine znext (fun a h => G2 ((k + 1, ad9, cap9)) _ a h ⟨_, rb9, (es ++ [GE.mk sx [.slice ad5 len5 cap5]]), A9.tail, hc1_, hrw9, by rw [List.map_append, hq, take_snoc hxx]; rfl, fun e he => by rcases List.mem_append.1 he with h1 | h1; exact (hk1 e h1).mono (Le3 j5 j7 j9); obtain rfl := List.mem_singleton.1 h1; exact ⟨rfl, fun r2 h2 b o h9 => ⟨_, _, _, h9, (hN5.mono (Le2 j7 j9)).mono h2⟩⟩, by omega⟩ ?_)
  first | omega | (simp <;> omega)
 refine zz 13 ?_
 refine zr' (v := .slice adr k capr) ?_
 have e1 : es.map (·.x) = xs := hq.trans (List.take_of_length_le (by omega))
 have hke : k = es.length := by have := congrArg List.length e1; rw [List.length_map] at this; omega
 obtain ⟨Y11, hSx11, j11, hRx11⟩ := St.pubG (El := StateAt) (A := []) (B := []) (fun rb => (rb)) A2 (fun _ => by simp only [List.append_assoc, List.cons_append, List.nil_append, List.append_nil]) hr1 hke (fun e he => (hk1 e he).mono (Le.refl _))
 have A11 : St E0 w X w2 Y11 [] := hSx11
 have hR11 : StatesR (rd w2 Y11) adr k capr xs := by have h9 := hRx11; rwa [e1] at h9
 exact ⟨A11.upd, _, rfl, _, _, _, rfl, hR11.mono A11.le⟩
theorem CopyMDP_c (w : World) (X : Hid) (hX : ∀ k o, X k o → k < w.heap.size) (m : Mdp) (ad : Option Addr) (len cap : Nat) (h : Limbs (rd w X) ad len cap m.disc.ln) (ae : Option Addr) (le ce : Nat) (h2 : Limbs (rd w X) ae le ce m.disc.ld) (st : Option Addr) (ls cs : Nat) (hst : StatesR (rd w X) st ls cs m.states) (hsm : m.sh) : Calls Tryz.prog 9 #[.agg #[.bool m.disc.neg, .slice ad len cap, .slice ae le ce, .slice st ls cs]] w (Ret E0 w fun w' v => ∃ a1 a2 a3 a4 a5 a6 a7 a8 a9, v = .agg #[.bool m.disc.neg, .slice a1 a2 a3, .slice a4 a5 a6, .slice a7 a8 a9] ∧ Limbs (rd w' X) a1 a2 a3 m.disc.ln ∧ Limbs (rd w' X) a4 a5 a6 m.disc.ld ∧ StatesR (rd w' X) a7 a8 a9 m.states) := by
 obtain rfl := hst.hlen
 refine zen Tryz.func9 ?_
 have A0 : St E0 w X w X [] := St.start hX
 refine zz 2 ?_
 refine zn pn (.cells #[.bool m.disc.neg, .slice ad len cap, .slice ae le ce, .slice st m.states.length cs] 28 (0, 0)) A0 ?_
 intro b3 w3 Y3 A3 j3 hu3
 refine zn pn (.cells #[.bool false, .slice none 0 0, .slice none 0 0, .slice none 0 0] 28 (0, 0)) A3 ?_
 intro b5 w5 Y5 A5 j5 hu5
 refine zz 3 ?_
 refine zdr A5 ?_
 refine gz [0] ?_
 refine gw 1 1 ?_
 refine gz [3] ?_
 refine gw 4 1 ?_
 refine gC 2 (fun w6 Y6 _ A6 j6 => (CopyRat_c _ _ A6.lt m.disc _ _ _ (h.mono (Le3 j3 j5 j6)) _ _ _ (h2.mono (Le3 j3 j5 j6)) (by have := hsm.1.1; have := h.hlen; omega) (by have := hsm.1.2; have := h2.hlen; omega))) ?_
 rintro v7 w6 Y7 w7 A6 j7 ⟨ad7, len7, cap7, ae7, le7, ce7, rfl, hN7, hD7⟩
 have hc1_ := (Le2 j3 j5).trans j7
 refine gC 5 (fun w8 Y8 _ A8 j8 => (CopyStates_c _ _ A8.lt _ _ _ m.states (hst.mono (hc1_.trans j8)) hsm.2.1 hsm.2.2)) ?_
 rintro v9 w8 Y9 w9 A8 j9 ⟨ad9, len9, cap9, rfl, hN9⟩
 refine gz [6] ?_
 refine gX 7 0 #[.bool m.disc.neg, .slice ad7 len7 cap7, .slice ae7 le7 ce7, .slice ad9 len9 cap9] ?_
 intro w10 Y10 j10
 refine gend (fun w11 Y11 A11 j11 => ?_)
 refine zz 2 ?_
 refine zrS [.cell 2 28] (v := .agg #[.bool m.disc.neg, .slice ad7 len7 cap7, .slice ae7 le7 ce7, .slice ad9 len9 cap9]) (Res.cM A11 0 Res.nil) ?_
 exact ⟨A11.upd, _, rfl, _, _, _, _, _, _, _, _, _, rfl, ((hN7.mono (Le3 j9 j10 j11))).mono A11.le, ((hD7.mono (Le3 j9 j10 j11))).mono A11.le, ((hN9.mono (Le2 j10 j11))).mono A11.le⟩
theorem CopyInts_c (w : World) (X : Hid) (hX : ∀ k o, X k o → k < w.heap.size) (ad : Option Addr) (len cap : Nat) (xs : List Int) (h : Ints (rd w X) ad len cap xs) (hm : xs.length * 8 ≤ 140737488351232) : Calls Tryz.prog 11 #[.slice ad len cap] w (Ret E0 w fun w' v => ∃ ad len cap, v = .slice ad len cap ∧ Ints (rd w' X) ad len cap xs) := by
 obtain rfl := h.hlen
 have hcap := h.hcap
 have hbig := h.hbig
 refine zen Tryz.func11 ?_
 have A0 : St E0 w X w X [] := St.start hX
 refine zz 17 ?_
 refine zlp Tryz.f11 [] [1, 1, 0, 1, 0] (fun ((k, adr, capr) : Nat × (Option Addr) × Nat) => [(0, .slice ad xs.length cap), (3, .slice adr k capr), (4, .int .i64 (k : Int))]) (fun ((k, adr, capr) : Nat × (Option Addr) × Nat) w1 => ∃ (Y1 : Hid) (rb1 : List (Nat × Obj)), St E0 w X w1 Y1 (rb1) ∧ Le (rd w X) (rd w1 Y1) ∧ (TRow 3 1 rb1 adr k capr (ivals (xs.take k))) ∧ (k ≤ xs.length)) (fun ((k, adr, capr) : Nat × (Option Addr) × Nat) => xs.length - k) (0, none, 0) ?_ ?_
 ·
  refine ⟨_, [], A0, Le.refl _, TRow.nil _ _, Nat.zero_le _⟩
 rintro ⟨k, adr, capr⟩ w2 K2 G2 ⟨Y2, rb1, A2, j2, hp2_0, hp2_1⟩
 have hr1 := hp2_0
 have hkl := hp2_1
 refine zz 9 ?_
 refine zt 8 (p := (k : Int) < (xs.length : Int)) (fun ht3 => ?_) (fun ht3 => ?_)
 ·
  obtain ⟨b1, off1, rfl⟩ := h.addr (by omega)
  obtain ⟨x1, hx1, hA1⟩ := h.at (k := k) (by omega)
  have hB1 : At (rd w X) ⟨b1, off1 + k, none⟩ [.int .i64 x1] := by have h9 := hA1; unfold IntAt at h9; simpa using h9
  refine zz 9 ?_
  refine zi (b := b1) (off := off1) (len := xs.length) (cap := cap) (kd := .i64) (i := (k : Int)) 1 (off1 + k) ?_
  refine zl ((hB1.mono j2)).cells ?_
  refine zn (fun b => .slice (some ⟨b, 0, none⟩) 1 1) (.cells #[.int .i64 x1] 3 (0, 0)) A2 ?_
  intro b5 w5 Y5 A5 j5 hu5
  refine zop (at1 [K2] Tryz.f11 [1, 1, 0, 1, 0, 0, 1, 0, 0]) 6 (fun a6 _ C6 hz6 => op_appEZ (b := 8) (m := 1) (c := 1) (ad := ⟨b5, 0, none⟩) (news := [.int .i64 x1]) (i0 := Tryz.t3) (R1 := []) 1 C6 A5 rfl hr1 (A5.cells 0 rfl rfl) (by omega) (by omega) ?_)
  intro rb7 ad7 cap7 w7 Y7 hrow7 A7 j7 a8 C8
  have hrw7 : TRow 3 1 rb7 ad7 (k + 1) cap7 (ivals ((xs.take k) ++ [x1])) := by rw [ivals_snoc]; exact hrow7
  refine hz6 C8 ?_
  refine zz 7 ?_
  refine zw 10 (x := (k : Int) + 1) ?_
  refine zz 2 ?_
  refine znext (fun a h => G2 ((k + 1, ad7, cap7)) _ a h ⟨_, rb7, A7.tail, (Le3 j2 j5 j7), by rw [take_snoc hx1]; exact hrw7, by omega⟩ ?_)
  first | omega | (simp <;> omega)
 refine zz 13 ?_
 refine zr' (v := .slice adr k capr) ?_
 have htk : xs.take k = xs := List.take_of_length_le (by omega)
 have hkk : k = (xs.take k).length := by rw [htk]; omega
 obtain ⟨Y9, hSx9, j9, hRx9⟩ := St.pubInts (A := []) (B := []) (fun rb => (rb)) A2 (fun _ => by simp only [List.append_assoc, List.cons_append, List.nil_append, List.append_nil]) hr1 hkk
 have A9 : St E0 w X w2 Y9 [] := hSx9
 have hR9 : Ints (rd w2 Y9) adr k capr xs := by have h9 := hRx9; rwa [htk] at h9
 exact ⟨A9.upd, _, rfl, _, _, _, rfl, hR9.mono A9.le⟩
end Go.Proofs.YtoocgllbbihoaaaGreat
namespace Go.Proofs.YtoocgllbbihoaaaGreat
open Go Go.Gv Go.RowKit
set_option maxRecDepth 100000
set_option maxHeartbeats 1000000
theorem OverLimbs_c (w : World) (N : Nat) (hN : N ≤ w.heap.size) (ad : Option Addr) (len cap : Nat) (h : UC .u32 w N ad len) (hb : len ≤ 9223372036854775807) : Calls Tryz.prog 87 #[.slice ad len cap] w (fun e w' => ∃ v, e = .returned v ∧ (v = .tuple #[] ∧ Ov N w w')) := by
 refine zen Tryz.func87 ?_
 have A0 : St E0 w X0 w X0 [] := St.start (X0_lt _)
 refine zz 6 ?_
 refine zlp Tryz.f87 [] [1, 0] (fun (k : Nat) => [(0, .slice ad len cap), (2, .int .i64 (k : Int))]) (fun (k : Nat) w1 => Ov N w w1 ∧ k ≤ len) (fun k => len - k) 0 ⟨Ov.refl _ _, Nat.zero_le _⟩ ?_
 rintro k w2 K2 G2 ⟨hO2, hkl⟩
 refine zz 9 ?_
 refine zt 6 (p := (k : Int) < (len : Int)) (fun ht3 => ?_) (fun ht3 => ?_)
 ·
  obtain ⟨blk, off, x, rfl, hNb, hc, hf⟩ := (h.up hO2) k (by omega)
  refine zz 8 ?_
  refine zi (b := blk) (off := off) (len := len) (cap := cap) (kd := .i64) (i := (k : Int)) 1 (off + k) ?_
  refine zst (y := .int .u32 77) hc hf ?_
  refine zz 6 ?_
  refine zw 8 (x := (k : Int) + 1) ?_
  refine zz 2 ?_
  refine znext (fun a h => G2 (k + 1) _ a h ⟨hO2.trans (Ov.set hc hNb), by omega⟩ ?_)
  first | omega | (simp <;> omega)
 refine zz 5 ?_
 refine zr' (v := .tuple #[]) ?_
 exact ⟨_, rfl, rfl, hO2⟩
theorem OverInts_c (w : World) (N : Nat) (hN : N ≤ w.heap.size) (ad : Option Addr) (len cap : Nat) (h : UC .i64 w N ad len) (hb : len ≤ 9223372036854775807) : Calls Tryz.prog 26 #[.slice ad len cap] w (fun e w' => ∃ v, e = .returned v ∧ (v = .tuple #[] ∧ Ov N w w')) := by
 refine zen Tryz.func26 ?_
 have A0 : St E0 w X0 w X0 [] := St.start (X0_lt _)
 refine zz 6 ?_
 refine zlp Tryz.f26 [] [1, 0] (fun (k : Nat) => [(0, .slice ad len cap), (2, .int .i64 (k : Int))]) (fun (k : Nat) w1 => Ov N w w1 ∧ k ≤ len) (fun k => len - k) 0 ⟨Ov.refl _ _, Nat.zero_le _⟩ ?_
 rintro k w2 K2 G2 ⟨hO2, hkl⟩
 refine zz 9 ?_
 refine zt 6 (p := (k : Int) < (len : Int)) (fun ht3 => ?_) (fun ht3 => ?_)
 ·
  obtain ⟨blk, off, x, rfl, hNb, hc, hf⟩ := (h.up hO2) k (by omega)
  refine zz 8 ?_
  refine zi (b := blk) (off := off) (len := len) (cap := cap) (kd := .i64) (i := (k : Int)) 1 (off + k) ?_
  refine zst (y := .int .i64 77) hc hf ?_
  refine zz 6 ?_
  refine zw 8 (x := (k : Int) + 1) ?_
  refine zz 2 ?_
  refine znext (fun a h => G2 (k + 1) _ a h ⟨hO2.trans (Ov.set hc hNb), by omega⟩ ?_)
  first | omega | (simp <;> omega)
 refine zz 5 ?_
 refine zr' (v := .tuple #[]) ?_
 exact ⟨_, rfl, rfl, hO2⟩
theorem OverNat_c (w : World) (N : Nat) (hN : N ≤ w.heap.size) (ad : Option Addr) (len cap : Nat) (h : UC .u32 w N ad len) (hb : len ≤ 9223372036854775807) : Calls Tryz.prog 55 #[.slice ad len cap] w (fun e w' => ∃ v, e = .returned v ∧ (v = .tuple #[] ∧ Ov N w w')) := by
 refine zen Tryz.func55 ?_
 have A0 : St E0 w X0 w X0 [] := St.start (X0_lt _)
 refine zz 2 ?_
 refine zcF (OverLimbs_c _ N hN ad len cap h hb) ?_
 rintro v3 w3 ⟨rfl, hO3⟩
 refine zz 1 ?_
 refine zr' (v := .tuple #[]) ?_
 exact ⟨_, rfl, rfl, hO3⟩
theorem OverRat_c (w : World) (N : Nat) (hN : N ≤ w.heap.size) (sb : Bool) (a1 : Option Addr) (a2 a3 : Nat) (a4 : Option Addr) (a5 a6 : Nat) (h1 : UC .u32 w N a1 a2) (h2 : UC .u32 w N a4 a5) (hb1 : a2 ≤ 9223372036854775807) (hb2 : a5 ≤ 9223372036854775807) : Calls Tryz.prog 24 #[.agg #[.bool sb, .slice a1 a2 a3, .slice a4 a5 a6]] w (fun e w' => ∃ v, e = .returned v ∧ (v = .tuple #[] ∧ Ov N w w')) := by
 refine zen Tryz.func24 ?_
 have A0 : St E0 w X0 w X0 [] := St.start (X0_lt _)
 refine zz 2 ?_
 refine zn pn (.cells #[.bool sb, .slice a1 a2 a3, .slice a4 a5 a6] 25 (0, 0)) A0 ?_
 intro b3 w3 Y3 A3 j3 hu3
 refine zz 5 ?_
 refine zo 0 A3 ?_
 have hO0 := Ov.upd hu3 hN
 refine zcF (OverNat_c _ N (Nat.le_trans hN hO0.size) a1 a2 a3 (h1.up hO0) hb1) ?_
 rintro v5 w5 ⟨rfl, hO5⟩
 have hOa := hO0.trans hO5
 refine zz 4 ?_
 refine zl (hO5.cells (A3.cells (off := 2) (vs := [.slice a4 a5 a6]) 0 rfl rfl) rfl) ?_
 refine zcF (OverNat_c _ N (Nat.le_trans hN hOa.size) a4 a5 a6 (h2.up hOa) hb2) ?_
 rintro v7 w7 ⟨rfl, hO7⟩
 refine zz 1 ?_
 refine zr' (v := .tuple #[]) ?_
 exact ⟨_, rfl, rfl, (hOa.trans hO7)⟩
theorem OverRats_c (w : World) (N : Nat) (hN : N ≤ w.heap.size) (ad : Option Addr) (len cap : Nat) (h : RC w N ad len) (hb : len ≤ 9223372036854775807) : Calls Tryz.prog 25 #[.slice ad len cap] w (fun e w' => ∃ v, e = .returned v ∧ (v = .tuple #[] ∧ Ov N w w')) := by
 refine zen Tryz.func25 ?_
 have A0 : St E0 w X0 w X0 [] := St.start (X0_lt _)
 refine zz 6 ?_
 refine zlp Tryz.f25 [] [1, 0] (fun (k : Nat) => [(0, .slice ad len cap), (2, .int .i64 (k : Int))]) (fun (k : Nat) w1 => Ov N w w1 ∧ k ≤ len) (fun k => len - k) 0 ⟨Ov.refl _ _, Nat.zero_le _⟩ ?_
 rintro k w2 K2 G2 ⟨hO2, hkl⟩
 refine zz 9 ?_
 refine zt 6 (p := (k : Int) < (len : Int)) (fun ht3 => ?_) (fun ht3 => ?_)
 ·
  obtain ⟨blk, off, sb, a1, a2, a3, a4, a5, a6, rfl, hcs, h1, h2, h3, h4⟩ := (h.up hO2) k (by omega)
  refine zz 8 ?_
  refine zi (b := blk) (off := off) (len := len) (cap := cap) (kd := .i64) (i := (k : Int)) 3 (off + k * 3) ?_
  refine zl hcs ?_
  refine zcF (OverRat_c _ N (Nat.le_trans hN hO2.size) sb a1 a2 a3 a4 a5 a6 h1 h2 h3 h4) ?_
  rintro v5 w5 ⟨rfl, hO5⟩
  refine zz 6 ?_
  refine zw 8 (x := (k : Int) + 1) ?_
  refine zz 2 ?_
  refine znext (fun a h => G2 (k + 1) _ a h ⟨hO2.trans hO5, by omega⟩ ?_)
  first | omega | (simp <;> omega)
 refine zz 5 ?_
 refine zr' (v := .tuple #[]) ?_
 exact ⟨_, rfl, rfl, hO2⟩
end Go.Proofs.YtoocgllbbihoaaaGreat
namespace Go.Proofs.YtoocgllbbihoaaaGreat
open Go Go.Gv Go.RowKit
set_option maxRecDepth 100000
set_option maxHeartbeats 1000000
theorem EqualRat_t (w : World) (X : Hid) (hX : ∀ k o, X k o → k < w.heap.size) (a : Raw) (ad₁ : Option Addr) (len₁ cap₁ : Nat) (h₁ : Limbs (rd w X) ad₁ len₁ cap₁ a.ln) (ae₁ : Option Addr) (le₁ ce₁ : Nat) (k₁ : Limbs (rd w X) ae₁ le₁ ce₁ a.ld) (ad₂ : Option Addr) (len₂ cap₂ : Nat) (h₂ : Limbs (rd w X) ad₂ len₂ cap₂ a.ln) (ae₂ : Option Addr) (le₂ ce₂ : Nat) (k₂ : Limbs (rd w X) ae₂ le₂ ce₂ a.ld) : Calls Tryz.prog 20 #[.agg #[.bool a.neg, .slice ad₁ len₁ cap₁, .slice ae₁ le₁ ce₁], .agg #[.bool a.neg, .slice ad₂ len₂ cap₂, .slice ae₂ le₂ ce₂]] w (Ret E0 w fun _ v => v = .bool true) :=
  (EqualRat_c w X hX a ad₁ len₁ cap₁ h₁ ae₁ le₁ ce₁ k₁ a ad₂ len₂ cap₂ h₂ ae₂ le₂ ce₂ k₂).mono fun e w' ⟨hu, v, e1, h⟩ => ⟨hu, v, e1, h.trans (zJ (decide_eq_true rfl))⟩
theorem EqualRats_t (w : World) (X : Hid) (hX : ∀ k o, X k o → k < w.heap.size) (ad : Option Addr) (len cap : Nat) (xs : List Raw) (h : Rats (rd w X) ad len cap xs) (ad2 : Option Addr) (len2 cap2 : Nat) (h2 : Rats (rd w X) ad2 len2 cap2 xs) : Calls Tryz.prog 21 #[.slice ad len cap, .slice ad2 len2 cap2] w (Ret E0 w fun _ v => v = .bool true) :=
  (EqualRats_c w X hX ad len cap xs h ad2 len2 cap2 xs h2).mono fun e w' ⟨hu, v, e1, h⟩ => ⟨hu, v, e1, h.trans (zJ (decide_eq_true rfl))⟩
theorem EqualInts_t (w : World) (X : Hid) (hX : ∀ k o, X k o → k < w.heap.size) (ad : Option Addr) (len cap : Nat) (xs : List Int) (h : Ints (rd w X) ad len cap xs) (ad2 : Option Addr) (len2 cap2 : Nat) (h2 : Ints (rd w X) ad2 len2 cap2 xs) : Calls Tryz.prog 22 #[.slice ad len cap, .slice ad2 len2 cap2] w (Ret E0 w fun _ v => v = .bool true) :=
  (EqualInts_c w X hX ad len cap xs h ad2 len2 cap2 xs h2).mono fun e w' ⟨hu, v, e1, h⟩ => ⟨hu, v, e1, h.trans (zJ (decide_eq_true rfl))⟩
theorem EqualOutcome_t (w : World) (X : Hid) (hX : ∀ k o, X k o → k < w.heap.size) (o : Out) (a0p : Option Addr) (l0p c0p : Nat) (h0p : Limbs (rd w X) a0p l0p c0p o.p.ln) (a1p : Option Addr) (l1p c1p : Nat) (h1p : Limbs (rd w X) a1p l1p c1p o.p.ld) (a0q : Option Addr) (l0q c0q : Nat) (h0q : Limbs (rd w X) a0q l0q c0q o.p.ln) (a1q : Option Addr) (l1q c1q : Nat) (h1q : Limbs (rd w X) a1q l1q c1q o.p.ld) : Calls Tryz.prog 154 #[.agg #[.int .i64 o.to, .bool o.p.neg, .slice a0p l0p c0p, .slice a1p l1p c1p], .agg #[.int .i64 o.to, .bool o.p.neg, .slice a0q l0q c0q, .slice a1q l1q c1q]] w (Ret E0 w fun _ v => v = .bool true) := by
 refine zen Tryz.func154 ?_
 have A0 : St E0 w X w X [] := St.start hX
 refine zz 2 ?_
 refine zn pn (.cells #[.int .i64 o.to, .bool o.p.neg, .slice a0p l0p c0p, .slice a1p l1p c1p] 60 (0, 0)) A0 ?_
 intro b3 w3 Y3 A3 j3 hu3
 refine zn pn (.cells #[.int .i64 o.to, .bool o.p.neg, .slice a0q l0q c0q, .slice a1q l1q c1q] 60 (0, 0)) A3 ?_
 intro b5 w5 Y5 A5 j5 hu5
 refine zz 6 ?_
 refine zo 1 A5 ?_
 refine zz 1 ?_
 refine zo 0 A5 ?_
 refine zz 1 ?_
 refine zs 9 (v := .bool ((o.to) == o.to)) (v' := .bool true) (zJ (by simp)) ?_
 refine zz 2 ?_
 refine zo 1 A5 ?_
 refine zz 1 ?_
 refine zo 0 A5 ?_
 refine zc A5 (EqualRat_t _ _ A5.lt o.p _ _ _ (h0p.mono (Le2 j3 j5)) _ _ _ (h1p.mono (Le2 j3 j5)) _ _ _ (h0q.mono (Le2 j3 j5)) _ _ _ (h1q.mono (Le2 j3 j5))) ?_
 rintro v7 w7 A7 j7 hu7 rfl
 refine zz 5 ?_
 refine zr' (v := .bool true) ?_
 exact ⟨A7.upd, _, rfl, rfl⟩
theorem EqualOutcomes_t (w : World) (X : Hid) (hX : ∀ k o, X k o → k < w.heap.size) (ad : Option Addr) (len cap : Nat) (xs : List Out) (h : OutsR (rd w X) ad len cap xs) (ad2 : Option Addr) (len2 cap2 : Nat) (h2 : OutsR (rd w X) ad2 len2 cap2 xs) : Calls Tryz.prog 141 #[.slice ad len cap, .slice ad2 len2 cap2] w (Ret E0 w fun _ v => v = .bool true) := by
 obtain rfl := h.hlen
 have hcap := h.hcap
 have hbig := h.hbig
 obtain rfl := h2.hlen
 have hcap2 := h2.hcap
 have hbig2 := h2.hbig
 refine zen Tryz.func141 ?_
 have A0 : St E0 w X w X [] := St.start hX
 refine zz 13 ?_
 refine zs 10 (v := .bool ((xs.length : Int) != (xs.length : Int))) (v' := .bool false) (zJ (by simp)) ?_
 refine zz 12 ?_
 refine zlp Tryz.f141 [] [1, 1, 0, 1, 0] (fun (k : Nat) => [(0, .slice ad xs.length cap), (1, .slice ad2 xs.length cap2), (5, .int .i64 (k : Int))]) (fun (k : Nat) w1 => ∃ (Y1 : Hid), St E0 w X w1 Y1 [] ∧ Le (rd w X) (rd w1 Y1) ∧ (k ≤ xs.length)) (fun (k : Nat) => xs.length - k) 0 ?_ ?_
 ·
  refine ⟨_, A0, Le.refl _, Nat.zero_le _⟩
 rintro k w2 K2 G2 ⟨Y2, A2, j2, hp2_0⟩
 refine zz 9 ?_
 refine zt 14 (p := (k : Int) < (xs.length : Int)) (fun ht3 => ?_) (fun ht3 => ?_)
 ·
  obtain ⟨bpp, opp, rfl⟩ := h.addr (by omega)
  obtain ⟨xp, a0p, l0p, c0p, a1p, l1p, c1p, hxp, hAp, h0p, h1p⟩ := h.at (k := k) (by omega)
  obtain ⟨bqq, oqq, rfl⟩ := h2.addr (by omega)
  obtain ⟨xq, a0q, l0q, c0q, a1q, l1q, c1q, hxq, hAq, h0q, h1q⟩ := h2.at (k := k) (by omega)
  obtain rfl : xp = xq := Option.some.inj (hxp.symm.trans hxq)
  refine zz 6 ?_
  refine zdr A2 ?_
  refine gz [0, 1] ?_
  refine gi 2 (b := bpp) (off := opp) (len := xs.length) (cap := cap) (kd := .i64) (i := (k : Int)) 4 (opp + k * 4) ?_
  refine gl 3 ((hAp.mono j2)) ?_
  refine gz [4, 5] ?_
  refine gi 6 (b := bqq) (off := oqq) (len := xs.length) (cap := cap2) (kd := .i64) (i := (k : Int)) 4 (oqq + k * 4) ?_
  refine gl 7 ((hAq.mono j2)) ?_
  refine gC 8 (fun w4 Y4 _ A4 j4 => (EqualOutcome_t _ _ A4.lt xp _ _ _ (h0p.mono (Le2 j2 j4)) _ _ _ (h1p.mono (Le2 j2 j4)) _ _ _ (h0q.mono (Le2 j2 j4)) _ _ _ (h1q.mono (Le2 j2 j4)))) ?_
  rintro v5 w4 Y5 w5 A4 j5 rfl
  refine gz [9] ?_
  refine gset 26 (v := .bool false) (v' := .bool false) (zJ (by simp)) ?_
  refine gend (fun w6 Y6 A6 j6 => ?_)
  refine zz 8 ?_
  refine zw 16 (x := (k : Int) + 1) ?_
  refine zz 2 ?_
  refine znext (fun a h => G2 (k + 1) _ a h ⟨_, A6, (Le3 j2 j5 j6), by omega⟩ ?_)
  first | omega | (simp <;> omega)
 refine zz 12 ?_
 refine zr' (v := .bool true) ?_
 exact ⟨A2.upd, _, rfl, rfl⟩
theorem EqualAction_t (w : World) (X : Hid) (hX : ∀ k o, X k o → k < w.heap.size) (a : Actn) (a0p : Option Addr) (l0p c0p : Nat) (h0p : Limbs (rd w X) a0p l0p c0p a.cost.ln) (a1p : Option Addr) (l1p c1p : Nat) (h1p : Limbs (rd w X) a1p l1p c1p a.cost.ld) (a2p : Option Addr) (l2p c2p : Nat) (h2p : OutsR (rd w X) a2p l2p c2p a.next) (a0q : Option Addr) (l0q c0q : Nat) (h0q : Limbs (rd w X) a0q l0q c0q a.cost.ln) (a1q : Option Addr) (l1q c1q : Nat) (h1q : Limbs (rd w X) a1q l1q c1q a.cost.ld) (a2q : Option Addr) (l2q c2q : Nat) (h2q : OutsR (rd w X) a2q l2q c2q a.next) : Calls Tryz.prog 117 #[.agg #[.bool a.cost.neg, .slice a0p l0p c0p, .slice a1p l1p c1p, .slice a2p l2p c2p], .agg #[.bool a.cost.neg, .slice a0q l0q c0q, .slice a1q l1q c1q, .slice a2q l2q c2q]] w (Ret E0 w fun _ v => v = .bool true) := by
 refine zen Tryz.func117 ?_
 have A0 : St E0 w X w X [] := St.start hX
 refine zz 2 ?_
 refine zn pn (.cells #[.bool a.cost.neg, .slice a0p l0p c0p, .slice a1p l1p c1p, .slice a2p l2p c2p] 63 (0, 0)) A0 ?_
 intro b3 w3 Y3 A3 j3 hu3
 refine zn pn (.cells #[.bool a.cost.neg, .slice a0q l0q c0q, .slice a1q l1q c1q, .slice a2q l2q c2q] 63 (0, 0)) A3 ?_
 intro b5 w5 Y5 A5 j5 hu5
 refine zz 6 ?_
 refine zo 1 A5 ?_
 refine zz 1 ?_
 refine zo 0 A5 ?_
 refine zc A5 (EqualRat_t _ _ A5.lt a.cost _ _ _ (h0p.mono (Le2 j3 j5)) _ _ _ (h1p.mono (Le2 j3 j5)) _ _ _ (h0q.mono (Le2 j3 j5)) _ _ _ (h1q.mono (Le2 j3 j5))) ?_
 rintro v7 w7 A7 j7 hu7 rfl
 refine zz 2 ?_
 refine zo 1 A7 ?_
 refine zz 1 ?_
 refine zo 0 A7 ?_
 refine zc A7 (EqualOutcomes_t _ _ A7.lt _ _ _ a.next (h2p.mono (Le3 j3 j5 j7)) _ _ _ (h2q.mono (Le3 j3 j5 j7))) ?_
 rintro v9 w9 A9 j9 hu9 rfl
 refine zz 5 ?_
 refine zr' (v := .bool true) ?_
 exact ⟨A9.upd, _, rfl, rfl⟩
theorem EqualActions_t (w : World) (X : Hid) (hX : ∀ k o, X k o → k < w.heap.size) (ad : Option Addr) (len cap : Nat) (xs : List Actn) (h : ActsR (rd w X) ad len cap xs) (ad2 : Option Addr) (len2 cap2 : Nat) (h2 : ActsR (rd w X) ad2 len2 cap2 xs) : Calls Tryz.prog 86 #[.slice ad len cap, .slice ad2 len2 cap2] w (Ret E0 w fun _ v => v = .bool true) := by
 obtain rfl := h.hlen
 have hcap := h.hcap
 have hbig := h.hbig
 obtain rfl := h2.hlen
 have hcap2 := h2.hcap
 have hbig2 := h2.hbig
 refine zen Tryz.func86 ?_
 have A0 : St E0 w X w X [] := St.start hX
 refine zz 13 ?_
 refine zs 10 (v := .bool ((xs.length : Int) != (xs.length : Int))) (v' := .bool false) (zJ (by simp)) ?_
 refine zz 12 ?_
 refine zlp Tryz.f86 [] [1, 1, 0, 1, 0] (fun (k : Nat) => [(0, .slice ad xs.length cap), (1, .slice ad2 xs.length cap2), (5, .int .i64 (k : Int))]) (fun (k : Nat) w1 => ∃ (Y1 : Hid), St E0 w X w1 Y1 [] ∧ Le (rd w X) (rd w1 Y1) ∧ (k ≤ xs.length)) (fun (k : Nat) => xs.length - k) 0 ?_ ?_
 ·
  refine ⟨_, A0, Le.refl _, Nat.zero_le _⟩
 rintro k w2 K2 G2 ⟨Y2, A2, j2, hp2_0⟩
 refine zz 9 ?_
 refine zt 14 (p := (k : Int) < (xs.length : Int)) (fun ht3 => ?_) (fun ht3 => ?_)
 ·
  obtain ⟨bpp, opp, rfl⟩ := h.addr (by omega)
  obtain ⟨xp, a0p, l0p, c0p, a1p, l1p, c1p, a2p, l2p, c2p, hxp, hAp, h0p, h1p, h2p⟩ := h.at (k := k) (by omega)
  obtain ⟨bqq, oqq, rfl⟩ := h2.addr (by omega)
  obtain ⟨xq, a0q, l0q, c0q, a1q, l1q, c1q, a2q, l2q, c2q, hxq, hAq, h0q, h1q, h2q⟩ := h2.at (k := k) (by omega)
  obtain rfl : xp = xq := Option.some.inj (hxp.symm.trans hxq)
  refine zz 6 ?_
  refine zdr A2 ?_
  refine gz [0, 1] ?_
  refine gi 2 (b := bpp) (off := opp) (len := xs.length) (cap := cap) (kd := .i64) (i := (k : Int)) 4 (opp + k * 4) ?_
  refine gl 3 ((hAp.mono j2)) ?_
  refine gz [4, 5] ?_
  refine gi 6 (b := bqq) (off := oqq) (len := xs.length) (cap := cap2) (kd := .i64) (i := (k : Int)) 4 (oqq + k * 4) ?_
  refine gl 7 ((hAq.mono j2)) ?_
  refine gC 8 (fun w4 Y4 _ A4 j4 => (EqualAction_t _ _ A4.lt xp _ _ _ (h0p.mono (Le2 j2 j4)) _ _ _ (h1p.mono (Le2 j2 j4)) _ _ _ (h2p.mono (Le2 j2 j4)) _ _ _ (h0q.mono (Le2 j2 j4)) _ _ _ (h1q.mono (Le2 j2 j4)) _ _ _ (h2q.mono (Le2 j2 j4)))) ?_
  rintro v5 w4 Y5 w5 A4 j5 rfl
  refine gz [9] ?_
  refine gset 26 (v := .bool false) (v' := .bool false) (zJ (by simp)) ?_
  refine gend (fun w6 Y6 A6 j6 => ?_)
  refine zz 8 ?_
  refine zw 16 (x := (k : Int) + 1) ?_
  refine zz 2 ?_
  refine znext (fun a h => G2 (k + 1) _ a h ⟨_, A6, (Le3 j2 j5 j6), by omega⟩ ?_)
  first | omega | (simp <;> omega)
 refine zz 12 ?_
 refine zr' (v := .bool true) ?_
 exact ⟨A2.upd, _, rfl, rfl⟩
theorem EqualStates_t (w : World) (X : Hid) (hX : ∀ k o, X k o → k < w.heap.size) (ad : Option Addr) (len cap : Nat) (xs : List (List Actn)) (h : StatesR (rd w X) ad len cap xs) (ad2 : Option Addr) (len2 cap2 : Nat) (h2 : StatesR (rd w X) ad2 len2 cap2 xs) : Calls Tryz.prog 54 #[.slice ad len cap, .slice ad2 len2 cap2] w (Ret E0 w fun _ v => v = .bool true) := by
 obtain rfl := h.hlen
 have hcap := h.hcap
 have hbig := h.hbig
 obtain rfl := h2.hlen
 have hcap2 := h2.hcap
 have hbig2 := h2.hbig
 refine zen Tryz.func54 ?_
 have A0 : St E0 w X w X [] := St.start hX
 refine zz 13 ?_
 refine zs 10 (v := .bool ((xs.length : Int) != (xs.length : Int))) (v' := .bool false) (zJ (by simp)) ?_
 refine zz 12 ?_
 refine zlp Tryz.f54 [] [1, 1, 0, 1, 0] (fun (k : Nat) => [(0, .slice ad xs.length cap), (1, .slice ad2 xs.length cap2), (5, .int .i64 (k : Int))]) (fun (k : Nat) w1 => ∃ (Y1 : Hid), St E0 w X w1 Y1 [] ∧ Le (rd w X) (rd w1 Y1) ∧ (k ≤ xs.length)) (fun (k : Nat) => xs.length - k) 0 ?_ ?_
 ·
  refine ⟨_, A0, Le.refl _, Nat.zero_le _⟩
 rintro k w2 K2 G2 ⟨Y2, A2, j2, hp2_0⟩
 refine zz 9 ?_
 refine zt 14 (p := (k : Int) < (xs.length : Int)) (fun ht3 => ?_) (fun ht3 => ?_)
 ·
  obtain ⟨bpp, opp, rfl⟩ := h.addr (by omega)
  obtain ⟨xp, a0p, l0p, c0p, hxp, hAp, h0p⟩ := StateAt.cell h (k := k) (by omega)
  obtain ⟨bqq, oqq, rfl⟩ := h2.addr (by omega)
  obtain ⟨xq, a0q, l0q, c0q, hxq, hAq, h0q⟩ := StateAt.cell h2 (k := k) (by omega)
  obtain rfl : xp = xq := Option.some.inj (hxp.symm.trans hxq)
  refine zz 6 ?_
  refine zdr A2 ?_
  refine gz [0, 1] ?_
  refine gi 2 (b := bpp) (off := opp) (len := xs.length) (cap := cap) (kd := .i64) (i := (k : Int)) 1 (opp + k) ?_
  refine gl 3 ((hAp.mono j2)) ?_
  refine gz [4, 5] ?_
  refine gi 6 (b := bqq) (off := oqq) (len := xs.length) (cap := cap2) (kd := .i64) (i := (k : Int)) 1 (oqq + k) ?_
  refine gl 7 ((hAq.mono j2)) ?_
  refine gC 8 (fun w4 Y4 _ A4 j4 => (EqualActions_t _ _ A4.lt _ _ _ xp (h0p.mono (Le2 j2 j4)) _ _ _ (h0q.mono (Le2 j2 j4)))) ?_
  rintro v5 w4 Y5 w5 A4 j5 rfl
  refine gz [9] ?_
  refine gset 26 (v := .bool false) (v' := .bool false) (zJ (by simp)) ?_
  refine gend (fun w6 Y6 A6 j6 => ?_)
  refine zz 8 ?_
  refine zw 16 (x := (k : Int) + 1) ?_
  refine zz 2 ?_
  refine znext (fun a h => G2 (k + 1) _ a h ⟨_, A6, (Le3 j2 j5 j6), by omega⟩ ?_)
  first | omega | (simp <;> omega)
 refine zz 12 ?_
 refine zr' (v := .bool true) ?_
 exact ⟨A2.upd, _, rfl, rfl⟩
theorem EqualMDP_t (w : World) (X : Hid) (hX : ∀ k o, X k o → k < w.heap.size) (m : Mdp) (a0p : Option Addr) (l0p c0p : Nat) (h0p : Limbs (rd w X) a0p l0p c0p m.disc.ln) (a1p : Option Addr) (l1p c1p : Nat) (h1p : Limbs (rd w X) a1p l1p c1p m.disc.ld) (a2p : Option Addr) (l2p c2p : Nat) (h2p : StatesR (rd w X) a2p l2p c2p m.states) (a0q : Option Addr) (l0q c0q : Nat) (h0q : Limbs (rd w X) a0q l0q c0q m.disc.ln) (a1q : Option Addr) (l1q c1q : Nat) (h1q : Limbs (rd w X) a1q l1q c1q m.disc.ld) (a2q : Option Addr) (l2q c2q : Nat) (h2q : StatesR (rd w X) a2q l2q c2q m.states) : Calls Tryz.prog 23 #[.agg #[.bool m.disc.neg, .slice a0p l0p c0p, .slice a1p l1p c1p, .slice a2p l2p c2p], .agg #[.bool m.disc.neg, .slice a0q l0q c0q, .slice a1q l1q c1q, .slice a2q l2q c2q]] w (Ret E0 w fun _ v => v = .bool true) := by
 refine zen Tryz.func23 ?_
 have A0 : St E0 w X w X [] := St.start hX
 refine zz 2 ?_
 refine zn pn (.cells #[.bool m.disc.neg, .slice a0p l0p c0p, .slice a1p l1p c1p, .slice a2p l2p c2p] 28 (0, 0)) A0 ?_
 intro b3 w3 Y3 A3 j3 hu3
 refine zn pn (.cells #[.bool m.disc.neg, .slice a0q l0q c0q, .slice a1q l1q c1q, .slice a2q l2q c2q] 28 (0, 0)) A3 ?_
 intro b5 w5 Y5 A5 j5 hu5
 refine zz 6 ?_
 refine zo 1 A5 ?_
 refine zz 1 ?_
 refine zo 0 A5 ?_
 refine zc A5 (EqualRat_t _ _ A5.lt m.disc _ _ _ (h0p.mono (Le2 j3 j5)) _ _ _ (h1p.mono (Le2 j3 j5)) _ _ _ (h0q.mono (Le2 j3 j5)) _ _ _ (h1q.mono (Le2 j3 j5))) ?_
 rintro v7 w7 A7 j7 hu7 rfl
 refine zz 2 ?_
 refine zo 1 A7 ?_
 refine zz 1 ?_
 refine zo 0 A7 ?_
 refine zc A7 (EqualStates_t _ _ A7.lt _ _ _ m.states (h2p.mono (Le3 j3 j5 j7)) _ _ _ (h2q.mono (Le3 j3 j5 j7))) ?_
 rintro v9 w9 A9 j9 hu9 rfl
 refine zz 5 ?_
 refine zr' (v := .bool true) ?_
 exact ⟨A9.upd, _, rfl, rfl⟩
end Go.Proofs.YtoocgllbbihoaaaGreat

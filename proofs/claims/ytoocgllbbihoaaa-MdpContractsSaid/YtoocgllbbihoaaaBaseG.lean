/- Parts of the proof: GwB FS F42 F43 F44. By an AI agent. -/
import Derived.Shelf.Sort.Plain
import Derived.Test.YtoocgllbbihoaaaRows
import Derived.Test.YtoocgllbbihoaaaBaseA
import Derived.Test.YtoocgllbbihoaaaBaseB
import Derived.Test.YtoocgllbbihoaaaBaseC
import Derived.Test.YtoocgllbbihoaaaBaseD
import Derived.Test.YtoocgllbbihoaaaBaseE
import Derived.Test.YtoocgllbbihoaaaBaseF
set_option linter.unusedVariables false
set_option linter.unusedSimpArgs false
set_option linter.unnecessarySimpa false
/- A row that a call owns, sorted by the library. By an AI agent; over any program. -/
namespace Go.Gv
open Go.RowKit Go.Sort
theorem putCells_row {zs : List Int} {cur : Array Value} (hl : zs.length ≤ cur.size) : (putCells (Value.int .i64) 0 zs.toArray cur).toList.take zs.length = ivals zs := by
  apply List.ext_getElem?
  intro j
  rw [List.getElem?_take]
  split
  · rename_i hj
    have hc : j < cur.size := by omega
    simp only [Array.getElem?_toList, putCells, Array.getElem?_mapIdx, Array.getElem?_eq_getElem hc, Option.map_some, ivals, List.getElem?_map, List.getElem?_eq_getElem hj]
    rw [if_pos ⟨Nat.zero_le _, by simpa using hj⟩]
    simp [getElem!_pos, hj]
  · rename_i hj
    rw [List.getElem?_eq_none]
    simp [ivals]; omega
theorem St.sorted {E : Nat → Prop} {w0 w : World} {X Y : Hid} {M : List (Nat × Obj)} (hS : St E w0 X w Y M) (i : Nat) {g k cap n : Nat} {cur : Array Value} {T : TypeId} {zs : List Int} {os : Array Obj} (hi : M[i]? = some (g, .cells cur T (0, 0))) (hrow : Row k cap 1 cur (ivals zs)) (hk : k = zs.length) :
    ∃ cur', Row k cap 1 cur' (ivals (zs.mergeSort fun x y => decide (x ≤ y))) ∧ St E w0 X (grow (putRow (Value.int .i64) (Go.Sort.ahead w n) g 0 (zs.mergeSort fun x y => decide (x ≤ y)).toArray) os) Y (M.set i (g, .cells cur' T (0, 0))) ∧ Le (rd w Y) (rd (grow (putRow (Value.int .i64) (Go.Sort.ahead w n) g 0 (zs.mergeSort fun x y => decide (x ≤ y)).toArray) os) Y) := by
  have hg := hS.get i hi
  have hglt : g < w.heap.size := (Array.getElem?_eq_some_iff.1 hg).1
  have hlen : (zs.mergeSort fun x y => decide (x ≤ y)).length = zs.length := List.length_mergeSort _
  generalize (zs.mergeSort fun x y => decide (x ≤ y)) = ss at hlen
  have hsz := hrow.hsz
  have hn := hrow.hn
  refine ⟨putCells (Value.int .i64) 0 ss.toArray cur, ⟨hrow.hn, hrow.hcap, by simp [putCells, hsz], ?_⟩, ?_, ?_⟩
  · have := putCells_row (zs := ss) (cur := cur) (by omega)
    rw [Nat.mul_one, hk, ← hlen]; exact this
  · refine hS.set i _ hi ?_ rfl rfl rfl ?_ (fun j hj hne => ?_)
    · simp [grow, putRow, mapBlock, Go.Sort.ahead]
    · simp only [grow, putRow, mapBlock, Go.Sort.ahead]
      rw [Array.getElem?_append_left (by simpa using hglt), Array.getElem?_modify, if_pos rfl, hg]
      rfl
    · simp only [grow, putRow, mapBlock, Go.Sort.ahead]
      rw [Array.getElem?_append_left (by simpa using hj), Array.getElem?_modify, if_neg (fun e => hne e.symm)]
  · refine hS.le_set i hi (fun j hj hne => ?_)
    simp only [grow, putRow, mapBlock, Go.Sort.ahead]
    rw [Array.getElem?_append_left (by simpa using hj), Array.getElem?_modify, if_neg (fun e => hne e.symm)]
theorem St.holds {E : Nat → Prop} {w0 w : World} {X Y : Hid} {M : List (Nat × Obj)} (hS : St E w0 X w Y M) (i : Nat) {g k cap : Nat} {cur : Array Value} {T : TypeId} {zs : List Int} (hi : M[i]? = some (g, .cells cur T (0, 0))) (hrow : Row k cap 1 cur (ivals zs)) (hk : k = zs.length) : Holds (Value.int .i64) w g 0 zs.toArray := by
  have hg := hS.get i hi
  intro j hj
  have hj' : j < zs.length := by simpa using hj
  rw [Nat.zero_add]
  refine ⟨?_, frozen_of_row w g _ cur T hg⟩
  rw [cell_of_row w g j cur T _ hg]
  have h1 : (cur.toList.take (k * 1))[j]? = (ivals zs)[j]? := by rw [hrow.hxs]
  rw [List.getElem?_take, if_pos (by omega)] at h1
  rw [← Array.getElem?_toList, h1]
  simp [ivals, hj']
end Go.Gv
/- slices.Sort at a slice of int, by the library's contract, over rows that a call owns. By an AI agent. -/
namespace Go.Proofs.Ytoocgllbbihoaaa
open Go Go.Gv Go.RowKit Go.Sort
set_option maxRecDepth 100000
set_option maxHeartbeats 1000000
def sortRen : Go.Shelf.Ren := ⟨fun | 189 => 42 | 125 => 65 | 257 => 64 | 128 => 88 | 129 => 89 | 294 => 79 | 295 => 80 | 296 => 81 | 297 => 82 | 298 => 83 | 299 => 84 | 216 => 85 | 300 => 86 | 301 => 87 | 328 => 98 | 329 => 99 | 330 => 100 | 331 => 101 | 332 => 102 | 215 => 93 | 343 => 106 | n => n, fun | 28 => 30 | 3 => 3 | 46 => 108 | 0 => 0 | 51 => 93 | 53 => 132 | 4 => 4 | 183 => 123 | 182 => 122 | 131 => 128 | 5 => 5 | 9 => 9 | 218 => 142 | 222 => 146 | 228 => 149 | 229 => 150 | n => n, fun n => n⟩
theorem sortLays : Go.Proofs.Lays.n189 Try.prog sortRen := { mixed := by kernel_rfl, f125 := Try.func65.trans (congrArg some (by kernel_rfl)), f128 := Try.func88.trans (congrArg some (by kernel_rfl)), f129 := Try.func89.trans (congrArg some (by kernel_rfl)), f189 := Try.func42.trans (congrArg some (by kernel_rfl)), f215 := Try.func93.trans (congrArg some (by kernel_rfl)), f216 := Try.func85.trans (congrArg some (by kernel_rfl)), f257 := Try.func64.trans (congrArg some (by kernel_rfl)), f294 := Try.func79.trans (congrArg some (by kernel_rfl)), f295 := Try.func80.trans (congrArg some (by kernel_rfl)), f296 := Try.func81.trans (congrArg some (by kernel_rfl)), f297 := Try.func82.trans (congrArg some (by kernel_rfl)), f298 := Try.func83.trans (congrArg some (by kernel_rfl)), f299 := Try.func84.trans (congrArg some (by kernel_rfl)), f300 := Try.func86.trans (congrArg some (by kernel_rfl)), f301 := Try.func87.trans (congrArg some (by kernel_rfl)), f328 := Try.func98.trans (congrArg some (by kernel_rfl)), f329 := Try.func99.trans (congrArg some (by kernel_rfl)), f330 := Try.func100.trans (congrArg some (by kernel_rfl)), f331 := Try.func101.trans (congrArg some (by kernel_rfl)), f332 := Try.func102.trans (congrArg some (by kernel_rfl)), f343 := Try.func106.trans (congrArg some (by kernel_rfl)), t0 := Try.underlying0, a0 := Try.isAgg0, z0 := Try.sizeOf0, v0 := Try.zeroValue0, t3 := Try.underlying3, a3 := Try.isAgg3, z3 := Try.sizeOf3, v3 := Try.zeroValue3, t4 := Try.underlying4, a4 := Try.isAgg4, z4 := Try.sizeOf4, v4 := Try.zeroValue4, t5 := Try.underlying5, a5 := Try.isAgg5, z5 := Try.sizeOf5, v5 := Try.zeroValue5, t9 := Try.underlying9, a9 := Try.isAgg9, z9 := Try.sizeOf9, v9 := Try.zeroValue9, t28 := Try.underlying30, a28 := Try.isAgg30, z28 := Try.sizeOf30, v28 := Try.zeroValue30, t46 := Try.underlying108, a46 := Try.isAgg108, z46 := Try.sizeOf108, v46 := Try.zeroValue108, t51 := Try.underlying93, a51 := Try.isAgg93, z51 := Try.sizeOf93, v51 := Try.zeroValue93, t53 := Try.underlying132, a53 := Try.isAgg132, z53 := Try.sizeOf132, v53 := Try.zeroValue132, t131 := Try.underlying128, a131 := Try.isAgg128, z131 := Try.sizeOf128, v131 := Try.zeroValue128, t182 := Try.underlying122, a182 := Try.isAgg122, z182 := Try.sizeOf122, v182 := Try.zeroValue122, t183 := Try.underlying123, a183 := Try.isAgg123, z183 := Try.sizeOf123, v183 := Try.zeroValue123, t218 := Try.underlying142, a218 := Try.isAgg142, z218 := Try.sizeOf142, v218 := Try.zeroValue142, t222 := Try.underlying146, a222 := Try.isAgg146, z222 := Try.sizeOf146, v222 := Try.zeroValue146, t228 := Try.underlying149, a228 := Try.isAgg149, z228 := Try.sizeOf149, v228 := Try.zeroValue149, t229 := Try.underlying150, a229 := Try.isAgg150, z229 := Try.sizeOf150, v229 := Try.zeroValue150 }
theorem sort_c (blk cap : Nat) (zs : List Int) (w : World) (hH : Holds (Value.int .i64) w blk 0 zs.toArray) (hblk : blk < w.heap.size) (hsz : zs.length < 4611686018427387904) :
    Calls Try.prog 42 #[.slice (some ⟨blk, 0, none⟩) zs.length cap] w fun e w' => e = .returned (.tuple #[]) ∧ ∃ n os, w' = grow (putRow (Value.int .i64) (Sort.ahead w n) blk 0 (zs.mergeSort fun x y => decide (x ≤ y)).toArray) os :=
  Go.Proofs.Any.slices_Sort_int sortLays blk 0 cap zs w hH hblk hsz
end Go.Proofs.Ytoocgllbbihoaaa
namespace Go.Proofs.Ytoocgllbbihoaaa
open Go Go.Gv Go.RowKit
set_option maxRecDepth 100000
set_option maxHeartbeats 1000000
open Go.Sort in
theorem sort_St {E : Nat → Prop} {w0 w : World} {X Y : Hid} {M : List (Nat × Obj)} (hS : St E w0 X w Y M) (i : Nat) {g k cap : Nat} {cur : Array Value} {T : TypeId} {zs : List Int} (hi : M[i]? = some (g, .cells cur T (0, 0))) (hrow : Row k cap 1 cur (ivals zs)) (hk : k = zs.length) (hb : k ≤ 1000) :
    Calls Try.prog 42 #[.slice (some ⟨g, 0, none⟩) k cap] w (fun e w' => ∃ v, e = .returned v ∧ (v = .tuple #[] ∧ ∃ cur', Row k cap 1 cur' (ivals (zs.mergeSort fun x y => decide (x ≤ y))) ∧ St E w0 X w' Y (M.set i (g, .cells cur' T (0, 0))) ∧ Le (rd w Y) (rd w' Y))) := by
  subst hk
  refine (sort_c g cap zs w (hS.holds i hi hrow rfl) (Array.getElem?_eq_some_iff.1 (hS.get i hi)).1 (by omega)).mono ?_
  rintro e w' ⟨rfl, n, os, rfl⟩
  obtain ⟨cur', h1, h2, h3⟩ := hS.sorted i (n := n) (os := os) hi hrow rfl
  exact ⟨_, rfl, rfl, cur', h1, h2, h3⟩
theorem TRow.some {e : TypeId} {sz m cap : Nat} {rb : List (Nat × Obj)} {ad : Option Addr} {xs : List Value} (h : TRow e sz rb ad m cap xs) (hx : xs ≠ []) : ∃ g cur, rb = [(g, .cells cur e (0, 0))] ∧ ad = some ⟨g, 0, none⟩ ∧ Row m cap sz cur xs := by
  rcases h with ⟨_, _, _, _, h⟩ | h
  · exact absurd h hx
  · exact h
def ReachV (m : Mdp) (s : Int) (l : List Int) (e : Int) : Prop := (m.chk ≠ 0 ∧ e = m.chk ∧ l = []) ∨ (m.chk = 0 ∧ (s < 0 ∨ (m.states.length : Int) ≤ s) ∧ e = 8 ∧ l = []) ∨ (m.chk = 0 ∧ 0 ≤ s ∧ s < m.states.length ∧ e = 0 ∧ Reached m s l)
theorem unseen_rep : ∀ n, unseen (List.replicate n false) = n
  | 0 => rfl
  | n + 1 => by rw [List.replicate_succ, unseen, unseen_rep n]; simp; omega
theorem vis_ne {m : Mdp} {n : Nat} {N : List Int} {S' : List Bool} {R : Int → Prop} {i : Nat} (h : Vis m (List.replicate n false) N S' R) (hi : i < n) (h2 : S'.getD i false = true) : ivals ([] ++ N) ≠ [] := by
  rcases (h.mem i (by simpa using hi)).1 h2 with h3 | h3
  · rw [List.getD_eq_getElem?_getD, List.getElem?_replicate] at h3; split at h3 <;> cases h3
  · intro e; rw [List.nil_append, ivals, List.map_eq_nil_iff] at e; rw [e] at h3; cases h3
theorem vis_fin {m : Mdp} {N : List Int} {S' : List Bool} {s : Int} (hc : m.chk = 0) (h0 : 0 ≤ s) (h1 : s < m.states.length) (h : Vis m (List.replicate m.states.length false) N S' (· = s)) (hs : S'.getD s.toNat false = true) : Reached m s (N.mergeSort fun x y => decide (x ≤ y)) :=
  h.reached (fun t ht a ha o ho => by
    obtain ⟨g1, g2, _⟩ := h.fresh t ht
    rw [List.length_replicate] at g2
    exact m_range hc (getD_mem (by omega)) ha ho) h0 h1 hs
theorem Reach_c (w : World) (X : Hid) (hX : ∀ k o, X k o → k < w.heap.size) (m : Mdp) (ad : Option Addr) (len cap : Nat) (h : Limbs (rd w X) ad len cap m.disc.ln) (ae : Option Addr) (le ce : Nat) (h2 : Limbs (rd w X) ae le ce m.disc.ld) (st : Option Addr) (ls cs : Nat) (hst : StatesR (rd w X) st ls cs m.states) (s : Int) : Calls Try.prog 20 #[.agg #[.bool m.disc.neg, .slice ad len cap, .slice ae le ce, .slice st ls cs], .int .i64 s] w (Ret E0 w fun w' u => ∃ (ad : Option Addr) (len cap : Nat) (l : List Int) (e : Int), u = .tuple #[.slice ad len cap, .int .i64 e] ∧ Ints (rd w' X) ad len cap l ∧ ReachV m s l e) := by
 obtain rfl := hst.hlen
 have hcaps := hst.hcap
 have hbigs := hst.hbig
 refine zZ (n := 36) (vs := [.agg #[.bool m.disc.neg, .slice ad len cap, .slice ae le ce, .slice st m.states.length cs], .int .i64 s]) Try.func20 rfl rfl rfl kr (fun a0 A0 => ?_)
 have A0 : Fr 36 a0 [(0, .agg #[.bool m.disc.neg, .slice ad len cap, .slice ae le ce, .slice st m.states.length cs]), (1, .int .i64 s)] := A0
 have j0 : St E0 w X w X [] := St.start hX
 refine zD (fun K1 C1 => ?_)
 refine zC ?_
 refine wplI A0 kr (zN (d := 2) (fun b => .pointer (some ⟨b, 0, none⟩)) (.cells #[.bool m.disc.neg, .slice ad len cap, .slice ae le ce, .slice st m.states.length cs] 28 (0, 0)) A0 kr j0 kw ?_)
 intro b2 w2 Y2 j2 q2 hu2 a3 A3
 refine wplI A3 kr (zN (d := 4) (fun b => .pointer (some ⟨b, 0, none⟩)) (.cells #[.slice none 0 0] 30 (0, 0)) A3 kr j2 kw ?_)
 intro b4 w4 Y4 j4 q4 hu4 a5 A5
 refine zB 1 [(5, .int .i64 0)] A5 kr kr (fun a6 A6 => ?_)
 refine zE ?_
 refine zA (C1 _ _ ?_)
 refine zD (fun K7 C7 => ?_)
 refine zD (fun K8 C8 => ?_)
 refine zC ?_
 refine wplI A6 kr (zJ (d := 9) (v := .agg #[.bool m.disc.neg, .slice ad len cap, .slice ae le ce, .slice st m.states.length cs]) A6 kr (zF (t := 28) (g := true) (vs := [.bool m.disc.neg, .slice ad len cap, .slice ae le ce, .slice st m.states.length cs]) (ad := ⟨b2, 0, none⟩) rfl kr kr ir (j4.cells 1 rfl rfl)) ?_)
 intro a9 A9
 refine wplI A9 kr (zK (d := 10) (f := 40) (cap := #[]) (vs := #[.agg #[.bool m.disc.neg, .slice ad len cap, .slice ae le ce, .slice st m.states.length cs]]) A9 kr j4 rfl kr kr (fun w => Try.call40 _ w) (mCheck_c _ _ j4.lt m _ _ _ (h.mono (Le2 q2 q4)) _ _ _ (h2.mono (Le2 q2 q4)) _ _ _ (hst.mono (Le2 q2 q4))) ?_)
 rintro v10 w10 j10 q10 hu10 rfl a11 A11
 refine zB 1 [(6, .int .i64 m.chk)] A11 kr kr (fun a12 A12 => ?_)
 refine zE ?_
 refine zA (C8 _ _ ?_)
 refine zV ?_
 refine zD (fun K13 C13 => ?_)
 refine zC ?_
 refine zB 3 [(11, .bool ((m.chk) != 0)), (13, .bool ((m.chk) != 0)), (12, .int .i64 m.chk)] A12 kr kr (fun a14 A14 => ?_)
 refine zE ?_
 refine zA (C13 _ _ ?_)
 refine zS ((m.chk) != 0) A14 kr kr (fun hc15 => ?_) (fun hc15 => ?_)
 ·
  have A16 := A14.set 11 (v' := .bool true) kr rfl (zG hc15)
  have ht17 : (m.chk) ≠ 0 := by simpa using hc15
  refine zD (fun K18 C18 => ?_)
  refine zC ?_
  refine zB 1 [(14, .int .i64 m.chk)] A16 kr kr (fun a19 A19 => ?_)
  refine wplI A19 kr (zO (t := 30) (b := b4) (off := 0) (c' := #[.slice none 0 0]) (g := false) (m := 1) 0 _ A19 kr j10 rfl kr rfl kr kr kr rfl (by first | decide | (simp; done)) kr rfl ?_)
  intro w20 j20 q20
  refine zB 1 [(5, .int .i64 m.chk)] A19 kr kr (fun a21 A21 => ?_)
  refine zE ?_
  refine zA (C18 _ _ ?_)
  refine zQ ?_
  refine zU ?_
  refine zL ?_
  refine zR (v := .tuple #[.slice none 0 0, .int .i64 m.chk]) (rs := [.cell 4 30, .tmp 5]) A21 kr (Res.cell (ad := ⟨b4, 0, none⟩) (cs := [.slice none 0 0]) (g := false) kr kr kr ir (j20.cells 0 rfl rfl) (Res.tmp kr Res.nil)) kr ?_
  exact ⟨j20.upd, _, rfl, _, _, _, _, _, rfl, ints_nil, .inl ⟨ht17, rfl, rfl⟩⟩
 have A22 := A14.set 11 (v' := .bool false) kr rfl (zG hc15)
 have ht23 : (m.chk) = 0 := by simpa using hc15
 have hm0 : m.chk = 0 := by simpa using ht23
 have hn200 := (Mdp.chk_ok hm0).2.2.2.2.1
 refine zD (fun K24 C24 => ?_)
 refine zC ?_
 refine zB 3 [(18, .bool (decide ((s) < 0))), (17, .bool (decide ((s) < 0))), (16, .int .i64 s)] A22 kr kr (fun a25 A25 => ?_)
 rcases Bool.eq_false_or_eq_true (decide ((s) < 0)) with hc26 | hc26
 ·
  have A27 := A25.set 18 (v' := .bool true) kr rfl (zG hc26)
  have ht28 : (s) < 0 := of_decide_eq_true hc26
  refine zB 7 [(15, .bool true), (24, .bool true), (23, undef), (22, undef), (21, undef), (20, undef), (19, undef)] A27 kr kr (fun a29 A29 => ?_)
  refine zE ?_
  refine zA (C24 _ _ ?_)
  refine qG A29 kr kr ?_
  refine zD (fun K30 C30 => ?_)
  refine zC ?_
  refine wplI A29 kr (zO (t := 30) (b := b4) (off := 0) (c' := #[.slice none 0 0]) (g := false) (m := 1) 0 _ A29 kr j10 rfl kr rfl kr kr kr rfl (by first | decide | (simp; done)) kr rfl ?_)
  intro w31 j31 q31
  refine zB 1 [(5, .int .i64 8)] A29 kr kr (fun a32 A32 => ?_)
  refine zE ?_
  refine zA (C30 _ _ ?_)
  refine zQ ?_
  refine zU ?_
  refine zL ?_
  refine zR (v := .tuple #[.slice none 0 0, .int .i64 8]) (rs := [.cell 4 30, .tmp 5]) A32 kr (Res.cell (ad := ⟨b4, 0, none⟩) (cs := [.slice none 0 0]) (g := false) kr kr kr ir (j31.cells 0 rfl rfl) (Res.tmp kr Res.nil)) kr ?_
  exact ⟨j31.upd, _, rfl, _, _, _, _, _, rfl, ints_nil, .inr (.inl ⟨hm0, .inl ht28, rfl, rfl⟩)⟩
 have A33 := A25.set 18 (v' := .bool false) kr rfl (zG hc26)
 have ht34 : ¬ ((s) < 0) := of_decide_eq_false hc26
 refine zB 2 [(20, .pointer (some ⟨b2, 3, none⟩)), (19, .int .i64 s)] A33 kr kr (fun a35 A35 => ?_)
 refine wplI A35 kr (zJ (d := 21) (v := .slice st m.states.length cs) A35 kr (zF (t := 26) (g := false) (vs := [.slice st m.states.length cs]) (ad := ⟨b2, 3, none⟩) rfl kr kr ir (j10.cells 1 rfl rfl)) ?_)
 intro a36 A36
 refine zB 4 [(15, .bool (decide ((s) ≥ (m.states.length : Int)))), (24, .bool (decide ((s) ≥ (m.states.length : Int)))), (23, .bool (decide ((s) ≥ (m.states.length : Int)))), (22, .int .i64 (m.states.length : Int))] A36 kr kr (fun a37 A37 => ?_)
 refine zE ?_
 refine zA (C24 _ _ ?_)
 refine zS (decide ((s) ≥ (m.states.length : Int))) A37 kr kr (fun hc38 => ?_) (fun hc38 => ?_)
 ·
  have A39 := A37.set 15 (v' := .bool true) kr rfl (zG hc38)
  have ht40 : (s) ≥ (m.states.length : Int) := of_decide_eq_true hc38
  refine zD (fun K41 C41 => ?_)
  refine zC ?_
  refine wplI A39 kr (zO (t := 30) (b := b4) (off := 0) (c' := #[.slice none 0 0]) (g := false) (m := 1) 0 _ A39 kr j10 rfl kr rfl kr kr kr rfl (by first | decide | (simp; done)) kr rfl ?_)
  intro w42 j42 q42
  refine zB 1 [(5, .int .i64 8)] A39 kr kr (fun a43 A43 => ?_)
  refine zE ?_
  refine zA (C41 _ _ ?_)
  refine zQ ?_
  refine zU ?_
  refine zL ?_
  refine zR (v := .tuple #[.slice none 0 0, .int .i64 8]) (rs := [.cell 4 30, .tmp 5]) A43 kr (Res.cell (ad := ⟨b4, 0, none⟩) (cs := [.slice none 0 0]) (g := false) kr kr kr ir (j42.cells 0 rfl rfl) (Res.tmp kr Res.nil)) kr ?_
  exact ⟨j42.upd, _, rfl, _, _, _, _, _, rfl, ints_nil, .inr (.inl ⟨hm0, .inr (by omega), rfl, rfl⟩)⟩
 have A44 := A37.set 15 (v' := .bool false) kr rfl (zG hc38)
 have ht45 : ¬ ((s) ≥ (m.states.length : Int)) := of_decide_eq_false hc38
 refine i_skip ?_
 refine zW ?_
 refine zA (C7 _ _ ?_)
 refine zD (fun K46 C46 => ?_)
 refine zC ?_
 refine zB 1 [(25, .pointer (some ⟨b2, 3, none⟩))] A44 kr kr (fun a47 A47 => ?_)
 refine wplI A47 kr (zJ (d := 26) (v := .slice st m.states.length cs) A47 kr (zF (t := 26) (g := false) (vs := [.slice st m.states.length cs]) (ad := ⟨b2, 3, none⟩) rfl kr kr ir (j10.cells 1 rfl rfl)) ?_)
 intro a48 A48
 refine zB 1 [(27, .int .i64 (m.states.length : Int))] A48 kr kr (fun a49 A49 => ?_)
 refine wplI A49 kr (op_make (d := 28) (t := 80) (e := 4) (m := m.states.length) (z := .bool false) (i0 := Try.t4) A49 kr j10 rfl kr rfl kr kr kr kr kr (by show 1 * _ ≤ _; omega) (by omega) ?_)
 intro gS w50 Y50 j50 q50 hu50 a51 A51
 rw [bvals_rep] at j50
 refine wplI A51 kr (zN (d := 7) (fun b => .pointer (some ⟨b, 0, none⟩)) (.cells #[.slice none 0 0] 80 (0, 0)) A51 kr j50 kw ?_)
 intro b52 w52 Y52 j52 q52 hu52 a53 A53
 refine wplI A53 kr (zO (t := 80) (b := b52) (off := 0) (c' := #[.slice (some ⟨gS, 0, none⟩) m.states.length m.states.length]) (g := false) (m := 1) 0 _ A53 kr j52 rfl kr rfl kr kr kr rfl (by first | decide | (simp; done)) kr rfl ?_)
 intro w54 j54 q54
 refine zE ?_
 refine zA (C46 _ _ ?_)
 refine zD (fun K55 C55 => ?_)
 refine zC ?_
 refine wplI A53 kr (zN (d := 8) (fun b => .pointer (some ⟨b, 0, none⟩)) (.cells #[.nilFunc] 81 (0, 0)) A53 kr j54 kw ?_)
 intro b56 w56 Y56 j56 q56 hu56 a57 A57
 refine zE ?_
 refine zA (C55 _ _ ?_)
 refine zD (fun K58 C58 => ?_)
 refine zC ?_
 refine zB 1 [(29, .func (.func 41) #[] #[.pointer (some ⟨b52, 0, none⟩), .pointer (some ⟨b4, 0, none⟩), .pointer (some ⟨b2, 0, none⟩), .pointer (some ⟨b56, 0, none⟩)])] A57 kr kr (fun a59 A59 => ?_)
 refine wplI A59 kr (zO (t := 81) (b := b56) (off := 0) (c' := #[.func (.func 41) #[] #[.pointer (some ⟨b52, 0, none⟩), .pointer (some ⟨b4, 0, none⟩), .pointer (some ⟨b2, 0, none⟩), .pointer (some ⟨b56, 0, none⟩)]]) (g := false) (m := 1) 0 _ A59 kr j56 rfl kr rfl kr kr kr rfl (by first | decide | (simp; done)) kr rfl ?_)
 intro w60 j60 q60
 refine zE ?_
 refine zA (C58 _ _ ?_)
 refine zD (fun K61 C61 => ?_)
 refine zC ?_
 refine wplI A59 kr (zJ (d := 30) (v := .func (.func 41) #[] #[.pointer (some ⟨b52, 0, none⟩), .pointer (some ⟨b4, 0, none⟩), .pointer (some ⟨b2, 0, none⟩), .pointer (some ⟨b56, 0, none⟩)]) A59 kr (zF (t := 81) (g := false) (vs := [.func (.func 41) #[] #[.pointer (some ⟨b52, 0, none⟩), .pointer (some ⟨b4, 0, none⟩), .pointer (some ⟨b2, 0, none⟩), .pointer (some ⟨b56, 0, none⟩)]]) (ad := ⟨b56, 0, none⟩) rfl kr kr ir (j60.cells 0 rfl rfl)) ?_)
 intro a62 A62
 refine zB 1 [(31, .int .i64 s)] A62 kr kr (fun a63 A63 => ?_)
 refine wplI A63 kr (op_callF (d := 32) (f := 41) (cap := #[.pointer (some ⟨b52, 0, none⟩), .pointer (some ⟨b4, 0, none⟩), .pointer (some ⟨b2, 0, none⟩), .pointer (some ⟨b56, 0, none⟩)]) (vs := #[.int .i64 s, .pointer (some ⟨b52, 0, none⟩), .pointer (some ⟨b4, 0, none⟩), .pointer (some ⟨b2, 0, none⟩), .pointer (some ⟨b56, 0, none⟩)]) A63 kr rfl kr kr (fun w => Try.call41 _ w) (visit_c m _ w X _ _ [] [] b56 b52 gS b4 b2 m.disc.neg ad len cap ae le ce _ cs (List.replicate m.states.length false) none 0 0 [] s j60 (hst.mono (Le8 q2 q4 q10 q50 q52 q54 q56 q60)) hm0 List.length_replicate (TRow.nil _ _) rfl (by rw [unseen_rep]; omega) (by omega) (by omega) rfl) ?_)
 rintro v64 w64 ⟨rfl, Y64, rb9, ad9, ml9, cap9, S9, N9, j64, q64, hr9, hm9, hV9, hroot, hb9⟩ a65 A65
 obtain ⟨g9, cur9, rfl, rfl, hrw9⟩ := TRow.some hr9 (vis_ne hV9 (by omega) hroot)
 rw [List.nil_append] at hrw9 hm9
 refine zE ?_
 refine zA (C61 _ _ ?_)
 refine zD (fun K66 C66 => ?_)
 refine zC ?_
 refine wplI A65 kr (zJ (d := 33) (v := .slice (some ⟨g9, 0, none⟩) ml9 cap9) A65 kr (zF (t := 30) (g := false) (vs := [.slice (some ⟨g9, 0, none⟩) ml9 cap9]) (ad := ⟨b4, 0, none⟩) rfl kr kr ir (j64.cells 3 rfl rfl)) ?_)
 intro a67 A67
 refine wplI A67 kr (op_callF (d := 34) (f := 42) (cap := #[]) (vs := #[.slice (some ⟨g9, 0, none⟩) ml9 cap9]) A67 kr rfl kr kr (fun w => Try.call42 _ w) (sort_St j64 5 (g := g9) (k := ml9) (cap := cap9) (cur := cur9) (T := 3) (zs := N9) rfl hrw9 hm9 (by omega)) ?_)
 rintro v68 w68 ⟨rfl, cur8, hrw8, j68, q68⟩ a69 A69
 refine zE ?_
 refine zA (C66 _ _ ?_)
 refine zD (fun K70 C70 => ?_)
 refine zC ?_
 refine wplI A69 kr (zJ (d := 35) (v := .slice (some ⟨g9, 0, none⟩) ml9 cap9) A69 kr (zF (t := 30) (g := false) (vs := [.slice (some ⟨g9, 0, none⟩) ml9 cap9]) (ad := ⟨b4, 0, none⟩) rfl kr kr ir (j68.cells 3 rfl rfl)) ?_)
 intro a71 A71
 refine wplI A71 kr (zO (t := 30) (b := b4) (off := 0) (c' := #[.slice (some ⟨g9, 0, none⟩) ml9 cap9]) (g := false) (m := 1) 3 _ A71 kr j68 rfl kr rfl kr kr kr rfl (by first | decide | (simp; done)) kr rfl ?_)
 intro w72 j72 q72
 refine zB 1 [(5, .int .i64 0)] A71 kr kr (fun a73 A73 => ?_)
 refine zE ?_
 refine zA (C70 _ _ ?_)
 refine zQ ?_
 refine zR (v := .tuple #[.slice (some ⟨g9, 0, none⟩) ml9 cap9, .int .i64 0]) (rs := [.cell 4 30, .tmp 5]) A73 kr (Res.cell (ad := ⟨b4, 0, none⟩) (cs := [.slice (some ⟨g9, 0, none⟩) ml9 cap9]) (g := false) kr kr kr ir (j72.cells 3 rfl rfl) (Res.tmp kr Res.nil)) kr ?_
 obtain ⟨Yz, hSz, hlez, hRz⟩ := St.pubInts (A := [(b56, .cells #[.func (.func 41) #[] #[.pointer (some ⟨b52, 0, none⟩), .pointer (some ⟨b4, 0, none⟩), .pointer (some ⟨b2, 0, none⟩), .pointer (some ⟨b56, 0, none⟩)]] 81 (0, 0)), (b52, .cells #[.slice (some ⟨gS, 0, none⟩) m.states.length m.states.length] 80 (0, 0)), (gS, .cells (bvals S9) 4 (0, 0)), (b4, .cells #[.slice (some ⟨g9, 0, none⟩) ml9 cap9] 30 (0, 0)), (b2, .cells #[.bool m.disc.neg, .slice ad len cap, .slice ae le ce, .slice st m.states.length cs] 28 (0, 0))]) (B := []) (rb := [(g9, .cells cur8 3 (0, 0))]) (fun rb => [(b56, .cells #[.func (.func 41) #[] #[.pointer (some ⟨b52, 0, none⟩), .pointer (some ⟨b4, 0, none⟩), .pointer (some ⟨b2, 0, none⟩), .pointer (some ⟨b56, 0, none⟩)]] 81 (0, 0)), (b52, .cells #[.slice (some ⟨gS, 0, none⟩) m.states.length m.states.length] 80 (0, 0)), (gS, .cells (bvals S9) 4 (0, 0)), (b4, .cells #[.slice (some ⟨g9, 0, none⟩) ml9 cap9] 30 (0, 0)), (b2, .cells #[.bool m.disc.neg, .slice ad len cap, .slice ae le ce, .slice st m.states.length cs] 28 (0, 0))] ++ rb) j72 (fun _ => by rw [List.append_nil]) (.inr ⟨g9, cur8, rfl, rfl, hrw8⟩) (by rw [List.length_mergeSort]; exact hm9)
 exact ⟨hSz.upd, _, rfl, _, _, _, _, _, rfl, hRz.mono hSz.le, .inr (.inr ⟨hm0, by omega, by omega, rfl, vis_fin hm0 (by omega) (by omega) hV9 hroot⟩)⟩
end Go.Proofs.Ytoocgllbbihoaaa
namespace Go.Proofs.Ytoocgllbbihoaaa
open Go Go.Gv Go.RowKit
set_option maxRecDepth 100000
set_option maxHeartbeats 1000000
theorem list_c (w : World) (X : Hid) (hX : ∀ k o, X k o → k < w.heap.size) (q : Int) (hq : q ≠ 0) (hq1 : -9223372036854775808 ≤ q) (hq2 : q ≤ 9223372036854775807) (ad : Option Addr) (len cap : Nat) (xs : List Int) (h : Ints (rd w X) ad len cap xs) (hl : len ≤ 1000000) (hr : ∀ x ∈ xs, -9223372036854775808 ≤ x ∧ x ≤ 9223372036854775807) : Calls Try.prog 25 #[.int .i64 q, .slice ad len cap] w (Ret E0 w fun w' v => ∃ ad len cap, v = .slice ad len cap ∧ Rats (rd w' X) ad len cap (listV q xs)) := by
 have hq9 := hq
 obtain rfl := h.hlen
 have hcap := h.hcap
 have hbig := h.hbig
 refine zZ (n := 29) (vs := [.int .i64 q, .slice ad xs.length cap]) Try.func25 rfl rfl rfl kr (fun a0 A0 => ?_)
 have A0 : Fr 29 a0 [(0, .int .i64 q), (1, .slice ad xs.length cap)] := A0
 have j0 : St E0 w X w X [] := St.start hX
 refine zD (fun K1 C1 => ?_)
 refine zC ?_
 refine zB 1 [(4, .slice none 0 0)] A0 kr kr (fun a2 A2 => ?_)
 refine zE ?_
 refine zA (C1 _ _ ?_)
 refine zD (fun K3 C3 => ?_)
 refine zC ?_
 refine zB 1 [(5, .slice none 0 0)] A2 kr kr (fun a4 A4 => ?_)
 refine zE ?_
 refine zA (C3 _ _ ?_)
 refine zD (fun K5 C5 => ?_)
 refine zD (fun K6 C6 => ?_)
 refine zC ?_
 refine zB 1 [(6, .int .i64 0)] A4 kr kr (fun a7 A7 => ?_)
 refine zE ?_
 refine zA (C6 _ _ ?_)
 refine zV ?_
 refine qC (fun (k : Nat) ac w1 => ∃ (Y1 : Hid) (rb1 : List (Nat × Obj)) (adr : Option Addr) (capr : Nat) (es : List RE), Fr 29 ac [(0, .int .i64 q), (1, .slice ad xs.length cap), (5, .slice adr k capr), (6, .int .i64 (k : Int))] ∧ St E0 w X w1 Y1 (rb1) ∧ Le (rd w X) (rd w1 Y1) ∧ (TRow 25 3 rb1 adr k capr (flat es)) ∧ (es.map (·.x) = (listV q xs).take k) ∧ (∀ e ∈ es, e.ok (rd w1 Y1)) ∧ (k ≤ xs.length)) (fun (k : Nat) => xs.length - k) 0 ?_ ?_
 ·
  refine ⟨_, [], none, 0, [], A7.as [0, 1, 5, 6] kr kr, j0, Le.refl _, TRow.nil _ _, rfl, fun _ h => absurd h (by simp), Nat.zero_le _⟩
 rintro k a8 w8 ⟨Y8, rb1, adr, capr, es, A8, j8, q8, hp8_0, hp8_1, hp8_2, hp8_3⟩
 have hr1 := hp8_0
 have hq1 := hp8_1
 have hk1 := hp8_2
 have hkl := hp8_3
 refine zD (fun K9 C9 => ?_)
 refine zD (fun K10 C10 => ?_)
 refine zC ?_
 refine zB 4 [(12, .bool (decide ((k : Int) < (xs.length : Int)))), (11, .int .i64 (xs.length : Int)), (10, .slice ad xs.length cap), (9, .int .i64 (k : Int))] A8 kr kr (fun a11 A11 => ?_)
 refine zE ?_
 refine zA (C10 _ _ ?_)
 refine zS (decide ((k : Int) < (xs.length : Int))) A11 kr kr (fun hc12 => ?_) (fun hc12 => ?_)
 ·
  have A13 := A11.set 12 (v' := .bool true) kr rfl (zG hc12)
  have ht14 : (k : Int) < (xs.length : Int) := of_decide_eq_true hc12
  obtain ⟨b1, off1, rfl⟩ := h.addr (by omega)
  obtain ⟨x1, hx1, hA1⟩ := h.at (k := k) (by omega)
  have hB1 : At (rd w X) ⟨b1, off1 + k, none⟩ [.int .i64 x1] := by have h9 := hA1; unfold IntAt at h9; simpa using h9
  have hmx : (listV q xs)[k]? = some (.of (ofQ x1 q)) := by unfold listV; rw [List.getElem?_map, hx1]; rfl
  have hrg := hr x1 (List.mem_of_getElem? hx1)
  refine i_skip ?_
  refine zA (C9 _ _ ?_)
  refine zD (fun K15 C15 => ?_)
  refine zV ?_
  refine zD (fun K16 C16 => ?_)
  refine zC ?_
  refine zB 2 [(17, .int .i64 (k : Int)), (16, .slice (some ⟨b1, off1, none⟩) xs.length cap)] A13 kr kr (fun a17 A17 => ?_)
  refine wplI A17 kr (zJ (d := 18) (v := .pointer (some ⟨b1, off1 + k, none⟩)) A17 kr (zP (t := 30) (e := 3) (b := b1) (off := off1) (len := xs.length) (cap := cap) (kd := .i64) (i := (k : Int)) (g := false) (m := 1) (off' := off1 + k) rfl kr kr kr kr (by omega) (by omega) (by first | rfl | omega | (simp; done) | (simp; omega)) _) ?_)
  intro a18 A18
  refine wplI A18 kr (zJ (d := 19) (v := .int .i64 x1) A18 kr (zF (t := 3) (g := false) (vs := [.int .i64 x1]) (ad := ⟨b1, off1 + k, none⟩) rfl kr kr ir ((hB1.mono q8)).cells) ?_)
  intro a19 A19
  refine zB 1 [(20, .int .i64 q)] A19 kr kr (fun a20 A20 => ?_)
  refine wplI A20 kr (zK (d := 21) (f := 46) (cap := #[]) (vs := #[.int .i64 x1, .int .i64 q]) A20 kr j8 rfl kr kr (fun w => Try.call46 _ w) (rOf_c _ _ j8.lt x1 q (by omega) (by omega) (by omega) (by omega) hq9) ?_)
  rintro v21 w21 j21 q21 hu21 ⟨u21, rfl, ⟨ad21, len21, cap21, ae21, le21, ce21, rfl, hN21, hD21⟩⟩ a22 A22
  refine zB 3 [(23, .int .i64 0), (22, .agg #[.bool ((Raw.of (ofQ x1 q)).neg), .slice ad21 len21 cap21, .slice ae21 le21 ce21]), (15, .tuple #[.agg #[.bool ((Raw.of (ofQ x1 q)).neg), .slice ad21 len21 cap21, .slice ae21 le21 ce21], .int .i64 0])] A22 kr kr (fun a23 A23 => ?_)
  refine wplI A23 kr (zN (d := 7) (fun b => .pointer (some ⟨b, 0, none⟩)) (.cells #[.bool false, .slice none 0 0, .slice none 0 0] 25 (0, 0)) A23 kr j21 kw ?_)
  intro b24 w24 Y24 j24 q24 hu24 a25 A25
  refine wplI A25 kr (zO (t := 25) (b := b24) (off := 0) (c' := #[.bool ((Raw.of (ofQ x1 q)).neg), .slice ad21 len21 cap21, .slice ae21 le21 ce21]) (g := true) (m := 3) 0 _ A25 kr j24 rfl kr rfl kr kr kr rfl (by first | decide | (simp; done)) kr rfl ?_)
  intro w26 j26 q26
  refine zB 1 [(8, .int .i64 0)] A25 kr kr (fun a27 A27 => ?_)
  refine zE ?_
  refine zA (C16 _ _ ?_)
  refine zC ?_
  refine zB 1 [(24, .slice adr k capr)] A27 kr kr (fun a28 A28 => ?_)
  refine wplI A28 kr (zJ (d := 25) (v := .agg #[.bool ((Raw.of (ofQ x1 q)).neg), .slice ad21 len21 cap21, .slice ae21 le21 ce21]) A28 kr (zF (t := 25) (g := true) (vs := [.bool ((Raw.of (ofQ x1 q)).neg), .slice ad21 len21 cap21, .slice ae21 le21 ce21]) (ad := ⟨b24, 0, none⟩) rfl kr kr ir (j26.cells 0 rfl rfl)) ?_)
  intro a29 A29
  refine wplI A29 kr (zN (d := 26) (fun b => .slice (some ⟨b, 0, none⟩) 1 1) (.cells #[.bool ((Raw.of (ofQ x1 q)).neg), .slice ad21 len21 cap21, .slice ae21 le21 ce21] 25 (0, 0)) A29 kr j26 kw ?_)
  intro b30 w30 Y30 j30 q30 hu30 a31 A31
  refine wplI A31 kr (op_appE (d := 27) (t := 29) (e := 25) (size := 3) (m := 1) (c := 1) (nn := k) (cap := capr) (ad0 := adr) (xs := (flat es)) (news := [.bool ((Raw.of (ofQ x1 q)).neg), .slice ad21 len21 cap21, .slice ae21 le21 ce21]) (ad := ⟨b30, 0, none⟩) (z := .agg #[.bool false, .slice none 0 0, .slice none 0 0]) (i0 := Try.t25) (rb := rb1) (R1 := []) 2 A31 kr j30 rfl rfl kr kr kr kr kr kr kr hr1 (j30.cells 0 rfl rfl) kr kr (by omega) (by simp only [maxLen]; omega) (by show (_ + 1) * 56 ≤ _; omega) ?_)
  intro rb32 ad32 cap32 w32 Y32 hrow32 j32 q32 a33 A33
  have hrw32 : TRow 25 3 rb32 ad32 (k + 1) cap32 (flat (es ++ [(RE.mk (Raw.of (ofQ x1 q)) ad21 len21 cap21 ae21 le21 ce21)])) := by rw [flat_snoc]; exact hrow32
  refine zB 1 [(5, .slice ad32 (k + 1) cap32)] A33 kr kr (fun a34 A34 => ?_)
  refine zE ?_
  refine zW ?_
  refine zA (C15 _ _ ?_)
  refine zC ?_
  refine zB 2 [(14, .int .i64 (IntKind.i64.wrap ((k : Int) + 1))), (13, .int .i64 (k : Int))] A34 kr kr (fun a35 A35 => ?_)
  have A36 := A35.set 14 (v' := .int .i64 ((k : Int) + 1)) kr rfl (vint (wi64 (by omega) (by omega)))
  refine zB 1 [(6, .int .i64 ((k : Int) + 1))] A36 kr kr (fun a37 A37 => ?_)
  refine zE ?_
  refine zA ?_
  refine ⟨k + 1, ⟨_, rb32, ad32, cap32, (es ++ [(RE.mk (Raw.of (ofQ x1 q)) ad21 len21 cap21 ae21 le21 ce21)]), A37.as [0, 1, 5, 6] kr kr, j32.tail.tail, (Le6 q8 q21 q24 q26 q30 q32), hrw32, by rw [List.map_append, hq1, take_snoc hmx]; rfl, fun e he => by rcases List.mem_append.1 he with h1 | h1; exact (hk1 e h1).mono (Le5 q21 q24 q26 q30 q32); obtain rfl := List.mem_singleton.1 h1; exact ⟨(hN21.mono (Le4 q24 q26 q30 q32)), (hD21.mono (Le4 q24 q26 q30 q32))⟩, by omega⟩, ?_⟩
  first | omega | (simp; omega)
 have A38 := A11.set 12 (v' := .bool false) kr rfl (zG hc12)
 have ht39 : ¬ ((k : Int) < (xs.length : Int)) := of_decide_eq_false hc12
 refine i_exit ?_
 refine zT ?_
 refine zT ?_
 refine qA ?_
 refine zA (C5 _ _ ?_)
 refine zD (fun K40 C40 => ?_)
 refine zC ?_
 refine zB 2 [(4, .slice adr k capr), (28, .slice adr k capr)] A38 kr kr (fun a41 A41 => ?_)
 refine zE ?_
 refine zA (C40 _ _ ?_)
 refine zQ ?_
 refine zR (v := .slice adr k capr) (rs := [.tmp 4]) A41 kr (Res.tmp kr Res.nil) kr ?_
 have hll : (listV q xs).length = xs.length := List.length_map _
 obtain ⟨Y42, hSx42, q42, hRx42⟩ := St.pubRats (A := []) (B := []) (fun rb => (rb)) j8 (fun _ => by simp only [List.append_assoc, List.cons_append, List.nil_append, List.append_nil]) hr1 (row_len hq1 (by omega)) (fun e he => (hk1 e he).mono (Le.refl _))
 have j42 : St E0 w X w8 Y42 [] := hSx42
 have hR42 : Rats (rd w8 Y42) adr k capr (listV q xs) := by have h9 := hRx42; rwa [show es.map (·.x) = listV q xs from hq1.trans (List.take_of_length_le (by omega))] at h9
 exact ⟨j42.upd, _, rfl, _, _, _, rfl, hR42.mono j42.le⟩
theorem outs_one {r : Rd} {b : Nat} {o : Out} {a1 : Option Addr} {a2 a3 : Nat} {a4 : Option Addr} {a5 a6 : Nat} (h : At r ⟨b, 0, none⟩ [.int .i64 o.to, .bool o.p.neg, .slice a1 a2 a3, .slice a4 a5 a6]) (h1 : Limbs r a1 a2 a3 o.p.ln) (h2 : Limbs r a4 a5 a6 o.p.ld) : OutsR r (some ⟨b, 0, none⟩) 1 1 [o] :=
  ⟨rfl, Nat.le_refl _, by omega, .inr ⟨b, 0, rfl, fun i x hi => by
    rcases i with _ | i
    · simp at hi; subst hi; exact ⟨a1, a2, a3, a4, a5, a6, h, h1, h2⟩
    · simp at hi⟩⟩
theorem acts_one {r : Rd} {b : Nat} {o : Actn} (h : ActAt r ⟨b, 0, none⟩ o) : ActsR r (some ⟨b, 0, none⟩) 1 1 [o] :=
  ⟨rfl, Nat.le_refl _, by omega, .inr ⟨b, 0, rfl, fun i x hi => by
    rcases i with _ | i
    · simp at hi; subst hi; exact h
    · simp at hi⟩⟩
theorem acts_two {r : Rd} {b : Nat} {o p : Actn} (h : ActAt r ⟨b, 0, none⟩ o) (h2 : ActAt r ⟨b, 4, none⟩ p) : ActsR r (some ⟨b, 0, none⟩) 2 2 [o, p] :=
  ⟨rfl, Nat.le_refl _, by omega, .inr ⟨b, 0, rfl, fun i x hi => by
    rcases i with _ | _ | i
    · simp at hi; subst hi; exact h
    · simp at hi; subst hi; exact h2
    · simp at hi⟩⟩
theorem states_two {r : Rd} {b : Nat} {o p : List Actn} (h : StateAt r ⟨b, 0, none⟩ o) (h2 : StateAt r ⟨b, 1, none⟩ p) : StatesR r (some ⟨b, 0, none⟩) 2 2 [o, p] :=
  ⟨rfl, Nat.le_refl _, by omega, .inr ⟨b, 0, rfl, fun i x hi => by
    rcases i with _ | _ | i
    · simp at hi; subst hi; exact h
    · simp at hi; subst hi; exact h2
    · simp at hi⟩⟩
theorem pre4 {a b c d : Value} {l : List Value} {j : Nat} {v : Value} (h : [a, b, c, d][j]? = some v) : (a :: b :: c :: d :: l)[j]? = some v := by
  rcases j with _ | _ | _ | _ | j <;> simp_all
theorem pre1 {a : Value} {l : List Value} {j : Nat} {v : Value} (h : [a][j]? = some v) : (a :: l)[j]? = some v := by
  rcases j with _ | j <;> simp_all
theorem small_c (w : World) (X : Hid) (hX : ∀ k o, X k o → k < w.heap.size) : Calls Try.prog 26 #[] w (Ret E0 w fun w' v => ∃ ad len cap ae le ce st ls cs, v = .agg #[.bool smallM.disc.neg, .slice ad len cap, .slice ae le ce, .slice st ls cs] ∧ Limbs (rd w' X) ad len cap smallM.disc.ln ∧ Limbs (rd w' X) ae le ce smallM.disc.ld ∧ StatesR (rd w' X) st ls cs smallM.states) := by
 refine zZ (n := 28) (vs := []) Try.func26 rfl rfl rfl kr (fun a0 A0 => ?_)
 have A0 : Fr 28 a0 [] := A0
 have j0 : St E0 w X w X [] := St.start hX
 refine zD (fun K1 C1 => ?_)
 refine zC ?_
 refine wplI A0 kr (zN (d := 0) (fun b => .pointer (some ⟨b, 0, none⟩)) (.cells #[.bool false, .slice none 0 0, .slice none 0 0, .slice none 0 0] 28 (0, 0)) A0 kr j0 kw ?_)
 intro b2 w2 Y2 j2 q2 hu2 a3 A3
 refine zE ?_
 refine zA (C1 _ _ ?_)
 refine zD (fun K4 C4 => ?_)
 refine zC ?_
 refine wplI A3 kr (zK (d := 4) (f := 47) (cap := #[]) (vs := #[.int .i64 1]) A3 kr j2 rfl kr kr (fun w => Try.call47 _ w) (rFrom_c _ _ j2.lt 1 (by omega) (by omega)) ?_)
 rintro v5 w5 j5 q5 hu5 ⟨ad5, len5, cap5, ae5, le5, ce5, rfl, hN5, hD5⟩ a6 A6
 refine wplI A6 kr (zN (d := 1) (fun b => .pointer (some ⟨b, 0, none⟩)) (.cells #[.bool false, .slice none 0 0, .slice none 0 0] 25 (0, 0)) A6 kr j5 kw ?_)
 intro b7 w7 Y7 j7 q7 hu7 a8 A8
 refine wplI A8 kr (zO (t := 25) (b := b7) (off := 0) (c' := #[.bool ((Raw.of ((1 : Int) : Rat)).neg), .slice ad5 len5 cap5, .slice ae5 le5 ce5]) (g := true) (m := 3) 0 _ A8 kr j7 rfl kr rfl kr kr kr rfl (by first | decide | (simp; done)) kr rfl ?_)
 intro w9 j9 q9
 refine zE ?_
 refine zA (C4 _ _ ?_)
 refine zD (fun K10 C10 => ?_)
 refine zC ?_
 refine wplI A8 kr (zK (d := 6) (f := 46) (cap := #[]) (vs := #[.int .i64 1, .int .i64 2]) A8 kr j9 rfl kr kr (fun w => Try.call46 _ w) (rOf_c _ _ j9.lt 1 2 (by omega) (by omega) (by omega) (by omega) (by omega)) ?_)
 rintro v11 w11 j11 q11 hu11 ⟨u11, rfl, ⟨ad11, len11, cap11, ae11, le11, ce11, rfl, hN11, hD11⟩⟩ a12 A12
 refine zB 3 [(8, .int .i64 0), (7, .agg #[.bool ((Raw.of (ofQ 1 2)).neg), .slice ad11 len11 cap11, .slice ae11 le11 ce11]), (5, .tuple #[.agg #[.bool ((Raw.of (ofQ 1 2)).neg), .slice ad11 len11 cap11, .slice ae11 le11 ce11], .int .i64 0])] A12 kr kr (fun a13 A13 => ?_)
 refine wplI A13 kr (zN (d := 2) (fun b => .pointer (some ⟨b, 0, none⟩)) (.cells #[.bool false, .slice none 0 0, .slice none 0 0] 25 (0, 0)) A13 kr j11 kw ?_)
 intro b14 w14 Y14 j14 q14 hu14 a15 A15
 refine wplI A15 kr (zO (t := 25) (b := b14) (off := 0) (c' := #[.bool ((Raw.of (ofQ 1 2)).neg), .slice ad11 len11 cap11, .slice ae11 le11 ce11]) (g := true) (m := 3) 0 _ A15 kr j14 rfl kr rfl kr kr kr rfl (by first | decide | (simp; done)) kr rfl ?_)
 intro w16 j16 q16
 refine zB 1 [(3, .int .i64 0)] A15 kr kr (fun a17 A17 => ?_)
 refine zE ?_
 refine zA (C10 _ _ ?_)
 refine zD (fun K18 C18 => ?_)
 have hJ9002 : ∀ a9002 w9002, (∃ (Y9002 : Hid) (b179 : Nat) (b119 : Nat) (b171 : Nat) (b155 : Nat) (b28 : Nat) (ad38 : Option Addr) (len38 : Nat) (cap38 : Nat) (ae38 : Option Addr) (le38 : Nat) (ce38 : Nat) (b72 : Nat), Fr 28 a9002 [(0, .pointer (some ⟨b2, 0, none⟩))] ∧ St E0 w X w9002 Y9002 [(b179, .cells #[.slice (some ⟨b119, 0, none⟩) 2 2, .slice (some ⟨b171, 0, none⟩) 1 1] 40 (0, 0)), (b171, .cells #[.bool false, .slice none 0 0, .slice none 0 0, .slice (some ⟨b155, 0, none⟩) 1 1] 55 (0, 0)), (b155, .cells #[.int .i64 1, .bool ((Raw.of ((1 : Int) : Rat)).neg), .slice ad5 len5 cap5, .slice ae5 le5 ce5] 57 (0, 0)), (b119, .cells #[.bool ((Raw.of ((1 : Int) : Rat)).neg), .slice ad5 len5 cap5, .slice ae5 le5 ce5, .slice (some ⟨b28, 0, none⟩) 1 1, .bool ((Raw.of ((3 : Int) : Rat)).neg), .slice ad38 len38 cap38, .slice ae38 le38 ce38, .slice (some ⟨b72, 0, none⟩) 1 1] 55 (0, 0)), (b72, .cells #[.int .i64 1, .bool ((Raw.of ((1 : Int) : Rat)).neg), .slice ad5 len5 cap5, .slice ae5 le5 ce5] 57 (0, 0)), (b28, .cells #[.int .i64 0, .bool ((Raw.of ((1 : Int) : Rat)).neg), .slice ad5 len5 cap5, .slice ae5 le5 ce5] 57 (0, 0)), (b14, .cells #[.bool ((Raw.of (ofQ 1 2)).neg), .slice ad11 len11 cap11, .slice ae11 le11 ce11] 25 (0, 0)), (b7, .cells #[.bool ((Raw.of ((1 : Int) : Rat)).neg), .slice ad5 len5 cap5, .slice ae5 le5 ce5] 25 (0, 0)), (b2, .cells #[.bool ((Raw.of (ofQ 1 2)).neg), .slice ad11 len11 cap11, .slice ae11 le11 ce11, .slice (some ⟨b179, 0, none⟩) 2 2] 28 (0, 0))] ∧ Le (rd w16 Y14) (rd w9002 Y9002) ∧ (Limbs (rd w9002 Y9002) ad38 len38 cap38 ((Raw.of ((3 : Int) : Rat)).ln)) ∧ (Limbs (rd w9002 Y9002) ae38 le38 ce38 ((Raw.of ((3 : Int) : Rat)).ld))) → K18 a9002 w9002 := by
  rintro a9002 w9002 ⟨Y9002, b179, b119, b171, b155, b28, ad38, len38, cap38, ae38, le38, ce38, b72, A9002, j9002, q9002, hN38, hD38⟩
  refine C18 _ _ ?_
  refine zQ ?_
  refine zR (v := .agg #[.bool ((Raw.of (ofQ 1 2)).neg), .slice ad11 len11 cap11, .slice ae11 le11 ce11, .slice (some ⟨b179, 0, none⟩) 2 2]) (rs := [.cell 0 28]) A9002 kr (Res.cell (ad := ⟨b2, 0, none⟩) (cs := [.bool ((Raw.of (ofQ 1 2)).neg), .slice ad11 len11 cap11, .slice ae11 le11 ce11, .slice (some ⟨b179, 0, none⟩) 2 2]) (g := true) kr kr kr ir (j9002.cells 8 rfl rfl) Res.nil) kr ?_
  obtain ⟨j183, q183, hat183⟩ := St.publish j9002 (j9002.own_ge 0 rfl)
  obtain ⟨j184, q184, hat184⟩ := St.publish j183 (j183.own_ge 0 rfl)
  obtain ⟨j185, q185, hat185⟩ := St.publish j184 (j184.own_ge 0 rfl)
  obtain ⟨j186, q186, hat186⟩ := St.publish j185 (j185.own_ge 0 rfl)
  obtain ⟨j187, q187, hat187⟩ := St.publish j186 (j186.own_ge 0 rfl)
  obtain ⟨j188, q188, hat188⟩ := St.publish j187 (j187.own_ge 0 rfl)
  obtain ⟨j189, q189, hat189⟩ := St.publish j188 (j188.own_ge 0 rfl)
  obtain ⟨j190, q190, hat190⟩ := St.publish j189 (j189.own_ge 0 rfl)
  obtain ⟨j191, q191, hat191⟩ := St.publish j190 (j190.own_ge 0 rfl)
  have ho1 := outs_one (o := ⟨0, .of 1⟩) (hat188.mono (Le3 q189 q190 q191)) (hN5.mono (Le15 q7 q9 q11 q14 q16 q9002 q183 q184 q185 q186 q187 q188 q189 q190 q191)) (hD5.mono (Le15 q7 q9 q11 q14 q16 q9002 q183 q184 q185 q186 q187 q188 q189 q190 q191))
  have ho2 := outs_one (o := ⟨1, .of 1⟩) (hat187.mono (Le4 q188 q189 q190 q191)) (hN5.mono (Le15 q7 q9 q11 q14 q16 q9002 q183 q184 q185 q186 q187 q188 q189 q190 q191)) (hD5.mono (Le15 q7 q9 q11 q14 q16 q9002 q183 q184 q185 q186 q187 q188 q189 q190 q191))
  have ho3 := outs_one (o := ⟨1, .of 1⟩) (hat185.mono (Le6 q186 q187 q188 q189 q190 q191)) (hN5.mono (Le15 q7 q9 q11 q14 q16 q9002 q183 q184 q185 q186 q187 q188 q189 q190 q191)) (hD5.mono (Le15 q7 q9 q11 q14 q16 q9002 q183 q184 q185 q186 q187 q188 q189 q190 q191))
  have hA0 := (hat186.mono (Le5 q187 q188 q189 q190 q191))
  have ha1 := acts_two (o := ⟨.of 1, [⟨0, .of 1⟩]⟩) (p := ⟨.of 3, [⟨1, .of 1⟩]⟩) ⟨_, _, _, _, _, _, _, _, _, fun j v hj => hA0 j v (pre4 hj), (hN5.mono (Le15 q7 q9 q11 q14 q16 q9002 q183 q184 q185 q186 q187 q188 q189 q190 q191)), (hD5.mono (Le15 q7 q9 q11 q14 q16 q9002 q183 q184 q185 q186 q187 q188 q189 q190 q191)), ho1⟩ ⟨_, _, _, _, _, _, _, _, _, At.drop hA0 4 rfl, (hN38.mono (Le9 q183 q184 q185 q186 q187 q188 q189 q190 q191)), (hD38.mono (Le9 q183 q184 q185 q186 q187 q188 q189 q190 q191)), ho2⟩
  have ha2 := acts_one (o := ⟨.zero, [⟨1, .of 1⟩]⟩) ⟨_, _, _, _, _, _, _, _, _, (hat184.mono (Le7 q185 q186 q187 q188 q189 q190 q191)), Limbs.nil none (by omega), Limbs.nil none (by omega), ho3⟩
  have hB0 := (hat183.mono (Le8 q184 q185 q186 q187 q188 q189 q190 q191))
  have hs1 := states_two ⟨_, _, _, fun j v hj => hB0 j v (pre1 hj), ha1⟩ ⟨_, _, _, At.drop hB0 1 rfl, ha2⟩
  exact ⟨j191.upd, _, rfl, _, _, _, _, _, _, _, _, _, rfl, (hN11.mono (Le12 q14 q16 q9002 q183 q184 q185 q186 q187 q188 q189 q190 q191)).mono j191.le, (hD11.mono (Le12 q14 q16 q9002 q183 q184 q185 q186 q187 q188 q189 q190 q191)).mono j191.le, hs1.mono j191.le⟩
 refine qD (N := 20) (Held [(⟨b14, 0, none⟩, [.bool ((Raw.of (ofQ 1 2)).neg), .slice ad11 len11 cap11, .slice ae11 le11 ce11]), (⟨b7, 0, none⟩, [.bool ((Raw.of ((1 : Int) : Rat)).neg), .slice ad5 len5 cap5, .slice ae5 le5 ce5])]) [19] kr kr kr j16 ?_
 intro w19 j19 q19 hu19
 refine zX (Held.cons (j19.cells 0 rfl rfl) (Held.cons (j19.cells 1 rfl rfl) (Held.nil _))) (fun hH19 => ?_)
 refine t_name (fun G hG1 hG2 => ?_)
 have hI9003 : ∀ a9003 w9003, (∃ (Y9003 : Hid) (b119 : Nat) (b171 : Nat) (b155 : Nat) (b28 : Nat) (ad38 : Option Addr) (len38 : Nat) (cap38 : Nat) (ae38 : Option Addr) (le38 : Nat) (ce38 : Nat) (b72 : Nat), Fr 28 a9003 [(0, .pointer (some ⟨b2, 0, none⟩)), (9, .agg #[.bool ((Raw.of (ofQ 1 2)).neg), .slice ad11 len11 cap11, .slice ae11 le11 ce11]), (20, .slice (some ⟨b119, 0, none⟩) 2 2), (25, .slice (some ⟨b171, 0, none⟩) 1 1)] ∧ St E0 w X w9003 Y9003 [(b171, .cells #[.bool false, .slice none 0 0, .slice none 0 0, .slice (some ⟨b155, 0, none⟩) 1 1] 55 (0, 0)), (b155, .cells #[.int .i64 1, .bool ((Raw.of ((1 : Int) : Rat)).neg), .slice ad5 len5 cap5, .slice ae5 le5 ce5] 57 (0, 0)), (b119, .cells #[.bool ((Raw.of ((1 : Int) : Rat)).neg), .slice ad5 len5 cap5, .slice ae5 le5 ce5, .slice (some ⟨b28, 0, none⟩) 1 1, .bool ((Raw.of ((3 : Int) : Rat)).neg), .slice ad38 len38 cap38, .slice ae38 le38 ce38, .slice (some ⟨b72, 0, none⟩) 1 1] 55 (0, 0)), (b72, .cells #[.int .i64 1, .bool ((Raw.of ((1 : Int) : Rat)).neg), .slice ad5 len5 cap5, .slice ae5 le5 ce5] 57 (0, 0)), (b28, .cells #[.int .i64 0, .bool ((Raw.of ((1 : Int) : Rat)).neg), .slice ad5 len5 cap5, .slice ae5 le5 ce5] 57 (0, 0)), (b14, .cells #[.bool ((Raw.of (ofQ 1 2)).neg), .slice ad11 len11 cap11, .slice ae11 le11 ce11] 25 (0, 0)), (b7, .cells #[.bool ((Raw.of ((1 : Int) : Rat)).neg), .slice ad5 len5 cap5, .slice ae5 le5 ce5] 25 (0, 0)), (b2, .cells #[.bool false, .slice none 0 0, .slice none 0 0, .slice none 0 0] 28 (0, 0))] ∧ Le (rd w19 Y14) (rd w9003 Y9003) ∧ (Limbs (rd w9003 Y9003) ad38 len38 cap38 ((Raw.of ((3 : Int) : Rat)).ln)) ∧ (Limbs (rd w9003 Y9003) ae38 le38 ce38 ((Raw.of ((3 : Int) : Rat)).ld))) → G 3 #[true, true, true, true, true, true, true, true, true, true, true, true, true, true, true, true, true, false, false, false] a9003 w9003 := by
  rintro a9003 w9003 ⟨Y9003, b119, b171, b155, b28, ad38, len38, cap38, ae38, le38, ce38, b72, A9003, j9003, q9003, hN38, hD38⟩
  refine hG1 _ _ _ _ ?_
  refine zX (Held.cons (j9003.cells 5 rfl rfl) (Held.cons (j9003.cells 6 rfl rfl) (Held.nil _))) (fun hH9003 => ?_)
  refine zM [17] kr rfl ?_
  refine ForkT.cons (i := 17) A9003 rfl kr (zN (d := 26) (fun b => .slice (some ⟨b, 0, none⟩) 2 2) (.cells #[.slice (some ⟨b119, 0, none⟩) 2 2, .slice (some ⟨b171, 0, none⟩) 1 1] 40 (0, 0)) A9003 kr j9003 kw ?_) ForkT.nil
  intro b179 w179 Y179 j179 q179 hu179 a180 A180
  refine zI (hH9003.up hu179) (fun hH179 => ?_)
  refine zH (d := 27) (v := .agg #[.bool ((Raw.of (ofQ 1 2)).neg), .slice ad11 len11 cap11, .slice ae11 le11 ce11, .slice (some ⟨b179, 0, none⟩) 2 2]) 18 A180 rfl kr kr kw (fun _ => hH179) ?_
  intro a181 A181
  refine zM [19] kr rfl ?_
  refine ForkT.cons (i := 19) A181 rfl kr (zO (t := 28) (b := b2) (off := 0) (c' := #[.bool ((Raw.of (ofQ 1 2)).neg), .slice ad11 len11 cap11, .slice ae11 le11 ce11, .slice (some ⟨b179, 0, none⟩) 2 2]) (g := true) (m := 4) 8 _ A181 kr j179 rfl kr rfl kr kr kr rfl (by first | decide | (simp; done)) kr rfl ?_) ForkT.nil
  intro w182 j182 q182
  refine ⟨begun_tt kr, ?_⟩
  refine qB kr (nrm ?_)
  exact zA (hJ9002 _ _ ⟨_, b179, b119, b171, b155, b28, ad38, len38, cap38, ae38, le38, ce38, b72, A181.as [0] kr kr, j182, (Le4 q19 q9003 q179 q182), (hN38.mono (Le2 q179 q182)), (hD38.mono (Le2 q179 q182))⟩)
 have hI9004 : ∀ a9004 w9004, (∃ (Y9004 : Hid) (b119 : Nat) (b155 : Nat) (b28 : Nat) (ad38 : Option Addr) (len38 : Nat) (cap38 : Nat) (ae38 : Option Addr) (le38 : Nat) (ce38 : Nat) (b72 : Nat), Fr 28 a9004 [(0, .pointer (some ⟨b2, 0, none⟩)), (9, .agg #[.bool ((Raw.of (ofQ 1 2)).neg), .slice ad11 len11 cap11, .slice ae11 le11 ce11]), (20, .slice (some ⟨b119, 0, none⟩) 2 2), (24, .agg #[.bool false, .slice none 0 0, .slice none 0 0, .slice (some ⟨b155, 0, none⟩) 1 1])] ∧ St E0 w X w9004 Y9004 [(b155, .cells #[.int .i64 1, .bool ((Raw.of ((1 : Int) : Rat)).neg), .slice ad5 len5 cap5, .slice ae5 le5 ce5] 57 (0, 0)), (b119, .cells #[.bool ((Raw.of ((1 : Int) : Rat)).neg), .slice ad5 len5 cap5, .slice ae5 le5 ce5, .slice (some ⟨b28, 0, none⟩) 1 1, .bool ((Raw.of ((3 : Int) : Rat)).neg), .slice ad38 len38 cap38, .slice ae38 le38 ce38, .slice (some ⟨b72, 0, none⟩) 1 1] 55 (0, 0)), (b72, .cells #[.int .i64 1, .bool ((Raw.of ((1 : Int) : Rat)).neg), .slice ad5 len5 cap5, .slice ae5 le5 ce5] 57 (0, 0)), (b28, .cells #[.int .i64 0, .bool ((Raw.of ((1 : Int) : Rat)).neg), .slice ad5 len5 cap5, .slice ae5 le5 ce5] 57 (0, 0)), (b14, .cells #[.bool ((Raw.of (ofQ 1 2)).neg), .slice ad11 len11 cap11, .slice ae11 le11 ce11] 25 (0, 0)), (b7, .cells #[.bool ((Raw.of ((1 : Int) : Rat)).neg), .slice ad5 len5 cap5, .slice ae5 le5 ce5] 25 (0, 0)), (b2, .cells #[.bool false, .slice none 0 0, .slice none 0 0, .slice none 0 0] 28 (0, 0))] ∧ Le (rd w19 Y14) (rd w9004 Y9004) ∧ (Limbs (rd w9004 Y9004) ad38 len38 cap38 ((Raw.of ((3 : Int) : Rat)).ln)) ∧ (Limbs (rd w9004 Y9004) ae38 le38 ce38 ((Raw.of ((3 : Int) : Rat)).ld))) → G 4 #[true, true, true, true, true, true, true, true, true, true, true, true, true, true, true, true, false, false, false, false] a9004 w9004 := by
  rintro a9004 w9004 ⟨Y9004, b119, b155, b28, ad38, len38, cap38, ae38, le38, ce38, b72, A9004, j9004, q9004, hN38, hD38⟩
  refine hG1 _ _ _ _ ?_
  refine zX (Held.cons (j9004.cells 4 rfl rfl) (Held.cons (j9004.cells 5 rfl rfl) (Held.nil _))) (fun hH9004 => ?_)
  refine zM [16] kr rfl ?_
  refine ForkT.cons (i := 16) A9004 rfl kr (zN (d := 25) (fun b => .slice (some ⟨b, 0, none⟩) 1 1) (.cells #[.bool false, .slice none 0 0, .slice none 0 0, .slice (some ⟨b155, 0, none⟩) 1 1] 55 (0, 0)) A9004 kr j9004 kw ?_) ForkT.nil
  intro b183 w183 Y183 j183 q183 hu183 a184 A184
  refine zI (hH9004.up hu183) (fun hH183 => ?_)
  refine hG2 _ _ _ _ (G_cast kr (hI9003 _ _ ⟨_, b119, b183, b155, b28, ad38, len38, cap38, ae38, le38, ce38, b72, A184.as [0, 9, 20, 25] kr kr, j183, (Le2 q9004 q183), (hN38.mono q183), (hD38.mono q183)⟩))
 have hI9005 : ∀ a9005 w9005, (∃ (Y9005 : Hid) (b28 : Nat) (ad38 : Option Addr) (len38 : Nat) (cap38 : Nat) (ae38 : Option Addr) (le38 : Nat) (ce38 : Nat) (b72 : Nat) (b160 : Nat) (b121 : Nat), Fr 28 a9005 [(0, .pointer (some ⟨b2, 0, none⟩)), (9, .agg #[.bool ((Raw.of (ofQ 1 2)).neg), .slice ad11 len11 cap11, .slice ae11 le11 ce11]), (14, .agg #[.bool ((Raw.of ((1 : Int) : Rat)).neg), .slice ad5 len5 cap5, .slice ae5 le5 ce5, .slice (some ⟨b28, 0, none⟩) 1 1]), (19, .agg #[.bool ((Raw.of ((3 : Int) : Rat)).neg), .slice ad38 len38 cap38, .slice ae38 le38 ce38, .slice (some ⟨b72, 0, none⟩) 1 1]), (25, .slice (some ⟨b160, 0, none⟩) 1 1)] ∧ St E0 w X w9005 Y9005 [(b160, .cells #[.bool false, .slice none 0 0, .slice none 0 0, .slice (some ⟨b121, 0, none⟩) 1 1] 55 (0, 0)), (b121, .cells #[.int .i64 1, .bool ((Raw.of ((1 : Int) : Rat)).neg), .slice ad5 len5 cap5, .slice ae5 le5 ce5] 57 (0, 0)), (b72, .cells #[.int .i64 1, .bool ((Raw.of ((1 : Int) : Rat)).neg), .slice ad5 len5 cap5, .slice ae5 le5 ce5] 57 (0, 0)), (b28, .cells #[.int .i64 0, .bool ((Raw.of ((1 : Int) : Rat)).neg), .slice ad5 len5 cap5, .slice ae5 le5 ce5] 57 (0, 0)), (b14, .cells #[.bool ((Raw.of (ofQ 1 2)).neg), .slice ad11 len11 cap11, .slice ae11 le11 ce11] 25 (0, 0)), (b7, .cells #[.bool ((Raw.of ((1 : Int) : Rat)).neg), .slice ad5 len5 cap5, .slice ae5 le5 ce5] 25 (0, 0)), (b2, .cells #[.bool false, .slice none 0 0, .slice none 0 0, .slice none 0 0] 28 (0, 0))] ∧ Le (rd w19 Y14) (rd w9005 Y9005) ∧ (Limbs (rd w9005 Y9005) ad38 len38 cap38 ((Raw.of ((3 : Int) : Rat)).ln)) ∧ (Limbs (rd w9005 Y9005) ae38 le38 ce38 ((Raw.of ((3 : Int) : Rat)).ld))) → G 4 #[true, true, true, true, true, true, true, true, true, true, true, false, true, true, true, true, true, false, false, false] a9005 w9005 := by
  rintro a9005 w9005 ⟨Y9005, b28, ad38, len38, cap38, ae38, le38, ce38, b72, b160, b121, A9005, j9005, q9005, hN38, hD38⟩
  refine hG1 _ _ _ _ ?_
  refine zX (Held.cons (j9005.cells 4 rfl rfl) (Held.cons (j9005.cells 5 rfl rfl) (Held.nil _))) (fun hH9005 => ?_)
  refine zM [11] kr rfl ?_
  refine ForkT.cons (i := 11) A9005 rfl kr (zN (d := 20) (fun b => .slice (some ⟨b, 0, none⟩) 2 2) (.cells #[.bool ((Raw.of ((1 : Int) : Rat)).neg), .slice ad5 len5 cap5, .slice ae5 le5 ce5, .slice (some ⟨b28, 0, none⟩) 1 1, .bool ((Raw.of ((3 : Int) : Rat)).neg), .slice ad38 len38 cap38, .slice ae38 le38 ce38, .slice (some ⟨b72, 0, none⟩) 1 1] 55 (0, 0)) A9005 kr j9005 kw ?_) ForkT.nil
  intro b185 w185 Y185 j185 q185 hu185 a186 A186
  refine zI (hH9005.up hu185) (fun hH185 => ?_)
  refine hG2 _ _ _ _ (G_cast kr (hI9003 _ _ ⟨_, b185, b160, b121, b28, ad38, len38, cap38, ae38, le38, ce38, b72, A186.as [0, 9, 20, 25] kr kr, (St.swapAt [(b160, .cells #[.bool false, .slice none 0 0, .slice none 0 0, .slice (some ⟨b121, 0, none⟩) 1 1] 55 (0, 0))] (St.swapAt [] j185)), (Le2 q9005 q185), (hN38.mono q185), (hD38.mono q185)⟩))
 have hI9006 : ∀ a9006 w9006, (∃ (Y9006 : Hid) (b28 : Nat) (ad38 : Option Addr) (len38 : Nat) (cap38 : Nat) (ae38 : Option Addr) (le38 : Nat) (ce38 : Nat) (b72 : Nat) (b121 : Nat), Fr 28 a9006 [(0, .pointer (some ⟨b2, 0, none⟩)), (9, .agg #[.bool ((Raw.of (ofQ 1 2)).neg), .slice ad11 len11 cap11, .slice ae11 le11 ce11]), (14, .agg #[.bool ((Raw.of ((1 : Int) : Rat)).neg), .slice ad5 len5 cap5, .slice ae5 le5 ce5, .slice (some ⟨b28, 0, none⟩) 1 1]), (19, .agg #[.bool ((Raw.of ((3 : Int) : Rat)).neg), .slice ad38 len38 cap38, .slice ae38 le38 ce38, .slice (some ⟨b72, 0, none⟩) 1 1]), (24, .agg #[.bool false, .slice none 0 0, .slice none 0 0, .slice (some ⟨b121, 0, none⟩) 1 1])] ∧ St E0 w X w9006 Y9006 [(b121, .cells #[.int .i64 1, .bool ((Raw.of ((1 : Int) : Rat)).neg), .slice ad5 len5 cap5, .slice ae5 le5 ce5] 57 (0, 0)), (b72, .cells #[.int .i64 1, .bool ((Raw.of ((1 : Int) : Rat)).neg), .slice ad5 len5 cap5, .slice ae5 le5 ce5] 57 (0, 0)), (b28, .cells #[.int .i64 0, .bool ((Raw.of ((1 : Int) : Rat)).neg), .slice ad5 len5 cap5, .slice ae5 le5 ce5] 57 (0, 0)), (b14, .cells #[.bool ((Raw.of (ofQ 1 2)).neg), .slice ad11 len11 cap11, .slice ae11 le11 ce11] 25 (0, 0)), (b7, .cells #[.bool ((Raw.of ((1 : Int) : Rat)).neg), .slice ad5 len5 cap5, .slice ae5 le5 ce5] 25 (0, 0)), (b2, .cells #[.bool false, .slice none 0 0, .slice none 0 0, .slice none 0 0] 28 (0, 0))] ∧ Le (rd w19 Y14) (rd w9006 Y9006) ∧ (Limbs (rd w9006 Y9006) ad38 len38 cap38 ((Raw.of ((3 : Int) : Rat)).ln)) ∧ (Limbs (rd w9006 Y9006) ae38 le38 ce38 ((Raw.of ((3 : Int) : Rat)).ld))) → G 5 #[true, true, true, true, true, true, true, true, true, true, true, false, true, true, true, true, false, false, false, false] a9006 w9006 := by
  rintro a9006 w9006 ⟨Y9006, b28, ad38, len38, cap38, ae38, le38, ce38, b72, b121, A9006, j9006, q9006, hN38, hD38⟩
  refine hG1 _ _ _ _ ?_
  refine zX (Held.cons (j9006.cells 3 rfl rfl) (Held.cons (j9006.cells 4 rfl rfl) (Held.nil _))) (fun hH9006 => ?_)
  refine zM [11, 16] kr rfl ?_
  refine ForkT.cons (i := 11) A9006 rfl kr ?_ ?_
  ·
   refine zN (d := 20) (fun b => .slice (some ⟨b, 0, none⟩) 2 2) (.cells #[.bool ((Raw.of ((1 : Int) : Rat)).neg), .slice ad5 len5 cap5, .slice ae5 le5 ce5, .slice (some ⟨b28, 0, none⟩) 1 1, .bool ((Raw.of ((3 : Int) : Rat)).neg), .slice ad38 len38 cap38, .slice ae38 le38 ce38, .slice (some ⟨b72, 0, none⟩) 1 1] 55 (0, 0)) A9006 kr j9006 kw ?_
   intro b187 w187 Y187 j187 q187 hu187 a188 A188
   refine zI (hH9006.up hu187) (fun hH187 => ?_)
   refine hG2 _ _ _ _ (G_cast kr (hI9004 _ _ ⟨_, b187, b121, b28, ad38, len38, cap38, ae38, le38, ce38, b72, A188.as [0, 9, 20, 24] kr kr, (St.swapAt [] j187), (Le2 q9006 q187), (hN38.mono q187), (hD38.mono q187)⟩))
  refine ForkT.cons (i := 16) A9006 rfl kr (zN (d := 25) (fun b => .slice (some ⟨b, 0, none⟩) 1 1) (.cells #[.bool false, .slice none 0 0, .slice none 0 0, .slice (some ⟨b121, 0, none⟩) 1 1] 55 (0, 0)) A9006 kr j9006 kw ?_) ForkT.nil
  intro b189 w189 Y189 j189 q189 hu189 a190 A190
  refine zI (hH9006.up hu189) (fun hH189 => ?_)
  refine hG2 _ _ _ _ (G_cast kr (hI9005 _ _ ⟨_, b28, ad38, len38, cap38, ae38, le38, ce38, b72, b189, b121, A190.as [0, 9, 14, 19, 25] kr kr, j189, (Le2 q9006 q189), (hN38.mono q189), (hD38.mono q189)⟩))
 have hI9007 : ∀ a9007 w9007, (∃ (Y9007 : Hid) (b28 : Nat) (ad38 : Option Addr) (len38 : Nat) (cap38 : Nat) (ae38 : Option Addr) (le38 : Nat) (ce38 : Nat) (b127 : Nat) (b75 : Nat), Fr 28 a9007 [(0, .pointer (some ⟨b2, 0, none⟩)), (9, .agg #[.bool ((Raw.of (ofQ 1 2)).neg), .slice ad11 len11 cap11, .slice ae11 le11 ce11]), (14, .agg #[.bool ((Raw.of ((1 : Int) : Rat)).neg), .slice ad5 len5 cap5, .slice ae5 le5 ce5, .slice (some ⟨b28, 0, none⟩) 1 1]), (15, .agg #[.bool ((Raw.of ((3 : Int) : Rat)).neg), .slice ad38 len38 cap38, .slice ae38 le38 ce38]), (17, .agg #[.int .i64 1, .bool ((Raw.of ((1 : Int) : Rat)).neg), .slice ad5 len5 cap5, .slice ae5 le5 ce5]), (25, .slice (some ⟨b127, 0, none⟩) 1 1)] ∧ St E0 w X w9007 Y9007 [(b127, .cells #[.bool false, .slice none 0 0, .slice none 0 0, .slice (some ⟨b75, 0, none⟩) 1 1] 55 (0, 0)), (b75, .cells #[.int .i64 1, .bool ((Raw.of ((1 : Int) : Rat)).neg), .slice ad5 len5 cap5, .slice ae5 le5 ce5] 57 (0, 0)), (b28, .cells #[.int .i64 0, .bool ((Raw.of ((1 : Int) : Rat)).neg), .slice ad5 len5 cap5, .slice ae5 le5 ce5] 57 (0, 0)), (b14, .cells #[.bool ((Raw.of (ofQ 1 2)).neg), .slice ad11 len11 cap11, .slice ae11 le11 ce11] 25 (0, 0)), (b7, .cells #[.bool ((Raw.of ((1 : Int) : Rat)).neg), .slice ad5 len5 cap5, .slice ae5 le5 ce5] 25 (0, 0)), (b2, .cells #[.bool false, .slice none 0 0, .slice none 0 0, .slice none 0 0] 28 (0, 0))] ∧ Le (rd w19 Y14) (rd w9007 Y9007) ∧ (Limbs (rd w9007 Y9007) ad38 len38 cap38 ((Raw.of ((3 : Int) : Rat)).ln)) ∧ (Limbs (rd w9007 Y9007) ae38 le38 ce38 ((Raw.of ((3 : Int) : Rat)).ld))) → G 6 #[true, true, true, true, true, true, true, true, true, false, false, false, true, true, true, true, true, false, false, false] a9007 w9007 := by
  rintro a9007 w9007 ⟨Y9007, b28, ad38, len38, cap38, ae38, le38, ce38, b127, b75, A9007, j9007, q9007, hN38, hD38⟩
  refine hG1 _ _ _ _ ?_
  refine zX (Held.cons (j9007.cells 3 rfl rfl) (Held.cons (j9007.cells 4 rfl rfl) (Held.nil _))) (fun hH9007 => ?_)
  refine zM [9] kr rfl ?_
  refine ForkT.cons (i := 9) A9007 rfl kr (zN (d := 18) (fun b => .slice (some ⟨b, 0, none⟩) 1 1) (.cells #[.int .i64 1, .bool ((Raw.of ((1 : Int) : Rat)).neg), .slice ad5 len5 cap5, .slice ae5 le5 ce5] 57 (0, 0)) A9007 kr j9007 kw ?_) ForkT.nil
  intro b191 w191 Y191 j191 q191 hu191 a192 A192
  refine zI (hH9007.up hu191) (fun hH191 => ?_)
  refine zH (d := 19) (v := .agg #[.bool ((Raw.of ((3 : Int) : Rat)).neg), .slice ad38 len38 cap38, .slice ae38 le38 ce38, .slice (some ⟨b191, 0, none⟩) 1 1]) 10 A192 rfl kr kr kw (fun _ => hH191) ?_
  intro a193 A193
  refine hG2 _ _ _ _ (G_cast kr (hI9005 _ _ ⟨_, b28, ad38, len38, cap38, ae38, le38, ce38, b191, b127, b75, A193.as [0, 9, 14, 19, 25] kr kr, (St.swapAt [(b127, .cells #[.bool false, .slice none 0 0, .slice none 0 0, .slice (some ⟨b75, 0, none⟩) 1 1] 55 (0, 0))] (St.swapAt [] j191)), (Le2 q9007 q191), (hN38.mono q191), (hD38.mono q191)⟩))
 have hI9008 : ∀ a9008 w9008, (∃ (Y9008 : Hid) (b28 : Nat) (b40 : Nat) (b132 : Nat) (b81 : Nat), Fr 28 a9008 [(0, .pointer (some ⟨b2, 0, none⟩)), (9, .agg #[.bool ((Raw.of (ofQ 1 2)).neg), .slice ad11 len11 cap11, .slice ae11 le11 ce11]), (14, .agg #[.bool ((Raw.of ((1 : Int) : Rat)).neg), .slice ad5 len5 cap5, .slice ae5 le5 ce5, .slice (some ⟨b28, 0, none⟩) 1 1]), (18, .slice (some ⟨b40, 0, none⟩) 1 1), (25, .slice (some ⟨b132, 0, none⟩) 1 1)] ∧ St E0 w X w9008 Y9008 [(b132, .cells #[.bool false, .slice none 0 0, .slice none 0 0, .slice (some ⟨b81, 0, none⟩) 1 1] 55 (0, 0)), (b81, .cells #[.int .i64 1, .bool ((Raw.of ((1 : Int) : Rat)).neg), .slice ad5 len5 cap5, .slice ae5 le5 ce5] 57 (0, 0)), (b40, .cells #[.int .i64 1, .bool ((Raw.of ((1 : Int) : Rat)).neg), .slice ad5 len5 cap5, .slice ae5 le5 ce5] 57 (0, 0)), (b28, .cells #[.int .i64 0, .bool ((Raw.of ((1 : Int) : Rat)).neg), .slice ad5 len5 cap5, .slice ae5 le5 ce5] 57 (0, 0)), (b14, .cells #[.bool ((Raw.of (ofQ 1 2)).neg), .slice ad11 len11 cap11, .slice ae11 le11 ce11] 25 (0, 0)), (b7, .cells #[.bool ((Raw.of ((1 : Int) : Rat)).neg), .slice ad5 len5 cap5, .slice ae5 le5 ce5] 25 (0, 0)), (b2, .cells #[.bool false, .slice none 0 0, .slice none 0 0, .slice none 0 0] 28 (0, 0))] ∧ Le (rd w19 Y14) (rd w9008 Y9008)) → G 6 #[true, true, true, true, true, true, false, true, true, true, false, false, true, true, true, true, true, false, false, false] a9008 w9008 := by
  rintro a9008 w9008 ⟨Y9008, b28, b40, b132, b81, A9008, j9008, q9008⟩
  refine hG1 _ _ _ _ ?_
  refine zX (Held.cons (j9008.cells 4 rfl rfl) (Held.cons (j9008.cells 5 rfl rfl) (Held.nil _))) (fun hH9008 => ?_)
  refine zM [6] kr rfl ?_
  refine ForkT.cons (i := 6) A9008 rfl kr (zK (d := 15) (f := 47) (cap := #[]) (vs := #[.int .i64 3]) A9008 kr j9008 rfl kr kr (fun w => Try.call47 _ w) (rFrom_c _ _ j9008.lt 3 (by omega) (by omega)) ?_) ForkT.nil
  rintro v194 w194 j194 q194 hu194 ⟨ad194, len194, cap194, ae194, le194, ce194, rfl, hN194, hD194⟩ a195 A195
  refine zI (hH9008.up hu194) (fun hH194 => ?_)
  refine zH (d := 19) (v := .agg #[.bool ((Raw.of ((3 : Int) : Rat)).neg), .slice ad194 len194 cap194, .slice ae194 le194 ce194, .slice (some ⟨b40, 0, none⟩) 1 1]) 10 A195 rfl kr kr kw (fun _ => hH194) ?_
  intro a196 A196
  refine hG2 _ _ _ _ (G_cast kr (hI9005 _ _ ⟨_, b28, ad194, len194, cap194, ae194, le194, ce194, b40, b132, b81, A196.as [0, 9, 14, 19, 25] kr kr, j194, (Le2 q9008 q194), hN194, hD194⟩))
 have hI9009 : ∀ a9009 w9009, (∃ (Y9009 : Hid) (ad31 : Option Addr) (len31 : Nat) (cap31 : Nat) (ae31 : Option Addr) (le31 : Nat) (ce31 : Nat) (b48 : Nat) (b141 : Nat) (b93 : Nat), Fr 28 a9009 [(0, .pointer (some ⟨b2, 0, none⟩)), (9, .agg #[.bool ((Raw.of (ofQ 1 2)).neg), .slice ad11 len11 cap11, .slice ae11 le11 ce11]), (10, .agg #[.bool ((Raw.of ((1 : Int) : Rat)).neg), .slice ad5 len5 cap5, .slice ae5 le5 ce5]), (12, .agg #[.int .i64 0, .bool ((Raw.of ((1 : Int) : Rat)).neg), .slice ad5 len5 cap5, .slice ae5 le5 ce5]), (19, .agg #[.bool ((Raw.of ((3 : Int) : Rat)).neg), .slice ad31 len31 cap31, .slice ae31 le31 ce31, .slice (some ⟨b48, 0, none⟩) 1 1]), (25, .slice (some ⟨b141, 0, none⟩) 1 1)] ∧ St E0 w X w9009 Y9009 [(b141, .cells #[.bool false, .slice none 0 0, .slice none 0 0, .slice (some ⟨b93, 0, none⟩) 1 1] 55 (0, 0)), (b93, .cells #[.int .i64 1, .bool ((Raw.of ((1 : Int) : Rat)).neg), .slice ad5 len5 cap5, .slice ae5 le5 ce5] 57 (0, 0)), (b48, .cells #[.int .i64 1, .bool ((Raw.of ((1 : Int) : Rat)).neg), .slice ad5 len5 cap5, .slice ae5 le5 ce5] 57 (0, 0)), (b14, .cells #[.bool ((Raw.of (ofQ 1 2)).neg), .slice ad11 len11 cap11, .slice ae11 le11 ce11] 25 (0, 0)), (b7, .cells #[.bool ((Raw.of ((1 : Int) : Rat)).neg), .slice ad5 len5 cap5, .slice ae5 le5 ce5] 25 (0, 0)), (b2, .cells #[.bool false, .slice none 0 0, .slice none 0 0, .slice none 0 0] 28 (0, 0))] ∧ Le (rd w19 Y14) (rd w9009 Y9009) ∧ (Limbs (rd w9009 Y9009) ad31 len31 cap31 ((Raw.of ((3 : Int) : Rat)).ln)) ∧ (Limbs (rd w9009 Y9009) ae31 le31 ce31 ((Raw.of ((3 : Int) : Rat)).ld))) → G 6 #[true, true, true, true, false, false, true, true, true, true, true, false, true, true, true, true, true, false, false, false] a9009 w9009 := by
  rintro a9009 w9009 ⟨Y9009, ad31, len31, cap31, ae31, le31, ce31, b48, b141, b93, A9009, j9009, q9009, hN31, hD31⟩
  refine hG1 _ _ _ _ ?_
  refine zX (Held.cons (j9009.cells 3 rfl rfl) (Held.cons (j9009.cells 4 rfl rfl) (Held.nil _))) (fun hH9009 => ?_)
  refine zM [4] kr rfl ?_
  refine ForkT.cons (i := 4) A9009 rfl kr (zN (d := 13) (fun b => .slice (some ⟨b, 0, none⟩) 1 1) (.cells #[.int .i64 0, .bool ((Raw.of ((1 : Int) : Rat)).neg), .slice ad5 len5 cap5, .slice ae5 le5 ce5] 57 (0, 0)) A9009 kr j9009 kw ?_) ForkT.nil
  intro b197 w197 Y197 j197 q197 hu197 a198 A198
  refine zI (hH9009.up hu197) (fun hH197 => ?_)
  refine zH (d := 14) (v := .agg #[.bool ((Raw.of ((1 : Int) : Rat)).neg), .slice ad5 len5 cap5, .slice ae5 le5 ce5, .slice (some ⟨b197, 0, none⟩) 1 1]) 5 A198 rfl kr kr kw (fun _ => hH197) ?_
  intro a199 A199
  refine hG2 _ _ _ _ (G_cast kr (hI9005 _ _ ⟨_, b197, ad31, len31, cap31, ae31, le31, ce31, b48, b141, b93, A199.as [0, 9, 14, 19, 25] kr kr, (St.swapAt [(b141, .cells #[.bool false, .slice none 0 0, .slice none 0 0, .slice (some ⟨b93, 0, none⟩) 1 1] 55 (0, 0)), (b93, .cells #[.int .i64 1, .bool ((Raw.of ((1 : Int) : Rat)).neg), .slice ad5 len5 cap5, .slice ae5 le5 ce5] 57 (0, 0))] (St.swapAt [(b141, .cells #[.bool false, .slice none 0 0, .slice none 0 0, .slice (some ⟨b93, 0, none⟩) 1 1] 55 (0, 0))] (St.swapAt [] j197))), (Le2 q9009 q197), (hN31.mono q197), (hD31.mono q197)⟩))
 have hI9010 : ∀ a9010 w9010, (∃ (Y9010 : Hid) (b28 : Nat) (ad38 : Option Addr) (len38 : Nat) (cap38 : Nat) (ae38 : Option Addr) (le38 : Nat) (ce38 : Nat) (b72 : Nat), Fr 28 a9010 [(0, .pointer (some ⟨b2, 0, none⟩)), (9, .agg #[.bool ((Raw.of (ofQ 1 2)).neg), .slice ad11 len11 cap11, .slice ae11 le11 ce11]), (14, .agg #[.bool ((Raw.of ((1 : Int) : Rat)).neg), .slice ad5 len5 cap5, .slice ae5 le5 ce5, .slice (some ⟨b28, 0, none⟩) 1 1]), (19, .agg #[.bool ((Raw.of ((3 : Int) : Rat)).neg), .slice ad38 len38 cap38, .slice ae38 le38 ce38, .slice (some ⟨b72, 0, none⟩) 1 1]), (22, .agg #[.int .i64 1, .bool ((Raw.of ((1 : Int) : Rat)).neg), .slice ad5 len5 cap5, .slice ae5 le5 ce5])] ∧ St E0 w X w9010 Y9010 [(b72, .cells #[.int .i64 1, .bool ((Raw.of ((1 : Int) : Rat)).neg), .slice ad5 len5 cap5, .slice ae5 le5 ce5] 57 (0, 0)), (b28, .cells #[.int .i64 0, .bool ((Raw.of ((1 : Int) : Rat)).neg), .slice ad5 len5 cap5, .slice ae5 le5 ce5] 57 (0, 0)), (b14, .cells #[.bool ((Raw.of (ofQ 1 2)).neg), .slice ad11 len11 cap11, .slice ae11 le11 ce11] 25 (0, 0)), (b7, .cells #[.bool ((Raw.of ((1 : Int) : Rat)).neg), .slice ad5 len5 cap5, .slice ae5 le5 ce5] 25 (0, 0)), (b2, .cells #[.bool false, .slice none 0 0, .slice none 0 0, .slice none 0 0] 28 (0, 0))] ∧ Le (rd w19 Y14) (rd w9010 Y9010) ∧ (Limbs (rd w9010 Y9010) ad38 len38 cap38 ((Raw.of ((3 : Int) : Rat)).ln)) ∧ (Limbs (rd w9010 Y9010) ae38 le38 ce38 ((Raw.of ((3 : Int) : Rat)).ld))) → G 7 #[true, true, true, true, true, true, true, true, true, true, true, false, true, true, false, false, false, false, false, false] a9010 w9010 := by
  rintro a9010 w9010 ⟨Y9010, b28, ad38, len38, cap38, ae38, le38, ce38, b72, A9010, j9010, q9010, hN38, hD38⟩
  refine hG1 _ _ _ _ ?_
  refine zX (Held.cons (j9010.cells 2 rfl rfl) (Held.cons (j9010.cells 3 rfl rfl) (Held.nil _))) (fun hH9010 => ?_)
  refine zM [11, 14] kr rfl ?_
  refine ForkT.cons (i := 11) A9010 rfl kr ?_ ?_
  ·
   refine zN (d := 20) (fun b => .slice (some ⟨b, 0, none⟩) 2 2) (.cells #[.bool ((Raw.of ((1 : Int) : Rat)).neg), .slice ad5 len5 cap5, .slice ae5 le5 ce5, .slice (some ⟨b28, 0, none⟩) 1 1, .bool ((Raw.of ((3 : Int) : Rat)).neg), .slice ad38 len38 cap38, .slice ae38 le38 ce38, .slice (some ⟨b72, 0, none⟩) 1 1] 55 (0, 0)) A9010 kr j9010 kw ?_
   intro b200 w200 Y200 j200 q200 hu200 a201 A201
   refine zI (hH9010.up hu200) (fun hH200 => ?_)
   refine zM [14] kr rfl ?_
   refine ForkT.cons (i := 14) A201 rfl kr (zN (d := 23) (fun b => .slice (some ⟨b, 0, none⟩) 1 1) (.cells #[.int .i64 1, .bool ((Raw.of ((1 : Int) : Rat)).neg), .slice ad5 len5 cap5, .slice ae5 le5 ce5] 57 (0, 0)) A201 kr j200 kw ?_) ForkT.nil
   intro b202 w202 Y202 j202 q202 hu202 a203 A203
   refine zI (hH200.up hu202) (fun hH202 => ?_)
   refine zH (d := 24) (v := .agg #[.bool false, .slice none 0 0, .slice none 0 0, .slice (some ⟨b202, 0, none⟩) 1 1]) 15 A203 rfl kr kr kw (fun _ => hH202) ?_
   intro a204 A204
   refine hG2 _ _ _ _ (G_cast kr (hI9004 _ _ ⟨_, b200, b202, b28, ad38, len38, cap38, ae38, le38, ce38, b72, A204.as [0, 9, 20, 24] kr kr, j202, (Le3 q9010 q200 q202), (hN38.mono (Le2 q200 q202)), (hD38.mono (Le2 q200 q202))⟩))
  refine ForkT.cons (i := 14) A9010 rfl kr (zN (d := 23) (fun b => .slice (some ⟨b, 0, none⟩) 1 1) (.cells #[.int .i64 1, .bool ((Raw.of ((1 : Int) : Rat)).neg), .slice ad5 len5 cap5, .slice ae5 le5 ce5] 57 (0, 0)) A9010 kr j9010 kw ?_) ForkT.nil
  intro b205 w205 Y205 j205 q205 hu205 a206 A206
  refine zI (hH9010.up hu205) (fun hH205 => ?_)
  refine zH (d := 24) (v := .agg #[.bool false, .slice none 0 0, .slice none 0 0, .slice (some ⟨b205, 0, none⟩) 1 1]) 15 A206 rfl kr kr kw (fun _ => hH205) ?_
  intro a207 A207
  refine hG2 _ _ _ _ (G_cast kr (hI9006 _ _ ⟨_, b28, ad38, len38, cap38, ae38, le38, ce38, b72, b205, A207.as [0, 9, 14, 19, 24] kr kr, j205, (Le2 q9010 q205), (hN38.mono q205), (hD38.mono q205)⟩))
 have hI9011 : ∀ a9011 w9011, (∃ (Y9011 : Hid) (b28 : Nat) (ad38 : Option Addr) (len38 : Nat) (cap38 : Nat) (ae38 : Option Addr) (le38 : Nat) (ce38 : Nat) (b75 : Nat), Fr 28 a9011 [(0, .pointer (some ⟨b2, 0, none⟩)), (9, .agg #[.bool ((Raw.of (ofQ 1 2)).neg), .slice ad11 len11 cap11, .slice ae11 le11 ce11]), (14, .agg #[.bool ((Raw.of ((1 : Int) : Rat)).neg), .slice ad5 len5 cap5, .slice ae5 le5 ce5, .slice (some ⟨b28, 0, none⟩) 1 1]), (15, .agg #[.bool ((Raw.of ((3 : Int) : Rat)).neg), .slice ad38 len38 cap38, .slice ae38 le38 ce38]), (17, .agg #[.int .i64 1, .bool ((Raw.of ((1 : Int) : Rat)).neg), .slice ad5 len5 cap5, .slice ae5 le5 ce5]), (24, .agg #[.bool false, .slice none 0 0, .slice none 0 0, .slice (some ⟨b75, 0, none⟩) 1 1])] ∧ St E0 w X w9011 Y9011 [(b75, .cells #[.int .i64 1, .bool ((Raw.of ((1 : Int) : Rat)).neg), .slice ad5 len5 cap5, .slice ae5 le5 ce5] 57 (0, 0)), (b28, .cells #[.int .i64 0, .bool ((Raw.of ((1 : Int) : Rat)).neg), .slice ad5 len5 cap5, .slice ae5 le5 ce5] 57 (0, 0)), (b14, .cells #[.bool ((Raw.of (ofQ 1 2)).neg), .slice ad11 len11 cap11, .slice ae11 le11 ce11] 25 (0, 0)), (b7, .cells #[.bool ((Raw.of ((1 : Int) : Rat)).neg), .slice ad5 len5 cap5, .slice ae5 le5 ce5] 25 (0, 0)), (b2, .cells #[.bool false, .slice none 0 0, .slice none 0 0, .slice none 0 0] 28 (0, 0))] ∧ Le (rd w19 Y14) (rd w9011 Y9011) ∧ (Limbs (rd w9011 Y9011) ad38 len38 cap38 ((Raw.of ((3 : Int) : Rat)).ln)) ∧ (Limbs (rd w9011 Y9011) ae38 le38 ce38 ((Raw.of ((3 : Int) : Rat)).ld))) → G 7 #[true, true, true, true, true, true, true, true, true, false, false, false, true, true, true, true, false, false, false, false] a9011 w9011 := by
  rintro a9011 w9011 ⟨Y9011, b28, ad38, len38, cap38, ae38, le38, ce38, b75, A9011, j9011, q9011, hN38, hD38⟩
  refine hG1 _ _ _ _ ?_
  refine zX (Held.cons (j9011.cells 2 rfl rfl) (Held.cons (j9011.cells 3 rfl rfl) (Held.nil _))) (fun hH9011 => ?_)
  refine zM [9, 16] kr rfl ?_
  refine ForkT.cons (i := 9) A9011 rfl kr ?_ ?_
  ·
   refine zN (d := 18) (fun b => .slice (some ⟨b, 0, none⟩) 1 1) (.cells #[.int .i64 1, .bool ((Raw.of ((1 : Int) : Rat)).neg), .slice ad5 len5 cap5, .slice ae5 le5 ce5] 57 (0, 0)) A9011 kr j9011 kw ?_
   intro b208 w208 Y208 j208 q208 hu208 a209 A209
   refine zI (hH9011.up hu208) (fun hH208 => ?_)
   refine zH (d := 19) (v := .agg #[.bool ((Raw.of ((3 : Int) : Rat)).neg), .slice ad38 len38 cap38, .slice ae38 le38 ce38, .slice (some ⟨b208, 0, none⟩) 1 1]) 10 A209 rfl kr kr kw (fun _ => hH208) ?_
   intro a210 A210
   refine hG2 _ _ _ _ (G_cast kr (hI9006 _ _ ⟨_, b28, ad38, len38, cap38, ae38, le38, ce38, b208, b75, A210.as [0, 9, 14, 19, 24] kr kr, (St.swapAt [] j208), (Le2 q9011 q208), (hN38.mono q208), (hD38.mono q208)⟩))
  refine ForkT.cons (i := 16) A9011 rfl kr (zN (d := 25) (fun b => .slice (some ⟨b, 0, none⟩) 1 1) (.cells #[.bool false, .slice none 0 0, .slice none 0 0, .slice (some ⟨b75, 0, none⟩) 1 1] 55 (0, 0)) A9011 kr j9011 kw ?_) ForkT.nil
  intro b211 w211 Y211 j211 q211 hu211 a212 A212
  refine zI (hH9011.up hu211) (fun hH211 => ?_)
  refine hG2 _ _ _ _ (G_cast kr (hI9007 _ _ ⟨_, b28, ad38, len38, cap38, ae38, le38, ce38, b211, b75, A212.as [0, 9, 14, 15, 17, 25] kr kr, j211, (Le2 q9011 q211), (hN38.mono q211), (hD38.mono q211)⟩))
 have hI9012 : ∀ a9012 w9012, (∃ (Y9012 : Hid) (b28 : Nat) (b40 : Nat) (b81 : Nat), Fr 28 a9012 [(0, .pointer (some ⟨b2, 0, none⟩)), (9, .agg #[.bool ((Raw.of (ofQ 1 2)).neg), .slice ad11 len11 cap11, .slice ae11 le11 ce11]), (14, .agg #[.bool ((Raw.of ((1 : Int) : Rat)).neg), .slice ad5 len5 cap5, .slice ae5 le5 ce5, .slice (some ⟨b28, 0, none⟩) 1 1]), (18, .slice (some ⟨b40, 0, none⟩) 1 1), (24, .agg #[.bool false, .slice none 0 0, .slice none 0 0, .slice (some ⟨b81, 0, none⟩) 1 1])] ∧ St E0 w X w9012 Y9012 [(b81, .cells #[.int .i64 1, .bool ((Raw.of ((1 : Int) : Rat)).neg), .slice ad5 len5 cap5, .slice ae5 le5 ce5] 57 (0, 0)), (b40, .cells #[.int .i64 1, .bool ((Raw.of ((1 : Int) : Rat)).neg), .slice ad5 len5 cap5, .slice ae5 le5 ce5] 57 (0, 0)), (b28, .cells #[.int .i64 0, .bool ((Raw.of ((1 : Int) : Rat)).neg), .slice ad5 len5 cap5, .slice ae5 le5 ce5] 57 (0, 0)), (b14, .cells #[.bool ((Raw.of (ofQ 1 2)).neg), .slice ad11 len11 cap11, .slice ae11 le11 ce11] 25 (0, 0)), (b7, .cells #[.bool ((Raw.of ((1 : Int) : Rat)).neg), .slice ad5 len5 cap5, .slice ae5 le5 ce5] 25 (0, 0)), (b2, .cells #[.bool false, .slice none 0 0, .slice none 0 0, .slice none 0 0] 28 (0, 0))] ∧ Le (rd w19 Y14) (rd w9012 Y9012)) → G 7 #[true, true, true, true, true, true, false, true, true, true, false, false, true, true, true, true, false, false, false, false] a9012 w9012 := by
  rintro a9012 w9012 ⟨Y9012, b28, b40, b81, A9012, j9012, q9012⟩
  refine hG1 _ _ _ _ ?_
  refine zX (Held.cons (j9012.cells 3 rfl rfl) (Held.cons (j9012.cells 4 rfl rfl) (Held.nil _))) (fun hH9012 => ?_)
  refine zM [6, 16] kr rfl ?_
  refine ForkT.cons (i := 6) A9012 rfl kr ?_ ?_
  ·
   refine zK (d := 15) (f := 47) (cap := #[]) (vs := #[.int .i64 3]) A9012 kr j9012 rfl kr kr (fun w => Try.call47 _ w) (rFrom_c _ _ j9012.lt 3 (by omega) (by omega)) ?_
   rintro v213 w213 j213 q213 hu213 ⟨ad213, len213, cap213, ae213, le213, ce213, rfl, hN213, hD213⟩ a214 A214
   refine zI (hH9012.up hu213) (fun hH213 => ?_)
   refine zH (d := 19) (v := .agg #[.bool ((Raw.of ((3 : Int) : Rat)).neg), .slice ad213 len213 cap213, .slice ae213 le213 ce213, .slice (some ⟨b40, 0, none⟩) 1 1]) 10 A214 rfl kr kr kw (fun _ => hH213) ?_
   intro a215 A215
   refine hG2 _ _ _ _ (G_cast kr (hI9006 _ _ ⟨_, b28, ad213, len213, cap213, ae213, le213, ce213, b40, b81, A215.as [0, 9, 14, 19, 24] kr kr, j213, (Le2 q9012 q213), hN213, hD213⟩))
  refine ForkT.cons (i := 16) A9012 rfl kr (zN (d := 25) (fun b => .slice (some ⟨b, 0, none⟩) 1 1) (.cells #[.bool false, .slice none 0 0, .slice none 0 0, .slice (some ⟨b81, 0, none⟩) 1 1] 55 (0, 0)) A9012 kr j9012 kw ?_) ForkT.nil
  intro b216 w216 Y216 j216 q216 hu216 a217 A217
  refine zI (hH9012.up hu216) (fun hH216 => ?_)
  refine hG2 _ _ _ _ (G_cast kr (hI9008 _ _ ⟨_, b28, b40, b216, b81, A217.as [0, 9, 14, 18, 25] kr kr, j216, (Le2 q9012 q216)⟩))
 have hI9013 : ∀ a9013 w9013, (∃ (Y9013 : Hid) (b28 : Nat) (b88 : Nat) (b42 : Nat), Fr 28 a9013 [(0, .pointer (some ⟨b2, 0, none⟩)), (9, .agg #[.bool ((Raw.of (ofQ 1 2)).neg), .slice ad11 len11 cap11, .slice ae11 le11 ce11]), (14, .agg #[.bool ((Raw.of ((1 : Int) : Rat)).neg), .slice ad5 len5 cap5, .slice ae5 le5 ce5, .slice (some ⟨b28, 0, none⟩) 1 1]), (17, .agg #[.int .i64 1, .bool ((Raw.of ((1 : Int) : Rat)).neg), .slice ad5 len5 cap5, .slice ae5 le5 ce5]), (25, .slice (some ⟨b88, 0, none⟩) 1 1)] ∧ St E0 w X w9013 Y9013 [(b88, .cells #[.bool false, .slice none 0 0, .slice none 0 0, .slice (some ⟨b42, 0, none⟩) 1 1] 55 (0, 0)), (b42, .cells #[.int .i64 1, .bool ((Raw.of ((1 : Int) : Rat)).neg), .slice ad5 len5 cap5, .slice ae5 le5 ce5] 57 (0, 0)), (b28, .cells #[.int .i64 0, .bool ((Raw.of ((1 : Int) : Rat)).neg), .slice ad5 len5 cap5, .slice ae5 le5 ce5] 57 (0, 0)), (b14, .cells #[.bool ((Raw.of (ofQ 1 2)).neg), .slice ad11 len11 cap11, .slice ae11 le11 ce11] 25 (0, 0)), (b7, .cells #[.bool ((Raw.of ((1 : Int) : Rat)).neg), .slice ad5 len5 cap5, .slice ae5 le5 ce5] 25 (0, 0)), (b2, .cells #[.bool false, .slice none 0 0, .slice none 0 0, .slice none 0 0] 28 (0, 0))] ∧ Le (rd w19 Y14) (rd w9013 Y9013)) → G 7 #[true, true, true, true, true, true, false, true, true, false, false, false, true, true, true, true, true, false, false, false] a9013 w9013 := by
  rintro a9013 w9013 ⟨Y9013, b28, b88, b42, A9013, j9013, q9013⟩
  refine hG1 _ _ _ _ ?_
  refine zX (Held.cons (j9013.cells 3 rfl rfl) (Held.cons (j9013.cells 4 rfl rfl) (Held.nil _))) (fun hH9013 => ?_)
  refine zM [6, 9] kr rfl ?_
  refine ForkT.cons (i := 6) A9013 rfl kr ?_ ?_
  ·
   refine zK (d := 15) (f := 47) (cap := #[]) (vs := #[.int .i64 3]) A9013 kr j9013 rfl kr kr (fun w => Try.call47 _ w) (rFrom_c _ _ j9013.lt 3 (by omega) (by omega)) ?_
   rintro v218 w218 j218 q218 hu218 ⟨ad218, len218, cap218, ae218, le218, ce218, rfl, hN218, hD218⟩ a219 A219
   refine zI (hH9013.up hu218) (fun hH218 => ?_)
   refine hG2 _ _ _ _ (G_cast kr (hI9007 _ _ ⟨_, b28, ad218, len218, cap218, ae218, le218, ce218, b88, b42, A219.as [0, 9, 14, 15, 17, 25] kr kr, j218, (Le2 q9013 q218), hN218, hD218⟩))
  refine ForkT.cons (i := 9) A9013 rfl kr (zN (d := 18) (fun b => .slice (some ⟨b, 0, none⟩) 1 1) (.cells #[.int .i64 1, .bool ((Raw.of ((1 : Int) : Rat)).neg), .slice ad5 len5 cap5, .slice ae5 le5 ce5] 57 (0, 0)) A9013 kr j9013 kw ?_) ForkT.nil
  intro b220 w220 Y220 j220 q220 hu220 a221 A221
  refine zI (hH9013.up hu220) (fun hH220 => ?_)
  refine hG2 _ _ _ _ (G_cast kr (hI9008 _ _ ⟨_, b28, b220, b88, b42, A221.as [0, 9, 14, 18, 25] kr kr, (St.swapAt [(b88, .cells #[.bool false, .slice none 0 0, .slice none 0 0, .slice (some ⟨b42, 0, none⟩) 1 1] 55 (0, 0))] (St.swapAt [] j220)), (Le2 q9013 q220)⟩))
 have hI9014 : ∀ a9014 w9014, (∃ (Y9014 : Hid) (ad31 : Option Addr) (len31 : Nat) (cap31 : Nat) (ae31 : Option Addr) (le31 : Nat) (ce31 : Nat) (b48 : Nat) (b93 : Nat), Fr 28 a9014 [(0, .pointer (some ⟨b2, 0, none⟩)), (9, .agg #[.bool ((Raw.of (ofQ 1 2)).neg), .slice ad11 len11 cap11, .slice ae11 le11 ce11]), (10, .agg #[.bool ((Raw.of ((1 : Int) : Rat)).neg), .slice ad5 len5 cap5, .slice ae5 le5 ce5]), (12, .agg #[.int .i64 0, .bool ((Raw.of ((1 : Int) : Rat)).neg), .slice ad5 len5 cap5, .slice ae5 le5 ce5]), (19, .agg #[.bool ((Raw.of ((3 : Int) : Rat)).neg), .slice ad31 len31 cap31, .slice ae31 le31 ce31, .slice (some ⟨b48, 0, none⟩) 1 1]), (24, .agg #[.bool false, .slice none 0 0, .slice none 0 0, .slice (some ⟨b93, 0, none⟩) 1 1])] ∧ St E0 w X w9014 Y9014 [(b93, .cells #[.int .i64 1, .bool ((Raw.of ((1 : Int) : Rat)).neg), .slice ad5 len5 cap5, .slice ae5 le5 ce5] 57 (0, 0)), (b48, .cells #[.int .i64 1, .bool ((Raw.of ((1 : Int) : Rat)).neg), .slice ad5 len5 cap5, .slice ae5 le5 ce5] 57 (0, 0)), (b14, .cells #[.bool ((Raw.of (ofQ 1 2)).neg), .slice ad11 len11 cap11, .slice ae11 le11 ce11] 25 (0, 0)), (b7, .cells #[.bool ((Raw.of ((1 : Int) : Rat)).neg), .slice ad5 len5 cap5, .slice ae5 le5 ce5] 25 (0, 0)), (b2, .cells #[.bool false, .slice none 0 0, .slice none 0 0, .slice none 0 0] 28 (0, 0))] ∧ Le (rd w19 Y14) (rd w9014 Y9014) ∧ (Limbs (rd w9014 Y9014) ad31 len31 cap31 ((Raw.of ((3 : Int) : Rat)).ln)) ∧ (Limbs (rd w9014 Y9014) ae31 le31 ce31 ((Raw.of ((3 : Int) : Rat)).ld))) → G 7 #[true, true, true, true, false, false, true, true, true, true, true, false, true, true, true, true, false, false, false, false] a9014 w9014 := by
  rintro a9014 w9014 ⟨Y9014, ad31, len31, cap31, ae31, le31, ce31, b48, b93, A9014, j9014, q9014, hN31, hD31⟩
  refine hG1 _ _ _ _ ?_
  refine zX (Held.cons (j9014.cells 2 rfl rfl) (Held.cons (j9014.cells 3 rfl rfl) (Held.nil _))) (fun hH9014 => ?_)
  refine zM [4, 16] kr rfl ?_
  refine ForkT.cons (i := 4) A9014 rfl kr ?_ ?_
  ·
   refine zN (d := 13) (fun b => .slice (some ⟨b, 0, none⟩) 1 1) (.cells #[.int .i64 0, .bool ((Raw.of ((1 : Int) : Rat)).neg), .slice ad5 len5 cap5, .slice ae5 le5 ce5] 57 (0, 0)) A9014 kr j9014 kw ?_
   intro b222 w222 Y222 j222 q222 hu222 a223 A223
   refine zI (hH9014.up hu222) (fun hH222 => ?_)
   refine zH (d := 14) (v := .agg #[.bool ((Raw.of ((1 : Int) : Rat)).neg), .slice ad5 len5 cap5, .slice ae5 le5 ce5, .slice (some ⟨b222, 0, none⟩) 1 1]) 5 A223 rfl kr kr kw (fun _ => hH222) ?_
   intro a224 A224
   refine hG2 _ _ _ _ (G_cast kr (hI9006 _ _ ⟨_, b222, ad31, len31, cap31, ae31, le31, ce31, b48, b93, A224.as [0, 9, 14, 19, 24] kr kr, (St.swapAt [(b93, .cells #[.int .i64 1, .bool ((Raw.of ((1 : Int) : Rat)).neg), .slice ad5 len5 cap5, .slice ae5 le5 ce5] 57 (0, 0))] (St.swapAt [] j222)), (Le2 q9014 q222), (hN31.mono q222), (hD31.mono q222)⟩))
  refine ForkT.cons (i := 16) A9014 rfl kr (zN (d := 25) (fun b => .slice (some ⟨b, 0, none⟩) 1 1) (.cells #[.bool false, .slice none 0 0, .slice none 0 0, .slice (some ⟨b93, 0, none⟩) 1 1] 55 (0, 0)) A9014 kr j9014 kw ?_) ForkT.nil
  intro b225 w225 Y225 j225 q225 hu225 a226 A226
  refine zI (hH9014.up hu225) (fun hH225 => ?_)
  refine hG2 _ _ _ _ (G_cast kr (hI9009 _ _ ⟨_, ad31, len31, cap31, ae31, le31, ce31, b48, b225, b93, A226.as [0, 9, 10, 12, 19, 25] kr kr, j225, (Le2 q9014 q225), (hN31.mono q225), (hD31.mono q225)⟩))
 have hI9015 : ∀ a9015 w9015, (∃ (Y9015 : Hid) (b28 : Nat) (b42 : Nat), Fr 28 a9015 [(0, .pointer (some ⟨b2, 0, none⟩)), (9, .agg #[.bool ((Raw.of (ofQ 1 2)).neg), .slice ad11 len11 cap11, .slice ae11 le11 ce11]), (14, .agg #[.bool ((Raw.of ((1 : Int) : Rat)).neg), .slice ad5 len5 cap5, .slice ae5 le5 ce5, .slice (some ⟨b28, 0, none⟩) 1 1]), (17, .agg #[.int .i64 1, .bool ((Raw.of ((1 : Int) : Rat)).neg), .slice ad5 len5 cap5, .slice ae5 le5 ce5]), (24, .agg #[.bool false, .slice none 0 0, .slice none 0 0, .slice (some ⟨b42, 0, none⟩) 1 1])] ∧ St E0 w X w9015 Y9015 [(b42, .cells #[.int .i64 1, .bool ((Raw.of ((1 : Int) : Rat)).neg), .slice ad5 len5 cap5, .slice ae5 le5 ce5] 57 (0, 0)), (b28, .cells #[.int .i64 0, .bool ((Raw.of ((1 : Int) : Rat)).neg), .slice ad5 len5 cap5, .slice ae5 le5 ce5] 57 (0, 0)), (b14, .cells #[.bool ((Raw.of (ofQ 1 2)).neg), .slice ad11 len11 cap11, .slice ae11 le11 ce11] 25 (0, 0)), (b7, .cells #[.bool ((Raw.of ((1 : Int) : Rat)).neg), .slice ad5 len5 cap5, .slice ae5 le5 ce5] 25 (0, 0)), (b2, .cells #[.bool false, .slice none 0 0, .slice none 0 0, .slice none 0 0] 28 (0, 0))] ∧ Le (rd w19 Y14) (rd w9015 Y9015)) → G 8 #[true, true, true, true, true, true, false, true, true, false, false, false, true, true, true, true, false, false, false, false] a9015 w9015 := by
  rintro a9015 w9015 ⟨Y9015, b28, b42, A9015, j9015, q9015⟩
  refine hG1 _ _ _ _ ?_
  refine zX (Held.cons (j9015.cells 2 rfl rfl) (Held.cons (j9015.cells 3 rfl rfl) (Held.nil _))) (fun hH9015 => ?_)
  refine zM [6, 9, 16] kr rfl ?_
  refine ForkT.cons (i := 6) A9015 rfl kr ?_ ?_
  ·
   refine zK (d := 15) (f := 47) (cap := #[]) (vs := #[.int .i64 3]) A9015 kr j9015 rfl kr kr (fun w => Try.call47 _ w) (rFrom_c _ _ j9015.lt 3 (by omega) (by omega)) ?_
   rintro v227 w227 j227 q227 hu227 ⟨ad227, len227, cap227, ae227, le227, ce227, rfl, hN227, hD227⟩ a228 A228
   refine zI (hH9015.up hu227) (fun hH227 => ?_)
   refine hG2 _ _ _ _ (G_cast kr (hI9011 _ _ ⟨_, b28, ad227, len227, cap227, ae227, le227, ce227, b42, A228.as [0, 9, 14, 15, 17, 24] kr kr, j227, (Le2 q9015 q227), hN227, hD227⟩))
  refine ForkT.cons (i := 9) A9015 rfl kr ?_ ?_
  ·
   refine zN (d := 18) (fun b => .slice (some ⟨b, 0, none⟩) 1 1) (.cells #[.int .i64 1, .bool ((Raw.of ((1 : Int) : Rat)).neg), .slice ad5 len5 cap5, .slice ae5 le5 ce5] 57 (0, 0)) A9015 kr j9015 kw ?_
   intro b229 w229 Y229 j229 q229 hu229 a230 A230
   refine zI (hH9015.up hu229) (fun hH229 => ?_)
   refine hG2 _ _ _ _ (G_cast kr (hI9012 _ _ ⟨_, b28, b229, b42, A230.as [0, 9, 14, 18, 24] kr kr, (St.swapAt [] j229), (Le2 q9015 q229)⟩))
  refine ForkT.cons (i := 16) A9015 rfl kr (zN (d := 25) (fun b => .slice (some ⟨b, 0, none⟩) 1 1) (.cells #[.bool false, .slice none 0 0, .slice none 0 0, .slice (some ⟨b42, 0, none⟩) 1 1] 55 (0, 0)) A9015 kr j9015 kw ?_) ForkT.nil
  intro b231 w231 Y231 j231 q231 hu231 a232 A232
  refine zI (hH9015.up hu231) (fun hH231 => ?_)
  refine hG2 _ _ _ _ (G_cast kr (hI9013 _ _ ⟨_, b28, b231, b42, A232.as [0, 9, 14, 17, 25] kr kr, j231, (Le2 q9015 q231)⟩))
 have hI9016 : ∀ a9016 w9016, (∃ (Y9016 : Hid) (ad31 : Option Addr) (len31 : Nat) (cap31 : Nat) (ae31 : Option Addr) (le31 : Nat) (ce31 : Nat) (b102 : Nat) (b51 : Nat), Fr 28 a9016 [(0, .pointer (some ⟨b2, 0, none⟩)), (9, .agg #[.bool ((Raw.of (ofQ 1 2)).neg), .slice ad11 len11 cap11, .slice ae11 le11 ce11]), (10, .agg #[.bool ((Raw.of ((1 : Int) : Rat)).neg), .slice ad5 len5 cap5, .slice ae5 le5 ce5]), (12, .agg #[.int .i64 0, .bool ((Raw.of ((1 : Int) : Rat)).neg), .slice ad5 len5 cap5, .slice ae5 le5 ce5]), (15, .agg #[.bool ((Raw.of ((3 : Int) : Rat)).neg), .slice ad31 len31 cap31, .slice ae31 le31 ce31]), (17, .agg #[.int .i64 1, .bool ((Raw.of ((1 : Int) : Rat)).neg), .slice ad5 len5 cap5, .slice ae5 le5 ce5]), (25, .slice (some ⟨b102, 0, none⟩) 1 1)] ∧ St E0 w X w9016 Y9016 [(b102, .cells #[.bool false, .slice none 0 0, .slice none 0 0, .slice (some ⟨b51, 0, none⟩) 1 1] 55 (0, 0)), (b51, .cells #[.int .i64 1, .bool ((Raw.of ((1 : Int) : Rat)).neg), .slice ad5 len5 cap5, .slice ae5 le5 ce5] 57 (0, 0)), (b14, .cells #[.bool ((Raw.of (ofQ 1 2)).neg), .slice ad11 len11 cap11, .slice ae11 le11 ce11] 25 (0, 0)), (b7, .cells #[.bool ((Raw.of ((1 : Int) : Rat)).neg), .slice ad5 len5 cap5, .slice ae5 le5 ce5] 25 (0, 0)), (b2, .cells #[.bool false, .slice none 0 0, .slice none 0 0, .slice none 0 0] 28 (0, 0))] ∧ Le (rd w19 Y14) (rd w9016 Y9016) ∧ (Limbs (rd w9016 Y9016) ad31 len31 cap31 ((Raw.of ((3 : Int) : Rat)).ln)) ∧ (Limbs (rd w9016 Y9016) ae31 le31 ce31 ((Raw.of ((3 : Int) : Rat)).ld))) → G 8 #[true, true, true, true, false, false, true, true, true, false, false, false, true, true, true, true, true, false, false, false] a9016 w9016 := by
  rintro a9016 w9016 ⟨Y9016, ad31, len31, cap31, ae31, le31, ce31, b102, b51, A9016, j9016, q9016, hN31, hD31⟩
  refine hG1 _ _ _ _ ?_
  refine zX (Held.cons (j9016.cells 2 rfl rfl) (Held.cons (j9016.cells 3 rfl rfl) (Held.nil _))) (fun hH9016 => ?_)
  refine zM [4, 9] kr rfl ?_
  refine ForkT.cons (i := 4) A9016 rfl kr ?_ ?_
  ·
   refine zN (d := 13) (fun b => .slice (some ⟨b, 0, none⟩) 1 1) (.cells #[.int .i64 0, .bool ((Raw.of ((1 : Int) : Rat)).neg), .slice ad5 len5 cap5, .slice ae5 le5 ce5] 57 (0, 0)) A9016 kr j9016 kw ?_
   intro b233 w233 Y233 j233 q233 hu233 a234 A234
   refine zI (hH9016.up hu233) (fun hH233 => ?_)
   refine zH (d := 14) (v := .agg #[.bool ((Raw.of ((1 : Int) : Rat)).neg), .slice ad5 len5 cap5, .slice ae5 le5 ce5, .slice (some ⟨b233, 0, none⟩) 1 1]) 5 A234 rfl kr kr kw (fun _ => hH233) ?_
   intro a235 A235
   refine hG2 _ _ _ _ (G_cast kr (hI9007 _ _ ⟨_, b233, ad31, len31, cap31, ae31, le31, ce31, b102, b51, A235.as [0, 9, 14, 15, 17, 25] kr kr, (St.swapAt [(b102, .cells #[.bool false, .slice none 0 0, .slice none 0 0, .slice (some ⟨b51, 0, none⟩) 1 1] 55 (0, 0))] (St.swapAt [] j233)), (Le2 q9016 q233), (hN31.mono q233), (hD31.mono q233)⟩))
  refine ForkT.cons (i := 9) A9016 rfl kr (zN (d := 18) (fun b => .slice (some ⟨b, 0, none⟩) 1 1) (.cells #[.int .i64 1, .bool ((Raw.of ((1 : Int) : Rat)).neg), .slice ad5 len5 cap5, .slice ae5 le5 ce5] 57 (0, 0)) A9016 kr j9016 kw ?_) ForkT.nil
  intro b236 w236 Y236 j236 q236 hu236 a237 A237
  refine zI (hH9016.up hu236) (fun hH236 => ?_)
  refine zH (d := 19) (v := .agg #[.bool ((Raw.of ((3 : Int) : Rat)).neg), .slice ad31 len31 cap31, .slice ae31 le31 ce31, .slice (some ⟨b236, 0, none⟩) 1 1]) 10 A237 rfl kr kr kw (fun _ => hH236) ?_
  intro a238 A238
  refine hG2 _ _ _ _ (G_cast kr (hI9009 _ _ ⟨_, ad31, len31, cap31, ae31, le31, ce31, b236, b102, b51, A238.as [0, 9, 10, 12, 19, 25] kr kr, (St.swapAt [(b102, .cells #[.bool false, .slice none 0 0, .slice none 0 0, .slice (some ⟨b51, 0, none⟩) 1 1] 55 (0, 0))] (St.swapAt [] j236)), (Le2 q9016 q236), (hN31.mono q236), (hD31.mono q236)⟩))
 have hI9017 : ∀ a9017 w9017, (∃ (Y9017 : Hid) (b33 : Nat) (b110 : Nat) (b60 : Nat), Fr 28 a9017 [(0, .pointer (some ⟨b2, 0, none⟩)), (9, .agg #[.bool ((Raw.of (ofQ 1 2)).neg), .slice ad11 len11 cap11, .slice ae11 le11 ce11]), (10, .agg #[.bool ((Raw.of ((1 : Int) : Rat)).neg), .slice ad5 len5 cap5, .slice ae5 le5 ce5]), (12, .agg #[.int .i64 0, .bool ((Raw.of ((1 : Int) : Rat)).neg), .slice ad5 len5 cap5, .slice ae5 le5 ce5]), (18, .slice (some ⟨b33, 0, none⟩) 1 1), (25, .slice (some ⟨b110, 0, none⟩) 1 1)] ∧ St E0 w X w9017 Y9017 [(b110, .cells #[.bool false, .slice none 0 0, .slice none 0 0, .slice (some ⟨b60, 0, none⟩) 1 1] 55 (0, 0)), (b60, .cells #[.int .i64 1, .bool ((Raw.of ((1 : Int) : Rat)).neg), .slice ad5 len5 cap5, .slice ae5 le5 ce5] 57 (0, 0)), (b33, .cells #[.int .i64 1, .bool ((Raw.of ((1 : Int) : Rat)).neg), .slice ad5 len5 cap5, .slice ae5 le5 ce5] 57 (0, 0)), (b14, .cells #[.bool ((Raw.of (ofQ 1 2)).neg), .slice ad11 len11 cap11, .slice ae11 le11 ce11] 25 (0, 0)), (b7, .cells #[.bool ((Raw.of ((1 : Int) : Rat)).neg), .slice ad5 len5 cap5, .slice ae5 le5 ce5] 25 (0, 0)), (b2, .cells #[.bool false, .slice none 0 0, .slice none 0 0, .slice none 0 0] 28 (0, 0))] ∧ Le (rd w19 Y14) (rd w9017 Y9017)) → G 8 #[true, true, true, true, false, false, false, true, true, true, false, false, true, true, true, true, true, false, false, false] a9017 w9017 := by
  rintro a9017 w9017 ⟨Y9017, b33, b110, b60, A9017, j9017, q9017⟩
  refine hG1 _ _ _ _ ?_
  refine zX (Held.cons (j9017.cells 3 rfl rfl) (Held.cons (j9017.cells 4 rfl rfl) (Held.nil _))) (fun hH9017 => ?_)
  refine zM [4, 6] kr rfl ?_
  refine ForkT.cons (i := 4) A9017 rfl kr ?_ ?_
  ·
   refine zN (d := 13) (fun b => .slice (some ⟨b, 0, none⟩) 1 1) (.cells #[.int .i64 0, .bool ((Raw.of ((1 : Int) : Rat)).neg), .slice ad5 len5 cap5, .slice ae5 le5 ce5] 57 (0, 0)) A9017 kr j9017 kw ?_
   intro b239 w239 Y239 j239 q239 hu239 a240 A240
   refine zI (hH9017.up hu239) (fun hH239 => ?_)
   refine zH (d := 14) (v := .agg #[.bool ((Raw.of ((1 : Int) : Rat)).neg), .slice ad5 len5 cap5, .slice ae5 le5 ce5, .slice (some ⟨b239, 0, none⟩) 1 1]) 5 A240 rfl kr kr kw (fun _ => hH239) ?_
   intro a241 A241
   refine hG2 _ _ _ _ (G_cast kr (hI9008 _ _ ⟨_, b239, b33, b110, b60, A241.as [0, 9, 14, 18, 25] kr kr, (St.swapAt [(b110, .cells #[.bool false, .slice none 0 0, .slice none 0 0, .slice (some ⟨b60, 0, none⟩) 1 1] 55 (0, 0)), (b60, .cells #[.int .i64 1, .bool ((Raw.of ((1 : Int) : Rat)).neg), .slice ad5 len5 cap5, .slice ae5 le5 ce5] 57 (0, 0))] (St.swapAt [(b110, .cells #[.bool false, .slice none 0 0, .slice none 0 0, .slice (some ⟨b60, 0, none⟩) 1 1] 55 (0, 0))] (St.swapAt [] j239))), (Le2 q9017 q239)⟩))
  refine ForkT.cons (i := 6) A9017 rfl kr (zK (d := 15) (f := 47) (cap := #[]) (vs := #[.int .i64 3]) A9017 kr j9017 rfl kr kr (fun w => Try.call47 _ w) (rFrom_c _ _ j9017.lt 3 (by omega) (by omega)) ?_) ForkT.nil
  rintro v242 w242 j242 q242 hu242 ⟨ad242, len242, cap242, ae242, le242, ce242, rfl, hN242, hD242⟩ a243 A243
  refine zI (hH9017.up hu242) (fun hH242 => ?_)
  refine zH (d := 19) (v := .agg #[.bool ((Raw.of ((3 : Int) : Rat)).neg), .slice ad242 len242 cap242, .slice ae242 le242 ce242, .slice (some ⟨b33, 0, none⟩) 1 1]) 10 A243 rfl kr kr kw (fun _ => hH242) ?_
  intro a244 A244
  refine hG2 _ _ _ _ (G_cast kr (hI9009 _ _ ⟨_, ad242, len242, cap242, ae242, le242, ce242, b33, b110, b60, A244.as [0, 9, 10, 12, 19, 25] kr kr, j242, (Le2 q9017 q242), hN242, hD242⟩))
 have hI9018 : ∀ a9018 w9018, (∃ (Y9018 : Hid) (b28 : Nat) (ad38 : Option Addr) (len38 : Nat) (cap38 : Nat) (ae38 : Option Addr) (le38 : Nat) (ce38 : Nat), Fr 28 a9018 [(0, .pointer (some ⟨b2, 0, none⟩)), (9, .agg #[.bool ((Raw.of (ofQ 1 2)).neg), .slice ad11 len11 cap11, .slice ae11 le11 ce11]), (14, .agg #[.bool ((Raw.of ((1 : Int) : Rat)).neg), .slice ad5 len5 cap5, .slice ae5 le5 ce5, .slice (some ⟨b28, 0, none⟩) 1 1]), (15, .agg #[.bool ((Raw.of ((3 : Int) : Rat)).neg), .slice ad38 len38 cap38, .slice ae38 le38 ce38]), (17, .agg #[.int .i64 1, .bool ((Raw.of ((1 : Int) : Rat)).neg), .slice ad5 len5 cap5, .slice ae5 le5 ce5]), (22, .agg #[.int .i64 1, .bool ((Raw.of ((1 : Int) : Rat)).neg), .slice ad5 len5 cap5, .slice ae5 le5 ce5])] ∧ St E0 w X w9018 Y9018 [(b28, .cells #[.int .i64 0, .bool ((Raw.of ((1 : Int) : Rat)).neg), .slice ad5 len5 cap5, .slice ae5 le5 ce5] 57 (0, 0)), (b14, .cells #[.bool ((Raw.of (ofQ 1 2)).neg), .slice ad11 len11 cap11, .slice ae11 le11 ce11] 25 (0, 0)), (b7, .cells #[.bool ((Raw.of ((1 : Int) : Rat)).neg), .slice ad5 len5 cap5, .slice ae5 le5 ce5] 25 (0, 0)), (b2, .cells #[.bool false, .slice none 0 0, .slice none 0 0, .slice none 0 0] 28 (0, 0))] ∧ Le (rd w19 Y14) (rd w9018 Y9018) ∧ (Limbs (rd w9018 Y9018) ad38 len38 cap38 ((Raw.of ((3 : Int) : Rat)).ln)) ∧ (Limbs (rd w9018 Y9018) ae38 le38 ce38 ((Raw.of ((3 : Int) : Rat)).ld))) → G 9 #[true, true, true, true, true, true, true, true, true, false, false, false, true, true, false, false, false, false, false, false] a9018 w9018 := by
  rintro a9018 w9018 ⟨Y9018, b28, ad38, len38, cap38, ae38, le38, ce38, A9018, j9018, q9018, hN38, hD38⟩
  refine hG1 _ _ _ _ ?_
  refine zX (Held.cons (j9018.cells 1 rfl rfl) (Held.cons (j9018.cells 2 rfl rfl) (Held.nil _))) (fun hH9018 => ?_)
  refine zM [9, 14] kr rfl ?_
  refine ForkT.cons (i := 9) A9018 rfl kr ?_ ?_
  ·
   refine zN (d := 18) (fun b => .slice (some ⟨b, 0, none⟩) 1 1) (.cells #[.int .i64 1, .bool ((Raw.of ((1 : Int) : Rat)).neg), .slice ad5 len5 cap5, .slice ae5 le5 ce5] 57 (0, 0)) A9018 kr j9018 kw ?_
   intro b245 w245 Y245 j245 q245 hu245 a246 A246
   refine zI (hH9018.up hu245) (fun hH245 => ?_)
   refine zH (d := 19) (v := .agg #[.bool ((Raw.of ((3 : Int) : Rat)).neg), .slice ad38 len38 cap38, .slice ae38 le38 ce38, .slice (some ⟨b245, 0, none⟩) 1 1]) 10 A246 rfl kr kr kw (fun _ => hH245) ?_
   intro a247 A247
   refine hG2 _ _ _ _ (G_cast kr (hI9010 _ _ ⟨_, b28, ad38, len38, cap38, ae38, le38, ce38, b245, A247.as [0, 9, 14, 19, 22] kr kr, j245, (Le2 q9018 q245), (hN38.mono q245), (hD38.mono q245)⟩))
  refine ForkT.cons (i := 14) A9018 rfl kr (zN (d := 23) (fun b => .slice (some ⟨b, 0, none⟩) 1 1) (.cells #[.int .i64 1, .bool ((Raw.of ((1 : Int) : Rat)).neg), .slice ad5 len5 cap5, .slice ae5 le5 ce5] 57 (0, 0)) A9018 kr j9018 kw ?_) ForkT.nil
  intro b248 w248 Y248 j248 q248 hu248 a249 A249
  refine zI (hH9018.up hu248) (fun hH248 => ?_)
  refine zH (d := 24) (v := .agg #[.bool false, .slice none 0 0, .slice none 0 0, .slice (some ⟨b248, 0, none⟩) 1 1]) 15 A249 rfl kr kr kw (fun _ => hH248) ?_
  intro a250 A250
  refine hG2 _ _ _ _ (G_cast kr (hI9011 _ _ ⟨_, b28, ad38, len38, cap38, ae38, le38, ce38, b248, A250.as [0, 9, 14, 15, 17, 24] kr kr, j248, (Le2 q9018 q248), (hN38.mono q248), (hD38.mono q248)⟩))
 have hI9019 : ∀ a9019 w9019, (∃ (Y9019 : Hid) (b28 : Nat) (b40 : Nat), Fr 28 a9019 [(0, .pointer (some ⟨b2, 0, none⟩)), (9, .agg #[.bool ((Raw.of (ofQ 1 2)).neg), .slice ad11 len11 cap11, .slice ae11 le11 ce11]), (14, .agg #[.bool ((Raw.of ((1 : Int) : Rat)).neg), .slice ad5 len5 cap5, .slice ae5 le5 ce5, .slice (some ⟨b28, 0, none⟩) 1 1]), (18, .slice (some ⟨b40, 0, none⟩) 1 1), (22, .agg #[.int .i64 1, .bool ((Raw.of ((1 : Int) : Rat)).neg), .slice ad5 len5 cap5, .slice ae5 le5 ce5])] ∧ St E0 w X w9019 Y9019 [(b40, .cells #[.int .i64 1, .bool ((Raw.of ((1 : Int) : Rat)).neg), .slice ad5 len5 cap5, .slice ae5 le5 ce5] 57 (0, 0)), (b28, .cells #[.int .i64 0, .bool ((Raw.of ((1 : Int) : Rat)).neg), .slice ad5 len5 cap5, .slice ae5 le5 ce5] 57 (0, 0)), (b14, .cells #[.bool ((Raw.of (ofQ 1 2)).neg), .slice ad11 len11 cap11, .slice ae11 le11 ce11] 25 (0, 0)), (b7, .cells #[.bool ((Raw.of ((1 : Int) : Rat)).neg), .slice ad5 len5 cap5, .slice ae5 le5 ce5] 25 (0, 0)), (b2, .cells #[.bool false, .slice none 0 0, .slice none 0 0, .slice none 0 0] 28 (0, 0))] ∧ Le (rd w19 Y14) (rd w9019 Y9019)) → G 9 #[true, true, true, true, true, true, false, true, true, true, false, false, true, true, false, false, false, false, false, false] a9019 w9019 := by
  rintro a9019 w9019 ⟨Y9019, b28, b40, A9019, j9019, q9019⟩
  refine hG1 _ _ _ _ ?_
  refine zX (Held.cons (j9019.cells 2 rfl rfl) (Held.cons (j9019.cells 3 rfl rfl) (Held.nil _))) (fun hH9019 => ?_)
  refine zM [6, 14] kr rfl ?_
  refine ForkT.cons (i := 6) A9019 rfl kr ?_ ?_
  ·
   refine zK (d := 15) (f := 47) (cap := #[]) (vs := #[.int .i64 3]) A9019 kr j9019 rfl kr kr (fun w => Try.call47 _ w) (rFrom_c _ _ j9019.lt 3 (by omega) (by omega)) ?_
   rintro v251 w251 j251 q251 hu251 ⟨ad251, len251, cap251, ae251, le251, ce251, rfl, hN251, hD251⟩ a252 A252
   refine zI (hH9019.up hu251) (fun hH251 => ?_)
   refine zH (d := 19) (v := .agg #[.bool ((Raw.of ((3 : Int) : Rat)).neg), .slice ad251 len251 cap251, .slice ae251 le251 ce251, .slice (some ⟨b40, 0, none⟩) 1 1]) 10 A252 rfl kr kr kw (fun _ => hH251) ?_
   intro a253 A253
   refine hG2 _ _ _ _ (G_cast kr (hI9010 _ _ ⟨_, b28, ad251, len251, cap251, ae251, le251, ce251, b40, A253.as [0, 9, 14, 19, 22] kr kr, j251, (Le2 q9019 q251), hN251, hD251⟩))
  refine ForkT.cons (i := 14) A9019 rfl kr (zN (d := 23) (fun b => .slice (some ⟨b, 0, none⟩) 1 1) (.cells #[.int .i64 1, .bool ((Raw.of ((1 : Int) : Rat)).neg), .slice ad5 len5 cap5, .slice ae5 le5 ce5] 57 (0, 0)) A9019 kr j9019 kw ?_) ForkT.nil
  intro b254 w254 Y254 j254 q254 hu254 a255 A255
  refine zI (hH9019.up hu254) (fun hH254 => ?_)
  refine zH (d := 24) (v := .agg #[.bool false, .slice none 0 0, .slice none 0 0, .slice (some ⟨b254, 0, none⟩) 1 1]) 15 A255 rfl kr kr kw (fun _ => hH254) ?_
  intro a256 A256
  refine hG2 _ _ _ _ (G_cast kr (hI9012 _ _ ⟨_, b28, b40, b254, A256.as [0, 9, 14, 18, 24] kr kr, j254, (Le2 q9019 q254)⟩))
 have hI9020 : ∀ a9020 w9020, (∃ (Y9020 : Hid) (ad31 : Option Addr) (len31 : Nat) (cap31 : Nat) (ae31 : Option Addr) (le31 : Nat) (ce31 : Nat) (b48 : Nat), Fr 28 a9020 [(0, .pointer (some ⟨b2, 0, none⟩)), (9, .agg #[.bool ((Raw.of (ofQ 1 2)).neg), .slice ad11 len11 cap11, .slice ae11 le11 ce11]), (10, .agg #[.bool ((Raw.of ((1 : Int) : Rat)).neg), .slice ad5 len5 cap5, .slice ae5 le5 ce5]), (12, .agg #[.int .i64 0, .bool ((Raw.of ((1 : Int) : Rat)).neg), .slice ad5 len5 cap5, .slice ae5 le5 ce5]), (19, .agg #[.bool ((Raw.of ((3 : Int) : Rat)).neg), .slice ad31 len31 cap31, .slice ae31 le31 ce31, .slice (some ⟨b48, 0, none⟩) 1 1]), (22, .agg #[.int .i64 1, .bool ((Raw.of ((1 : Int) : Rat)).neg), .slice ad5 len5 cap5, .slice ae5 le5 ce5])] ∧ St E0 w X w9020 Y9020 [(b48, .cells #[.int .i64 1, .bool ((Raw.of ((1 : Int) : Rat)).neg), .slice ad5 len5 cap5, .slice ae5 le5 ce5] 57 (0, 0)), (b14, .cells #[.bool ((Raw.of (ofQ 1 2)).neg), .slice ad11 len11 cap11, .slice ae11 le11 ce11] 25 (0, 0)), (b7, .cells #[.bool ((Raw.of ((1 : Int) : Rat)).neg), .slice ad5 len5 cap5, .slice ae5 le5 ce5] 25 (0, 0)), (b2, .cells #[.bool false, .slice none 0 0, .slice none 0 0, .slice none 0 0] 28 (0, 0))] ∧ Le (rd w19 Y14) (rd w9020 Y9020) ∧ (Limbs (rd w9020 Y9020) ad31 len31 cap31 ((Raw.of ((3 : Int) : Rat)).ln)) ∧ (Limbs (rd w9020 Y9020) ae31 le31 ce31 ((Raw.of ((3 : Int) : Rat)).ld))) → G 9 #[true, true, true, true, false, false, true, true, true, true, true, false, true, true, false, false, false, false, false, false] a9020 w9020 := by
  rintro a9020 w9020 ⟨Y9020, ad31, len31, cap31, ae31, le31, ce31, b48, A9020, j9020, q9020, hN31, hD31⟩
  refine hG1 _ _ _ _ ?_
  refine zX (Held.cons (j9020.cells 1 rfl rfl) (Held.cons (j9020.cells 2 rfl rfl) (Held.nil _))) (fun hH9020 => ?_)
  refine zM [4, 14] kr rfl ?_
  refine ForkT.cons (i := 4) A9020 rfl kr ?_ ?_
  ·
   refine zN (d := 13) (fun b => .slice (some ⟨b, 0, none⟩) 1 1) (.cells #[.int .i64 0, .bool ((Raw.of ((1 : Int) : Rat)).neg), .slice ad5 len5 cap5, .slice ae5 le5 ce5] 57 (0, 0)) A9020 kr j9020 kw ?_
   intro b257 w257 Y257 j257 q257 hu257 a258 A258
   refine zI (hH9020.up hu257) (fun hH257 => ?_)
   refine zH (d := 14) (v := .agg #[.bool ((Raw.of ((1 : Int) : Rat)).neg), .slice ad5 len5 cap5, .slice ae5 le5 ce5, .slice (some ⟨b257, 0, none⟩) 1 1]) 5 A258 rfl kr kr kw (fun _ => hH257) ?_
   intro a259 A259
   refine hG2 _ _ _ _ (G_cast kr (hI9010 _ _ ⟨_, b257, ad31, len31, cap31, ae31, le31, ce31, b48, A259.as [0, 9, 14, 19, 22] kr kr, (St.swapAt [] j257), (Le2 q9020 q257), (hN31.mono q257), (hD31.mono q257)⟩))
  refine ForkT.cons (i := 14) A9020 rfl kr (zN (d := 23) (fun b => .slice (some ⟨b, 0, none⟩) 1 1) (.cells #[.int .i64 1, .bool ((Raw.of ((1 : Int) : Rat)).neg), .slice ad5 len5 cap5, .slice ae5 le5 ce5] 57 (0, 0)) A9020 kr j9020 kw ?_) ForkT.nil
  intro b260 w260 Y260 j260 q260 hu260 a261 A261
  refine zI (hH9020.up hu260) (fun hH260 => ?_)
  refine zH (d := 24) (v := .agg #[.bool false, .slice none 0 0, .slice none 0 0, .slice (some ⟨b260, 0, none⟩) 1 1]) 15 A261 rfl kr kr kw (fun _ => hH260) ?_
  intro a262 A262
  refine hG2 _ _ _ _ (G_cast kr (hI9014 _ _ ⟨_, ad31, len31, cap31, ae31, le31, ce31, b48, b260, A262.as [0, 9, 10, 12, 19, 24] kr kr, j260, (Le2 q9020 q260), (hN31.mono q260), (hD31.mono q260)⟩))
 have hI9021 : ∀ a9021 w9021, (∃ (Y9021 : Hid) (ad31 : Option Addr) (len31 : Nat) (cap31 : Nat) (ae31 : Option Addr) (le31 : Nat) (ce31 : Nat) (b51 : Nat), Fr 28 a9021 [(0, .pointer (some ⟨b2, 0, none⟩)), (9, .agg #[.bool ((Raw.of (ofQ 1 2)).neg), .slice ad11 len11 cap11, .slice ae11 le11 ce11]), (10, .agg #[.bool ((Raw.of ((1 : Int) : Rat)).neg), .slice ad5 len5 cap5, .slice ae5 le5 ce5]), (12, .agg #[.int .i64 0, .bool ((Raw.of ((1 : Int) : Rat)).neg), .slice ad5 len5 cap5, .slice ae5 le5 ce5]), (15, .agg #[.bool ((Raw.of ((3 : Int) : Rat)).neg), .slice ad31 len31 cap31, .slice ae31 le31 ce31]), (17, .agg #[.int .i64 1, .bool ((Raw.of ((1 : Int) : Rat)).neg), .slice ad5 len5 cap5, .slice ae5 le5 ce5]), (24, .agg #[.bool false, .slice none 0 0, .slice none 0 0, .slice (some ⟨b51, 0, none⟩) 1 1])] ∧ St E0 w X w9021 Y9021 [(b51, .cells #[.int .i64 1, .bool ((Raw.of ((1 : Int) : Rat)).neg), .slice ad5 len5 cap5, .slice ae5 le5 ce5] 57 (0, 0)), (b14, .cells #[.bool ((Raw.of (ofQ 1 2)).neg), .slice ad11 len11 cap11, .slice ae11 le11 ce11] 25 (0, 0)), (b7, .cells #[.bool ((Raw.of ((1 : Int) : Rat)).neg), .slice ad5 len5 cap5, .slice ae5 le5 ce5] 25 (0, 0)), (b2, .cells #[.bool false, .slice none 0 0, .slice none 0 0, .slice none 0 0] 28 (0, 0))] ∧ Le (rd w19 Y14) (rd w9021 Y9021) ∧ (Limbs (rd w9021 Y9021) ad31 len31 cap31 ((Raw.of ((3 : Int) : Rat)).ln)) ∧ (Limbs (rd w9021 Y9021) ae31 le31 ce31 ((Raw.of ((3 : Int) : Rat)).ld))) → G 9 #[true, true, true, true, false, false, true, true, true, false, false, false, true, true, true, true, false, false, false, false] a9021 w9021 := by
  rintro a9021 w9021 ⟨Y9021, ad31, len31, cap31, ae31, le31, ce31, b51, A9021, j9021, q9021, hN31, hD31⟩
  refine hG1 _ _ _ _ ?_
  refine zX (Held.cons (j9021.cells 1 rfl rfl) (Held.cons (j9021.cells 2 rfl rfl) (Held.nil _))) (fun hH9021 => ?_)
  refine zM [4, 9, 16] kr rfl ?_
  refine ForkT.cons (i := 4) A9021 rfl kr ?_ ?_
  ·
   refine zN (d := 13) (fun b => .slice (some ⟨b, 0, none⟩) 1 1) (.cells #[.int .i64 0, .bool ((Raw.of ((1 : Int) : Rat)).neg), .slice ad5 len5 cap5, .slice ae5 le5 ce5] 57 (0, 0)) A9021 kr j9021 kw ?_
   intro b263 w263 Y263 j263 q263 hu263 a264 A264
   refine zI (hH9021.up hu263) (fun hH263 => ?_)
   refine zH (d := 14) (v := .agg #[.bool ((Raw.of ((1 : Int) : Rat)).neg), .slice ad5 len5 cap5, .slice ae5 le5 ce5, .slice (some ⟨b263, 0, none⟩) 1 1]) 5 A264 rfl kr kr kw (fun _ => hH263) ?_
   intro a265 A265
   refine hG2 _ _ _ _ (G_cast kr (hI9011 _ _ ⟨_, b263, ad31, len31, cap31, ae31, le31, ce31, b51, A265.as [0, 9, 14, 15, 17, 24] kr kr, (St.swapAt [] j263), (Le2 q9021 q263), (hN31.mono q263), (hD31.mono q263)⟩))
  refine ForkT.cons (i := 9) A9021 rfl kr ?_ ?_
  ·
   refine zN (d := 18) (fun b => .slice (some ⟨b, 0, none⟩) 1 1) (.cells #[.int .i64 1, .bool ((Raw.of ((1 : Int) : Rat)).neg), .slice ad5 len5 cap5, .slice ae5 le5 ce5] 57 (0, 0)) A9021 kr j9021 kw ?_
   intro b266 w266 Y266 j266 q266 hu266 a267 A267
   refine zI (hH9021.up hu266) (fun hH266 => ?_)
   refine zH (d := 19) (v := .agg #[.bool ((Raw.of ((3 : Int) : Rat)).neg), .slice ad31 len31 cap31, .slice ae31 le31 ce31, .slice (some ⟨b266, 0, none⟩) 1 1]) 10 A267 rfl kr kr kw (fun _ => hH266) ?_
   intro a268 A268
   refine hG2 _ _ _ _ (G_cast kr (hI9014 _ _ ⟨_, ad31, len31, cap31, ae31, le31, ce31, b266, b51, A268.as [0, 9, 10, 12, 19, 24] kr kr, (St.swapAt [] j266), (Le2 q9021 q266), (hN31.mono q266), (hD31.mono q266)⟩))
  refine ForkT.cons (i := 16) A9021 rfl kr (zN (d := 25) (fun b => .slice (some ⟨b, 0, none⟩) 1 1) (.cells #[.bool false, .slice none 0 0, .slice none 0 0, .slice (some ⟨b51, 0, none⟩) 1 1] 55 (0, 0)) A9021 kr j9021 kw ?_) ForkT.nil
  intro b269 w269 Y269 j269 q269 hu269 a270 A270
  refine zI (hH9021.up hu269) (fun hH269 => ?_)
  refine hG2 _ _ _ _ (G_cast kr (hI9016 _ _ ⟨_, ad31, len31, cap31, ae31, le31, ce31, b269, b51, A270.as [0, 9, 10, 12, 15, 17, 25] kr kr, j269, (Le2 q9021 q269), (hN31.mono q269), (hD31.mono q269)⟩))
 have hI9022 : ∀ a9022 w9022, (∃ (Y9022 : Hid) (b33 : Nat) (b60 : Nat), Fr 28 a9022 [(0, .pointer (some ⟨b2, 0, none⟩)), (9, .agg #[.bool ((Raw.of (ofQ 1 2)).neg), .slice ad11 len11 cap11, .slice ae11 le11 ce11]), (10, .agg #[.bool ((Raw.of ((1 : Int) : Rat)).neg), .slice ad5 len5 cap5, .slice ae5 le5 ce5]), (12, .agg #[.int .i64 0, .bool ((Raw.of ((1 : Int) : Rat)).neg), .slice ad5 len5 cap5, .slice ae5 le5 ce5]), (18, .slice (some ⟨b33, 0, none⟩) 1 1), (24, .agg #[.bool false, .slice none 0 0, .slice none 0 0, .slice (some ⟨b60, 0, none⟩) 1 1])] ∧ St E0 w X w9022 Y9022 [(b60, .cells #[.int .i64 1, .bool ((Raw.of ((1 : Int) : Rat)).neg), .slice ad5 len5 cap5, .slice ae5 le5 ce5] 57 (0, 0)), (b33, .cells #[.int .i64 1, .bool ((Raw.of ((1 : Int) : Rat)).neg), .slice ad5 len5 cap5, .slice ae5 le5 ce5] 57 (0, 0)), (b14, .cells #[.bool ((Raw.of (ofQ 1 2)).neg), .slice ad11 len11 cap11, .slice ae11 le11 ce11] 25 (0, 0)), (b7, .cells #[.bool ((Raw.of ((1 : Int) : Rat)).neg), .slice ad5 len5 cap5, .slice ae5 le5 ce5] 25 (0, 0)), (b2, .cells #[.bool false, .slice none 0 0, .slice none 0 0, .slice none 0 0] 28 (0, 0))] ∧ Le (rd w19 Y14) (rd w9022 Y9022)) → G 9 #[true, true, true, true, false, false, false, true, true, true, false, false, true, true, true, true, false, false, false, false] a9022 w9022 := by
  rintro a9022 w9022 ⟨Y9022, b33, b60, A9022, j9022, q9022⟩
  refine hG1 _ _ _ _ ?_
  refine zX (Held.cons (j9022.cells 2 rfl rfl) (Held.cons (j9022.cells 3 rfl rfl) (Held.nil _))) (fun hH9022 => ?_)
  refine zM [4, 6, 16] kr rfl ?_
  refine ForkT.cons (i := 4) A9022 rfl kr ?_ ?_
  ·
   refine zN (d := 13) (fun b => .slice (some ⟨b, 0, none⟩) 1 1) (.cells #[.int .i64 0, .bool ((Raw.of ((1 : Int) : Rat)).neg), .slice ad5 len5 cap5, .slice ae5 le5 ce5] 57 (0, 0)) A9022 kr j9022 kw ?_
   intro b271 w271 Y271 j271 q271 hu271 a272 A272
   refine zI (hH9022.up hu271) (fun hH271 => ?_)
   refine zH (d := 14) (v := .agg #[.bool ((Raw.of ((1 : Int) : Rat)).neg), .slice ad5 len5 cap5, .slice ae5 le5 ce5, .slice (some ⟨b271, 0, none⟩) 1 1]) 5 A272 rfl kr kr kw (fun _ => hH271) ?_
   intro a273 A273
   refine hG2 _ _ _ _ (G_cast kr (hI9012 _ _ ⟨_, b271, b33, b60, A273.as [0, 9, 14, 18, 24] kr kr, (St.swapAt [(b60, .cells #[.int .i64 1, .bool ((Raw.of ((1 : Int) : Rat)).neg), .slice ad5 len5 cap5, .slice ae5 le5 ce5] 57 (0, 0))] (St.swapAt [] j271)), (Le2 q9022 q271)⟩))
  refine ForkT.cons (i := 6) A9022 rfl kr ?_ ?_
  ·
   refine zK (d := 15) (f := 47) (cap := #[]) (vs := #[.int .i64 3]) A9022 kr j9022 rfl kr kr (fun w => Try.call47 _ w) (rFrom_c _ _ j9022.lt 3 (by omega) (by omega)) ?_
   rintro v274 w274 j274 q274 hu274 ⟨ad274, len274, cap274, ae274, le274, ce274, rfl, hN274, hD274⟩ a275 A275
   refine zI (hH9022.up hu274) (fun hH274 => ?_)
   refine zH (d := 19) (v := .agg #[.bool ((Raw.of ((3 : Int) : Rat)).neg), .slice ad274 len274 cap274, .slice ae274 le274 ce274, .slice (some ⟨b33, 0, none⟩) 1 1]) 10 A275 rfl kr kr kw (fun _ => hH274) ?_
   intro a276 A276
   refine hG2 _ _ _ _ (G_cast kr (hI9014 _ _ ⟨_, ad274, len274, cap274, ae274, le274, ce274, b33, b60, A276.as [0, 9, 10, 12, 19, 24] kr kr, j274, (Le2 q9022 q274), hN274, hD274⟩))
  refine ForkT.cons (i := 16) A9022 rfl kr (zN (d := 25) (fun b => .slice (some ⟨b, 0, none⟩) 1 1) (.cells #[.bool false, .slice none 0 0, .slice none 0 0, .slice (some ⟨b60, 0, none⟩) 1 1] 55 (0, 0)) A9022 kr j9022 kw ?_) ForkT.nil
  intro b277 w277 Y277 j277 q277 hu277 a278 A278
  refine zI (hH9022.up hu277) (fun hH277 => ?_)
  refine hG2 _ _ _ _ (G_cast kr (hI9017 _ _ ⟨_, b33, b277, b60, A278.as [0, 9, 10, 12, 18, 25] kr kr, j277, (Le2 q9022 q277)⟩))
 refine zY (d := 9) (v := .agg #[.bool ((Raw.of (ofQ 1 2)).neg), .slice ad11 len11 cap11, .slice ae11 le11 ce11]) 0 A17 rfl kr kr kr (fun w hw => zF (t := 25) (g := true) (vs := [.bool ((Raw.of (ofQ 1 2)).neg), .slice ad11 len11 cap11, .slice ae11 le11 ce11]) (ad := ⟨b14, 0, none⟩) rfl kr kr ir (hw.get 0 kr)) hH19 ?_
 intro a279 A279
 refine zY (d := 10) (v := .agg #[.bool ((Raw.of ((1 : Int) : Rat)).neg), .slice ad5 len5 cap5, .slice ae5 le5 ce5]) 1 A279 rfl kr kr kr (fun w hw => zF (t := 25) (g := true) (vs := [.bool ((Raw.of ((1 : Int) : Rat)).neg), .slice ad5 len5 cap5, .slice ae5 le5 ce5]) (ad := ⟨b7, 0, none⟩) rfl kr kr ir (hw.get 1 kr)) hH19 ?_
 intro a280 A280
 refine zY (d := 11) (v := .agg #[.bool ((Raw.of ((1 : Int) : Rat)).neg), .slice ad5 len5 cap5, .slice ae5 le5 ce5]) 2 A280 rfl kr kr kr (fun w hw => zF (t := 25) (g := true) (vs := [.bool ((Raw.of ((1 : Int) : Rat)).neg), .slice ad5 len5 cap5, .slice ae5 le5 ce5]) (ad := ⟨b7, 0, none⟩) rfl kr kr ir (hw.get 1 kr)) hH19 ?_
 intro a281 A281
 refine zH (d := 12) (v := .agg #[.int .i64 0, .bool ((Raw.of ((1 : Int) : Rat)).neg), .slice ad5 len5 cap5, .slice ae5 le5 ce5]) 3 A281 rfl kr kr kw (fun _ => hH19) ?_
 intro a282 A282
 refine zY (d := 16) (v := .agg #[.bool ((Raw.of ((1 : Int) : Rat)).neg), .slice ad5 len5 cap5, .slice ae5 le5 ce5]) 7 A282 rfl kr kr kr (fun w hw => zF (t := 25) (g := true) (vs := [.bool ((Raw.of ((1 : Int) : Rat)).neg), .slice ad5 len5 cap5, .slice ae5 le5 ce5]) (ad := ⟨b7, 0, none⟩) rfl kr kr ir (hw.get 1 kr)) hH19 ?_
 intro a283 A283
 refine zH (d := 17) (v := .agg #[.int .i64 1, .bool ((Raw.of ((1 : Int) : Rat)).neg), .slice ad5 len5 cap5, .slice ae5 le5 ce5]) 8 A283 rfl kr kr kw (fun _ => hH19) ?_
 intro a284 A284
 refine zY (d := 21) (v := .agg #[.bool ((Raw.of ((1 : Int) : Rat)).neg), .slice ad5 len5 cap5, .slice ae5 le5 ce5]) 12 A284 rfl kr kr kr (fun w hw => zF (t := 25) (g := true) (vs := [.bool ((Raw.of ((1 : Int) : Rat)).neg), .slice ad5 len5 cap5, .slice ae5 le5 ce5]) (ad := ⟨b7, 0, none⟩) rfl kr kr ir (hw.get 1 kr)) hH19 ?_
 intro a285 A285
 refine zH (d := 22) (v := .agg #[.int .i64 1, .bool ((Raw.of ((1 : Int) : Rat)).neg), .slice ad5 len5 cap5, .slice ae5 le5 ce5]) 13 A285 rfl kr kr kw (fun _ => hH19) ?_
 intro a286 A286
 refine zM [4, 6, 9, 14] kr rfl ?_
 refine ForkT.cons (i := 4) A286 rfl kr ?_ ?_
 ·
  refine zN (d := 13) (fun b => .slice (some ⟨b, 0, none⟩) 1 1) (.cells #[.int .i64 0, .bool ((Raw.of ((1 : Int) : Rat)).neg), .slice ad5 len5 cap5, .slice ae5 le5 ce5] 57 (0, 0)) A286 kr j19 kw ?_
  intro b287 w287 Y287 j287 q287 hu287 a288 A288
  refine zI (hH19.up hu287) (fun hH287 => ?_)
  refine zH (d := 14) (v := .agg #[.bool ((Raw.of ((1 : Int) : Rat)).neg), .slice ad5 len5 cap5, .slice ae5 le5 ce5, .slice (some ⟨b287, 0, none⟩) 1 1]) 5 A288 rfl kr kr kw (fun _ => hH287) ?_
  intro a289 A289
  refine zM [6, 9, 14] kr rfl ?_
  refine ForkT.cons (i := 6) A289 rfl kr ?_ ?_
  ·
   refine zK (d := 15) (f := 47) (cap := #[]) (vs := #[.int .i64 3]) A289 kr j287 rfl kr kr (fun w => Try.call47 _ w) (rFrom_c _ _ j287.lt 3 (by omega) (by omega)) ?_
   rintro v290 w290 j290 q290 hu290 ⟨ad290, len290, cap290, ae290, le290, ce290, rfl, hN290, hD290⟩ a291 A291
   refine zI (hH287.up hu290) (fun hH290 => ?_)
   refine hG2 _ _ _ _ (G_cast kr (hI9018 _ _ ⟨_, b287, ad290, len290, cap290, ae290, le290, ce290, A291.as [0, 9, 14, 15, 17, 22] kr kr, j290, (Le2 q287 q290), hN290, hD290⟩))
  refine ForkT.cons (i := 9) A289 rfl kr ?_ ?_
  ·
   refine zN (d := 18) (fun b => .slice (some ⟨b, 0, none⟩) 1 1) (.cells #[.int .i64 1, .bool ((Raw.of ((1 : Int) : Rat)).neg), .slice ad5 len5 cap5, .slice ae5 le5 ce5] 57 (0, 0)) A289 kr j287 kw ?_
   intro b292 w292 Y292 j292 q292 hu292 a293 A293
   refine zI (hH287.up hu292) (fun hH292 => ?_)
   refine hG2 _ _ _ _ (G_cast kr (hI9019 _ _ ⟨_, b287, b292, A293.as [0, 9, 14, 18, 22] kr kr, j292, (Le2 q287 q292)⟩))
  refine ForkT.cons (i := 14) A289 rfl kr (zN (d := 23) (fun b => .slice (some ⟨b, 0, none⟩) 1 1) (.cells #[.int .i64 1, .bool ((Raw.of ((1 : Int) : Rat)).neg), .slice ad5 len5 cap5, .slice ae5 le5 ce5] 57 (0, 0)) A289 kr j287 kw ?_) ForkT.nil
  intro b294 w294 Y294 j294 q294 hu294 a295 A295
  refine zI (hH287.up hu294) (fun hH294 => ?_)
  refine zH (d := 24) (v := .agg #[.bool false, .slice none 0 0, .slice none 0 0, .slice (some ⟨b294, 0, none⟩) 1 1]) 15 A295 rfl kr kr kw (fun _ => hH294) ?_
  intro a296 A296
  refine hG2 _ _ _ _ (G_cast kr (hI9015 _ _ ⟨_, b287, b294, A296.as [0, 9, 14, 17, 24] kr kr, j294, (Le2 q287 q294)⟩))
 refine ForkT.cons (i := 6) A286 rfl kr ?_ ?_
 ·
  refine zK (d := 15) (f := 47) (cap := #[]) (vs := #[.int .i64 3]) A286 kr j19 rfl kr kr (fun w => Try.call47 _ w) (rFrom_c _ _ j19.lt 3 (by omega) (by omega)) ?_
  rintro v297 w297 j297 q297 hu297 ⟨ad297, len297, cap297, ae297, le297, ce297, rfl, hN297, hD297⟩ a298 A298
  refine zI (hH19.up hu297) (fun hH297 => ?_)
  refine zM [4, 9, 14] kr rfl ?_
  refine ForkT.cons (i := 4) A298 rfl kr ?_ ?_
  ·
   refine zN (d := 13) (fun b => .slice (some ⟨b, 0, none⟩) 1 1) (.cells #[.int .i64 0, .bool ((Raw.of ((1 : Int) : Rat)).neg), .slice ad5 len5 cap5, .slice ae5 le5 ce5] 57 (0, 0)) A298 kr j297 kw ?_
   intro b299 w299 Y299 j299 q299 hu299 a300 A300
   refine zI (hH297.up hu299) (fun hH299 => ?_)
   refine zH (d := 14) (v := .agg #[.bool ((Raw.of ((1 : Int) : Rat)).neg), .slice ad5 len5 cap5, .slice ae5 le5 ce5, .slice (some ⟨b299, 0, none⟩) 1 1]) 5 A300 rfl kr kr kw (fun _ => hH299) ?_
   intro a301 A301
   refine hG2 _ _ _ _ (G_cast kr (hI9018 _ _ ⟨_, b299, ad297, len297, cap297, ae297, le297, ce297, A301.as [0, 9, 14, 15, 17, 22] kr kr, j299, (Le2 q297 q299), (hN297.mono q299), (hD297.mono q299)⟩))
  refine ForkT.cons (i := 9) A298 rfl kr ?_ ?_
  ·
   refine zN (d := 18) (fun b => .slice (some ⟨b, 0, none⟩) 1 1) (.cells #[.int .i64 1, .bool ((Raw.of ((1 : Int) : Rat)).neg), .slice ad5 len5 cap5, .slice ae5 le5 ce5] 57 (0, 0)) A298 kr j297 kw ?_
   intro b302 w302 Y302 j302 q302 hu302 a303 A303
   refine zI (hH297.up hu302) (fun hH302 => ?_)
   refine zH (d := 19) (v := .agg #[.bool ((Raw.of ((3 : Int) : Rat)).neg), .slice ad297 len297 cap297, .slice ae297 le297 ce297, .slice (some ⟨b302, 0, none⟩) 1 1]) 10 A303 rfl kr kr kw (fun _ => hH302) ?_
   intro a304 A304
   refine hG2 _ _ _ _ (G_cast kr (hI9020 _ _ ⟨_, ad297, len297, cap297, ae297, le297, ce297, b302, A304.as [0, 9, 10, 12, 19, 22] kr kr, j302, (Le2 q297 q302), (hN297.mono q302), (hD297.mono q302)⟩))
  refine ForkT.cons (i := 14) A298 rfl kr (zN (d := 23) (fun b => .slice (some ⟨b, 0, none⟩) 1 1) (.cells #[.int .i64 1, .bool ((Raw.of ((1 : Int) : Rat)).neg), .slice ad5 len5 cap5, .slice ae5 le5 ce5] 57 (0, 0)) A298 kr j297 kw ?_) ForkT.nil
  intro b305 w305 Y305 j305 q305 hu305 a306 A306
  refine zI (hH297.up hu305) (fun hH305 => ?_)
  refine zH (d := 24) (v := .agg #[.bool false, .slice none 0 0, .slice none 0 0, .slice (some ⟨b305, 0, none⟩) 1 1]) 15 A306 rfl kr kr kw (fun _ => hH305) ?_
  intro a307 A307
  refine hG2 _ _ _ _ (G_cast kr (hI9021 _ _ ⟨_, ad297, len297, cap297, ae297, le297, ce297, b305, A307.as [0, 9, 10, 12, 15, 17, 24] kr kr, j305, (Le2 q297 q305), (hN297.mono q305), (hD297.mono q305)⟩))
 refine ForkT.cons (i := 9) A286 rfl kr ?_ ?_
 ·
  refine zN (d := 18) (fun b => .slice (some ⟨b, 0, none⟩) 1 1) (.cells #[.int .i64 1, .bool ((Raw.of ((1 : Int) : Rat)).neg), .slice ad5 len5 cap5, .slice ae5 le5 ce5] 57 (0, 0)) A286 kr j19 kw ?_
  intro b308 w308 Y308 j308 q308 hu308 a309 A309
  refine zI (hH19.up hu308) (fun hH308 => ?_)
  refine zM [4, 6, 14] kr rfl ?_
  refine ForkT.cons (i := 4) A309 rfl kr ?_ ?_
  ·
   refine zN (d := 13) (fun b => .slice (some ⟨b, 0, none⟩) 1 1) (.cells #[.int .i64 0, .bool ((Raw.of ((1 : Int) : Rat)).neg), .slice ad5 len5 cap5, .slice ae5 le5 ce5] 57 (0, 0)) A309 kr j308 kw ?_
   intro b310 w310 Y310 j310 q310 hu310 a311 A311
   refine zI (hH308.up hu310) (fun hH310 => ?_)
   refine zH (d := 14) (v := .agg #[.bool ((Raw.of ((1 : Int) : Rat)).neg), .slice ad5 len5 cap5, .slice ae5 le5 ce5, .slice (some ⟨b310, 0, none⟩) 1 1]) 5 A311 rfl kr kr kw (fun _ => hH310) ?_
   intro a312 A312
   refine hG2 _ _ _ _ (G_cast kr (hI9019 _ _ ⟨_, b310, b308, A312.as [0, 9, 14, 18, 22] kr kr, (St.swapAt [] j310), (Le2 q308 q310)⟩))
  refine ForkT.cons (i := 6) A309 rfl kr ?_ ?_
  ·
   refine zK (d := 15) (f := 47) (cap := #[]) (vs := #[.int .i64 3]) A309 kr j308 rfl kr kr (fun w => Try.call47 _ w) (rFrom_c _ _ j308.lt 3 (by omega) (by omega)) ?_
   rintro v313 w313 j313 q313 hu313 ⟨ad313, len313, cap313, ae313, le313, ce313, rfl, hN313, hD313⟩ a314 A314
   refine zI (hH308.up hu313) (fun hH313 => ?_)
   refine zH (d := 19) (v := .agg #[.bool ((Raw.of ((3 : Int) : Rat)).neg), .slice ad313 len313 cap313, .slice ae313 le313 ce313, .slice (some ⟨b308, 0, none⟩) 1 1]) 10 A314 rfl kr kr kw (fun _ => hH313) ?_
   intro a315 A315
   refine hG2 _ _ _ _ (G_cast kr (hI9020 _ _ ⟨_, ad313, len313, cap313, ae313, le313, ce313, b308, A315.as [0, 9, 10, 12, 19, 22] kr kr, j313, (Le2 q308 q313), hN313, hD313⟩))
  refine ForkT.cons (i := 14) A309 rfl kr (zN (d := 23) (fun b => .slice (some ⟨b, 0, none⟩) 1 1) (.cells #[.int .i64 1, .bool ((Raw.of ((1 : Int) : Rat)).neg), .slice ad5 len5 cap5, .slice ae5 le5 ce5] 57 (0, 0)) A309 kr j308 kw ?_) ForkT.nil
  intro b316 w316 Y316 j316 q316 hu316 a317 A317
  refine zI (hH308.up hu316) (fun hH316 => ?_)
  refine zH (d := 24) (v := .agg #[.bool false, .slice none 0 0, .slice none 0 0, .slice (some ⟨b316, 0, none⟩) 1 1]) 15 A317 rfl kr kr kw (fun _ => hH316) ?_
  intro a318 A318
  refine hG2 _ _ _ _ (G_cast kr (hI9022 _ _ ⟨_, b308, b316, A318.as [0, 9, 10, 12, 18, 24] kr kr, j316, (Le2 q308 q316)⟩))
 refine ForkT.cons (i := 14) A286 rfl kr (zN (d := 23) (fun b => .slice (some ⟨b, 0, none⟩) 1 1) (.cells #[.int .i64 1, .bool ((Raw.of ((1 : Int) : Rat)).neg), .slice ad5 len5 cap5, .slice ae5 le5 ce5] 57 (0, 0)) A286 kr j19 kw ?_) ForkT.nil
 intro b319 w319 Y319 j319 q319 hu319 a320 A320
 refine zI (hH19.up hu319) (fun hH319 => ?_)
 refine zH (d := 24) (v := .agg #[.bool false, .slice none 0 0, .slice none 0 0, .slice (some ⟨b319, 0, none⟩) 1 1]) 15 A320 rfl kr kr kw (fun _ => hH319) ?_
 intro a321 A321
 refine zM [4, 6, 9, 16] kr rfl ?_
 refine ForkT.cons (i := 4) A321 rfl kr ?_ ?_
 ·
  refine zN (d := 13) (fun b => .slice (some ⟨b, 0, none⟩) 1 1) (.cells #[.int .i64 0, .bool ((Raw.of ((1 : Int) : Rat)).neg), .slice ad5 len5 cap5, .slice ae5 le5 ce5] 57 (0, 0)) A321 kr j319 kw ?_
  intro b322 w322 Y322 j322 q322 hu322 a323 A323
  refine zI (hH319.up hu322) (fun hH322 => ?_)
  refine zH (d := 14) (v := .agg #[.bool ((Raw.of ((1 : Int) : Rat)).neg), .slice ad5 len5 cap5, .slice ae5 le5 ce5, .slice (some ⟨b322, 0, none⟩) 1 1]) 5 A323 rfl kr kr kw (fun _ => hH322) ?_
  intro a324 A324
  refine hG2 _ _ _ _ (G_cast kr (hI9015 _ _ ⟨_, b322, b319, A324.as [0, 9, 14, 17, 24] kr kr, (St.swapAt [] j322), (Le2 q319 q322)⟩))
 refine ForkT.cons (i := 6) A321 rfl kr ?_ ?_
 ·
  refine zK (d := 15) (f := 47) (cap := #[]) (vs := #[.int .i64 3]) A321 kr j319 rfl kr kr (fun w => Try.call47 _ w) (rFrom_c _ _ j319.lt 3 (by omega) (by omega)) ?_
  rintro v325 w325 j325 q325 hu325 ⟨ad325, len325, cap325, ae325, le325, ce325, rfl, hN325, hD325⟩ a326 A326
  refine zI (hH319.up hu325) (fun hH325 => ?_)
  refine hG2 _ _ _ _ (G_cast kr (hI9021 _ _ ⟨_, ad325, len325, cap325, ae325, le325, ce325, b319, A326.as [0, 9, 10, 12, 15, 17, 24] kr kr, j325, (Le2 q319 q325), hN325, hD325⟩))
 refine ForkT.cons (i := 9) A321 rfl kr ?_ ?_
 ·
  refine zN (d := 18) (fun b => .slice (some ⟨b, 0, none⟩) 1 1) (.cells #[.int .i64 1, .bool ((Raw.of ((1 : Int) : Rat)).neg), .slice ad5 len5 cap5, .slice ae5 le5 ce5] 57 (0, 0)) A321 kr j319 kw ?_
  intro b327 w327 Y327 j327 q327 hu327 a328 A328
  refine zI (hH319.up hu327) (fun hH327 => ?_)
  refine hG2 _ _ _ _ (G_cast kr (hI9022 _ _ ⟨_, b327, b319, A328.as [0, 9, 10, 12, 18, 24] kr kr, (St.swapAt [] j327), (Le2 q319 q327)⟩))
 refine ForkT.cons (i := 16) A321 rfl kr (zN (d := 25) (fun b => .slice (some ⟨b, 0, none⟩) 1 1) (.cells #[.bool false, .slice none 0 0, .slice none 0 0, .slice (some ⟨b319, 0, none⟩) 1 1] 55 (0, 0)) A321 kr j319 kw ?_) ForkT.nil
 intro b329 w329 Y329 j329 q329 hu329 a330 A330
 refine zI (hH319.up hu329) (fun hH329 => ?_)
 refine zM [4, 6, 9] kr rfl ?_
 refine ForkT.cons (i := 4) A330 rfl kr ?_ ?_
 ·
  refine zN (d := 13) (fun b => .slice (some ⟨b, 0, none⟩) 1 1) (.cells #[.int .i64 0, .bool ((Raw.of ((1 : Int) : Rat)).neg), .slice ad5 len5 cap5, .slice ae5 le5 ce5] 57 (0, 0)) A330 kr j329 kw ?_
  intro b331 w331 Y331 j331 q331 hu331 a332 A332
  refine zI (hH329.up hu331) (fun hH331 => ?_)
  refine zH (d := 14) (v := .agg #[.bool ((Raw.of ((1 : Int) : Rat)).neg), .slice ad5 len5 cap5, .slice ae5 le5 ce5, .slice (some ⟨b331, 0, none⟩) 1 1]) 5 A332 rfl kr kr kw (fun _ => hH331) ?_
  intro a333 A333
  refine hG2 _ _ _ _ (G_cast kr (hI9013 _ _ ⟨_, b331, b329, b319, A333.as [0, 9, 14, 17, 25] kr kr, (St.swapAt [(b329, .cells #[.bool false, .slice none 0 0, .slice none 0 0, .slice (some ⟨b319, 0, none⟩) 1 1] 55 (0, 0))] (St.swapAt [] j331)), (Le3 q319 q329 q331)⟩))
 refine ForkT.cons (i := 6) A330 rfl kr ?_ ?_
 ·
  refine zK (d := 15) (f := 47) (cap := #[]) (vs := #[.int .i64 3]) A330 kr j329 rfl kr kr (fun w => Try.call47 _ w) (rFrom_c _ _ j329.lt 3 (by omega) (by omega)) ?_
  rintro v334 w334 j334 q334 hu334 ⟨ad334, len334, cap334, ae334, le334, ce334, rfl, hN334, hD334⟩ a335 A335
  refine zI (hH329.up hu334) (fun hH334 => ?_)
  refine hG2 _ _ _ _ (G_cast kr (hI9016 _ _ ⟨_, ad334, len334, cap334, ae334, le334, ce334, b329, b319, A335.as [0, 9, 10, 12, 15, 17, 25] kr kr, j334, (Le3 q319 q329 q334), hN334, hD334⟩))
 refine ForkT.cons (i := 9) A330 rfl kr (zN (d := 18) (fun b => .slice (some ⟨b, 0, none⟩) 1 1) (.cells #[.int .i64 1, .bool ((Raw.of ((1 : Int) : Rat)).neg), .slice ad5 len5 cap5, .slice ae5 le5 ce5] 57 (0, 0)) A330 kr j329 kw ?_) ForkT.nil
 intro b336 w336 Y336 j336 q336 hu336 a337 A337
 refine zI (hH329.up hu336) (fun hH336 => ?_)
 refine hG2 _ _ _ _ (G_cast kr (hI9017 _ _ ⟨_, b336, b329, b319, A337.as [0, 9, 10, 12, 18, 25] kr kr, (St.swapAt [(b329, .cells #[.bool false, .slice none 0 0, .slice none 0 0, .slice (some ⟨b319, 0, none⟩) 1 1] 55 (0, 0))] (St.swapAt [] j336)), (Le3 q319 q329 q336)⟩))
end Go.Proofs.Ytoocgllbbihoaaa
namespace Go.Proofs.Ytoocgllbbihoaaa
open Go Go.Gv Go.RowKit
set_option maxRecDepth 100000
set_option maxHeartbeats 1000000
theorem ints_at {r : Rd} {b : Nat} (is : List Int) (h : At r ⟨b, 0, none⟩ (ivals is)) (hb : is.length ≤ 1000) : Ints r (some ⟨b, 0, none⟩) is.length is.length is :=
  ⟨rfl, Nat.le_refl _, by omega, .inr ⟨b, 0, rfl, fun i x hi j v hj => by
    rcases j with _ | j
    · simp at hj; subst hj
      have := h i (.int .i64 x) (by simp [ivals, hi])
      simpa [add_mk] using this
    · simp at hj⟩⟩
theorem rats_flat {r : Rd} {b : Nat} (es : List RE) (hat : At r ⟨b, 0, none⟩ (flat es)) (hok : ∀ e ∈ es, e.ok r) (hb : es.length ≤ 1000) : Rats r (some ⟨b, 0, none⟩) es.length es.length (es.map (·.x)) := by
  refine ⟨by simp, Nat.le_refl _, by omega, .inr ⟨b, 0, rfl, fun i x hi => ?_⟩⟩
  rw [List.getElem?_map] at hi
  cases he : es[i]? with
  | none => rw [he] at hi; cases hi
  | some e =>
    rw [he] at hi
    obtain rfl : e.x = x := by simpa using hi
    have hmem := List.mem_of_getElem? he
    refine ⟨e.an, e.ln, e.cn, e.am, e.lm, e.cm, fun j v hj => ?_, (hok e hmem).1, (hok e hmem).2⟩
    have := hat (i * 3 + j) v (flat_get es i e he j v hj)
    rw [add_mk, Nat.zero_add] at this
    rw [add_mk, Nat.zero_add]
    exact this
theorem Score_e (w : World) (X : Hid) (hX : ∀ k o, X k o → k < w.heap.size) (m : Mdp) (ad : Option Addr) (len cap : Nat) (h : Limbs (rd w X) ad len cap m.disc.ln) (ae : Option Addr) (le ce : Nat) (h2 : Limbs (rd w X) ae le ce m.disc.ld) (st : Option Addr) (ls cs : Nat) (hst : StatesR (rd w X) st ls cs m.states) (v : List Raw) (av : Option Addr) (lv cv : Nat) (hv : Rats (rd w X) av lv cv v) (hlv : lv ≤ 1099511627776) (i j : Int) (r : Raw) (e : Int) (hr : m.scoreAt v i j = (r, e)) : Calls Try.prog 13 #[.agg #[.bool m.disc.neg, .slice ad len cap, .slice ae le ce, .slice st ls cs], .slice av lv cv, .int .i64 i, .int .i64 j] w (Ret E0 w fun w' u => ∃ x, u = .tuple #[x, .int .i64 e] ∧ RawX X w' x r) := by have h9 := Score_c w X hX m ad len cap h ae le ce h2 st ls cs hst v av lv cv hv hlv i j; rw [hr] at h9; exact h9
theorem Backup_e (w : World) (X : Hid) (hX : ∀ k o, X k o → k < w.heap.size) (m : Mdp) (ad : Option Addr) (len cap : Nat) (h : Limbs (rd w X) ad len cap m.disc.ln) (ae : Option Addr) (le ce : Nat) (h2 : Limbs (rd w X) ae le ce m.disc.ld) (st : Option Addr) (ls cs : Nat) (hst : StatesR (rd w X) st ls cs m.states) (v : List Raw) (av : Option Addr) (lv cv : Nat) (hv : Rats (rd w X) av lv cv v) (hlv : lv ≤ 1099511627776) (xs : List Raw) (is : List Int) (e : Int) (hr : m.backV v = (xs, is, e)) : Calls Try.prog 10 #[.agg #[.bool m.disc.neg, .slice ad len cap, .slice ae le ce, .slice st ls cs], .slice av lv cv] w (Ret E0 w fun w' u => ∃ ad len cap ad2 len2 cap2, u = .tuple #[.slice ad len cap, .slice ad2 len2 cap2, .int .i64 e] ∧ Rats (rd w' X) ad len cap xs ∧ Ints (rd w' X) ad2 len2 cap2 is) := by have h9 := Backup_c w X hX m ad len cap h ae le ce h2 st ls cs hst v av lv cv hv hlv; rw [hr] at h9; exact h9
theorem Under_e (w : World) (X : Hid) (hX : ∀ k o, X k o → k < w.heap.size) (m : Mdp) (ad : Option Addr) (len cap : Nat) (h : Limbs (rd w X) ad len cap m.disc.ln) (ae : Option Addr) (le ce : Nat) (h2 : Limbs (rd w X) ae le ce m.disc.ld) (st : Option Addr) (ls cs : Nat) (hst : StatesR (rd w X) st ls cs m.states) (v : List Raw) (av : Option Addr) (lv cv : Nat) (hv : Rats (rd w X) av lv cv v) (hlv : lv ≤ 1099511627776) (p : List Int) (ap : Option Addr) (lp cp : Nat) (hp : Ints (rd w X) ap lp cp p) (hlp : lp ≤ 1099511627776) (xs : List Raw) (e : Int) (hr : m.underV p v = (xs, e)) : Calls Try.prog 11 #[.agg #[.bool m.disc.neg, .slice ad len cap, .slice ae le ce, .slice st ls cs], .slice ap lp cp, .slice av lv cv] w (Ret E0 w fun w' u => ∃ ad len cap, u = .tuple #[.slice ad len cap, .int .i64 e] ∧ Rats (rd w' X) ad len cap xs) := by have h9 := Under_c w X hX m ad len cap h ae le ce h2 st ls cs hst v av lv cv hv hlv p ap lp cp hp hlp; rw [hr] at h9; exact h9
theorem sm_reachV {l : List Int} {e : Int} (h : ReachV smallM 1 l e) : l = [1] ∧ e = 0 := by
  rcases h with ⟨h, _⟩ | ⟨_, h, _⟩ | ⟨_, _, _, h, h2⟩
  · exact absurd sm_chk h
  · have : smallM.states.length = 2 := rfl
    omega
  · exact ⟨sm_reach h2, h⟩
theorem awake_c (w : World) (X : Hid) (hX : ∀ k o, X k o → k < w.heap.size) : Calls Try.prog 9 #[] w (Ret E0 w fun _ v => v = .bool true) := by
 refine zZ (n := 107) (vs := []) Try.func9 rfl rfl rfl kr (fun a0 A0 => ?_)
 have A0 : Fr 107 a0 [] := A0
 have j0 : St E0 w X w X [] := St.start hX
 refine zD (fun K1 C1 => ?_)
 refine zC ?_
 refine zB 1 [(0, .bool false)] A0 kr kr (fun a2 A2 => ?_)
 refine zE ?_
 refine zA (C1 _ _ ?_)
 refine zD (fun K3 C3 => ?_)
 refine zC ?_
 refine wplI A2 kr (zN (d := 15) (fun b => .slice (some ⟨b, 0, none⟩) 2 2) (.cells #[.int .i64 4, .int .i64 2] 3 (0, 0)) A2 kr j0 kw ?_)
 intro b4 w4 Y4 j4 q4 hu4 a5 A5
 obtain ⟨hSx6, q6, hat6⟩ := St.publish j4 (j4.own_ge 0 rfl)
 have j6 : St E0 w X w4 (show_ b4 Y4) [] := hSx6
 have hI6 := ints_at [4, 2] hat6 (by simp)
 refine wplI A5 kr (zK (d := 16) (f := 25) (cap := #[]) (vs := #[.int .i64 1, .slice (some ⟨b4, 0, none⟩) 2 2]) A5 kr j6 rfl kr kr (fun w => Try.call25 _ w) (list_c _ _ j6.lt 1 (by decide) (by decide) (by decide) _ _ _ [4, 2] hI6 (by decide) (by decide)) ?_)
 rintro v7 w7 j7 q7 hu7 ⟨ad7, len7, cap7, rfl, hR7⟩ a8 A8
 have hl7 : len7 = 2 := hR7.hlen
 refine zB 1 [(1, .slice ad7 len7 cap7)] A8 kr kr (fun a9 A9 => ?_)
 refine zE ?_
 refine zA (C3 _ _ ?_)
 refine zD (fun K10 C10 => ?_)
 refine zC ?_
 refine wplI A9 kr (zK (d := 18) (f := 26) (cap := #[]) (vs := #[]) A9 kr j7 rfl kr kr (fun w => Try.call26 _ w) (small_c _ _ j7.lt) ?_)
 rintro v11 w11 j11 q11 hu11 ⟨ad11, len11, cap11, ae11, le11, ce11, st11, ls11, cs11, rfl, hN11, hD11, hT11⟩ a12 A12
 refine zB 1 [(19, .slice ad7 len7 cap7)] A12 kr kr (fun a13 A13 => ?_)
 refine wplI A13 kr (zK (d := 20) (f := 13) (cap := #[]) (vs := #[.agg #[.bool smallM.disc.neg, .slice ad11 len11 cap11, .slice ae11 le11 ce11, .slice st11 ls11 cs11], .slice ad7 len7 cap7, .int .i64 0, .int .i64 0]) A13 kr j11 rfl kr kr (fun w => Try.call13 _ w) (Score_e _ _ j11.lt smallM _ _ _ hN11 _ _ _ hD11 _ _ _ hT11 (listV 1 [4, 2]) _ _ _ (hR7.mono q11) (by omega) 0 0 (Raw.of 3) 0 sm_s0) ?_)
 rintro v14 w14 j14 q14 hu14 ⟨u14, rfl, ⟨ad14, len14, cap14, ae14, le14, ce14, rfl, hN14, hD14⟩⟩ a15 A15
 refine zB 3 [(22, .int .i64 0), (21, .agg #[.bool ((Raw.of 3).neg), .slice ad14 len14 cap14, .slice ae14 le14 ce14]), (17, .tuple #[.agg #[.bool ((Raw.of 3).neg), .slice ad14 len14 cap14, .slice ae14 le14 ce14], .int .i64 0])] A15 kr kr (fun a16 A16 => ?_)
 refine wplI A16 kr (zN (d := 2) (fun b => .pointer (some ⟨b, 0, none⟩)) (.cells #[.bool false, .slice none 0 0, .slice none 0 0] 25 (0, 0)) A16 kr j14 kw ?_)
 intro b17 w17 Y17 j17 q17 hu17 a18 A18
 refine wplI A18 kr (zO (t := 25) (b := b17) (off := 0) (c' := #[.bool ((Raw.of 3).neg), .slice ad14 len14 cap14, .slice ae14 le14 ce14]) (g := true) (m := 3) 0 _ A18 kr j17 rfl kr rfl kr kr kr rfl (by first | decide | (simp; done)) kr rfl ?_)
 intro w19 j19 q19
 refine zB 1 [(3, .int .i64 0)] A18 kr kr (fun a20 A20 => ?_)
 refine zE ?_
 refine zA (C10 _ _ ?_)
 refine zD (fun K21 C21 => ?_)
 refine zC ?_
 refine wplI A20 kr (zK (d := 24) (f := 26) (cap := #[]) (vs := #[]) A20 kr j19 rfl kr kr (fun w => Try.call26 _ w) (small_c _ _ j19.lt) ?_)
 rintro v22 w22 j22 q22 hu22 ⟨ad22, len22, cap22, ae22, le22, ce22, st22, ls22, cs22, rfl, hN22, hD22, hT22⟩ a23 A23
 refine zB 1 [(25, .slice ad7 len7 cap7)] A23 kr kr (fun a24 A24 => ?_)
 refine wplI A24 kr (zK (d := 26) (f := 13) (cap := #[]) (vs := #[.agg #[.bool smallM.disc.neg, .slice ad22 len22 cap22, .slice ae22 le22 ce22, .slice st22 ls22 cs22], .slice ad7 len7 cap7, .int .i64 0, .int .i64 1]) A24 kr j22 rfl kr kr (fun w => Try.call13 _ w) (Score_e _ _ j22.lt smallM _ _ _ hN22 _ _ _ hD22 _ _ _ hT22 (listV 1 [4, 2]) _ _ _ (hR7.mono (Le5 q11 q14 q17 q19 q22)) (by omega) 0 1 (Raw.of 4) 0 sm_s1) ?_)
 rintro v25 w25 j25 q25 hu25 ⟨u25, rfl, ⟨ad25, len25, cap25, ae25, le25, ce25, rfl, hN25, hD25⟩⟩ a26 A26
 refine zB 3 [(28, .int .i64 0), (27, .agg #[.bool ((Raw.of 4).neg), .slice ad25 len25 cap25, .slice ae25 le25 ce25]), (23, .tuple #[.agg #[.bool ((Raw.of 4).neg), .slice ad25 len25 cap25, .slice ae25 le25 ce25], .int .i64 0])] A26 kr kr (fun a27 A27 => ?_)
 refine wplI A27 kr (zN (d := 4) (fun b => .pointer (some ⟨b, 0, none⟩)) (.cells #[.bool false, .slice none 0 0, .slice none 0 0] 25 (0, 0)) A27 kr j25 kw ?_)
 intro b28 w28 Y28 j28 q28 hu28 a29 A29
 refine wplI A29 kr (zO (t := 25) (b := b28) (off := 0) (c' := #[.bool ((Raw.of 4).neg), .slice ad25 len25 cap25, .slice ae25 le25 ce25]) (g := true) (m := 3) 0 _ A29 kr j28 rfl kr rfl kr kr kr rfl (by first | decide | (simp; done)) kr rfl ?_)
 intro w30 j30 q30
 refine zB 1 [(5, .int .i64 0)] A29 kr kr (fun a31 A31 => ?_)
 refine zE ?_
 refine zA (C21 _ _ ?_)
 refine zD (fun K32 C32 => ?_)
 refine zC ?_
 refine wplI A31 kr (zK (d := 30) (f := 26) (cap := #[]) (vs := #[]) A31 kr j30 rfl kr kr (fun w => Try.call26 _ w) (small_c _ _ j30.lt) ?_)
 rintro v33 w33 j33 q33 hu33 ⟨ad33, len33, cap33, ae33, le33, ce33, st33, ls33, cs33, rfl, hN33, hD33, hT33⟩ a34 A34
 refine zB 1 [(31, .slice ad7 len7 cap7)] A34 kr kr (fun a35 A35 => ?_)
 refine wplI A35 kr (zK (d := 32) (f := 13) (cap := #[]) (vs := #[.agg #[.bool smallM.disc.neg, .slice ad33 len33 cap33, .slice ae33 le33 ce33, .slice st33 ls33 cs33], .slice ad7 len7 cap7, .int .i64 1, .int .i64 0]) A35 kr j33 rfl kr kr (fun w => Try.call13 _ w) (Score_e _ _ j33.lt smallM _ _ _ hN33 _ _ _ hD33 _ _ _ hT33 (listV 1 [4, 2]) _ _ _ (hR7.mono (Le9 q11 q14 q17 q19 q22 q25 q28 q30 q33)) (by omega) 1 0 (Raw.of 1) 0 sm_s2) ?_)
 rintro v36 w36 j36 q36 hu36 ⟨u36, rfl, ⟨ad36, len36, cap36, ae36, le36, ce36, rfl, hN36, hD36⟩⟩ a37 A37
 refine zB 3 [(34, .int .i64 0), (33, .agg #[.bool ((Raw.of 1).neg), .slice ad36 len36 cap36, .slice ae36 le36 ce36]), (29, .tuple #[.agg #[.bool ((Raw.of 1).neg), .slice ad36 len36 cap36, .slice ae36 le36 ce36], .int .i64 0])] A37 kr kr (fun a38 A38 => ?_)
 refine wplI A38 kr (zN (d := 6) (fun b => .pointer (some ⟨b, 0, none⟩)) (.cells #[.bool false, .slice none 0 0, .slice none 0 0] 25 (0, 0)) A38 kr j36 kw ?_)
 intro b39 w39 Y39 j39 q39 hu39 a40 A40
 refine wplI A40 kr (zO (t := 25) (b := b39) (off := 0) (c' := #[.bool ((Raw.of 1).neg), .slice ad36 len36 cap36, .slice ae36 le36 ce36]) (g := true) (m := 3) 0 _ A40 kr j39 rfl kr rfl kr kr kr rfl (by first | decide | (simp; done)) kr rfl ?_)
 intro w41 j41 q41
 refine zB 1 [(7, .int .i64 0)] A40 kr kr (fun a42 A42 => ?_)
 refine zE ?_
 refine zA (C32 _ _ ?_)
 refine zD (fun K43 C43 => ?_)
 refine zC ?_
 refine wplI A42 kr (zK (d := 36) (f := 26) (cap := #[]) (vs := #[]) A42 kr j41 rfl kr kr (fun w => Try.call26 _ w) (small_c _ _ j41.lt) ?_)
 rintro v44 w44 j44 q44 hu44 ⟨ad44, len44, cap44, ae44, le44, ce44, st44, ls44, cs44, rfl, hN44, hD44, hT44⟩ a45 A45
 refine zB 1 [(37, .slice ad7 len7 cap7)] A45 kr kr (fun a46 A46 => ?_)
 refine wplI A46 kr (zK (d := 38) (f := 10) (cap := #[]) (vs := #[.agg #[.bool smallM.disc.neg, .slice ad44 len44 cap44, .slice ae44 le44 ce44, .slice st44 ls44 cs44], .slice ad7 len7 cap7]) A46 kr j44 rfl kr kr (fun w => Try.call10 _ w) (Backup_e _ _ j44.lt smallM _ _ _ hN44 _ _ _ hD44 _ _ _ hT44 (listV 1 [4, 2]) _ _ _ (hR7.mono (Le13 q11 q14 q17 q19 q22 q25 q28 q30 q33 q36 q39 q41 q44)) (by omega) (listV 1 [3, 1]) ([0, 0]) 0 sm_back) ?_)
 rintro v47 w47 j47 q47 hu47 ⟨ad47, len47, cap47, ae47, le47, ce47, rfl, hR47, hI47⟩ a48 A48
 refine zB 7 [(10, .int .i64 0), (9, .slice ae47 le47 ce47), (8, .slice ad47 len47 cap47), (41, .int .i64 0), (40, .slice ae47 le47 ce47), (39, .slice ad47 len47 cap47), (35, .tuple #[.slice ad47 len47 cap47, .slice ae47 le47 ce47, .int .i64 0])] A48 kr kr (fun a49 A49 => ?_)
 refine zE ?_
 refine zA (C43 _ _ ?_)
 refine zD (fun K50 C50 => ?_)
 refine zC ?_
 refine wplI A49 kr (zK (d := 43) (f := 26) (cap := #[]) (vs := #[]) A49 kr j47 rfl kr kr (fun w => Try.call26 _ w) (small_c _ _ j47.lt) ?_)
 rintro v51 w51 j51 q51 hu51 ⟨ad51, len51, cap51, ae51, le51, ce51, st51, ls51, cs51, rfl, hN51, hD51, hT51⟩ a52 A52
 refine wplI A52 kr (zN (d := 44) (fun b => .slice (some ⟨b, 0, none⟩) 2 2) (.cells #[.int .i64 1, .int .i64 0] 3 (0, 0)) A52 kr j51 kw ?_)
 intro b53 w53 Y53 j53 q53 hu53 a54 A54
 refine zB 1 [(45, .slice ad7 len7 cap7)] A54 kr kr (fun a55 A55 => ?_)
 obtain ⟨hSx56, q56, hat56⟩ := St.publish j53 (j53.own_ge 0 rfl)
 have j56 : St E0 w X w53 (show_ b53 Y53) [(b39, .cells #[.bool ((Raw.of 1).neg), .slice ad36 len36 cap36, .slice ae36 le36 ce36] 25 (0, 0)), (b28, .cells #[.bool ((Raw.of 4).neg), .slice ad25 len25 cap25, .slice ae25 le25 ce25] 25 (0, 0)), (b17, .cells #[.bool ((Raw.of 3).neg), .slice ad14 len14 cap14, .slice ae14 le14 ce14] 25 (0, 0))] := hSx56
 have hI56 := ints_at [1, 0] hat56 (by simp)
 refine wplI A55 kr (zK (d := 46) (f := 11) (cap := #[]) (vs := #[.agg #[.bool smallM.disc.neg, .slice ad51 len51 cap51, .slice ae51 le51 ce51, .slice st51 ls51 cs51], .slice (some ⟨b53, 0, none⟩) 2 2, .slice ad7 len7 cap7]) A55 kr j56 rfl kr kr (fun w => Try.call11 _ w) (Under_e _ _ j56.lt smallM _ _ _ (hN51.mono (Le2 q53 q56)) _ _ _ (hD51.mono (Le2 q53 q56)) _ _ _ (hT51.mono (Le2 q53 q56)) (listV 1 [4, 2]) _ _ _ (hR7.mono (Le17 q11 q14 q17 q19 q22 q25 q28 q30 q33 q36 q39 q41 q44 q47 q51 q53 q56)) (by omega) [1, 0] _ _ _ hI56 (by first | omega | decide) (listV 1 [4, 1]) 0 sm_under) ?_)
 rintro v57 w57 j57 q57 hu57 ⟨ad57, len57, cap57, rfl, hR57⟩ a58 A58
 refine zB 5 [(12, .int .i64 0), (11, .slice ad57 len57 cap57), (48, .int .i64 0), (47, .slice ad57 len57 cap57), (42, .tuple #[.slice ad57 len57 cap57, .int .i64 0])] A58 kr kr (fun a59 A59 => ?_)
 refine zE ?_
 refine zA (C50 _ _ ?_)
 refine zD (fun K60 C60 => ?_)
 refine zC ?_
 refine wplI A59 kr (zK (d := 50) (f := 26) (cap := #[]) (vs := #[]) A59 kr j57 rfl kr kr (fun w => Try.call26 _ w) (small_c _ _ j57.lt) ?_)
 rintro v61 w61 j61 q61 hu61 ⟨ad61, len61, cap61, ae61, le61, ce61, st61, ls61, cs61, rfl, hN61, hD61, hT61⟩ a62 A62
 refine wplI A62 kr (zK (d := 51) (f := 20) (cap := #[]) (vs := #[.agg #[.bool smallM.disc.neg, .slice ad61 len61 cap61, .slice ae61 le61 ce61, .slice st61 ls61 cs61], .int .i64 1]) A62 kr j61 rfl kr kr (fun w => Try.call20 _ w) (Reach_c _ _ j61.lt smallM _ _ _ hN61 _ _ _ hD61 _ _ _ hT61 1) ?_)
 rintro v63 w63 j63 q63 hu63 ⟨ad63, len63, cap63, l63, e63, rfl, hI63, hV63⟩ a64 A64
 obtain ⟨rfl, rfl⟩ := sm_reachV hV63
 refine zB 5 [(14, .int .i64 0), (13, .slice ad63 len63 cap63), (53, .int .i64 0), (52, .slice ad63 len63 cap63), (49, .tuple #[.slice ad63 len63 cap63, .int .i64 0])] A64 kr kr (fun a65 A65 => ?_)
 refine zE ?_
 refine zA (C60 _ _ ?_)
 refine zD (fun K66 C66 => ?_)
 refine qD (N := 54) (Held [(⟨b17, 0, none⟩, [.bool ((Raw.of 3).neg), .slice ad14 len14 cap14, .slice ae14 le14 ce14]), (⟨b28, 0, none⟩, [.bool ((Raw.of 4).neg), .slice ad25 len25 cap25, .slice ae25 le25 ce25]), (⟨b39, 0, none⟩, [.bool ((Raw.of 1).neg), .slice ad36 len36 cap36, .slice ae36 le36 ce36])]) [] kr kr kr j63 ?_
 intro w67 j67 q67 hu67
 refine zX (Held.cons (j67.cells 2 rfl rfl) (Held.cons (j67.cells 1 rfl rfl) (Held.cons (j67.cells 0 rfl rfl) (Held.nil _)))) (fun hH67 => ?_)
 refine t_name (fun G hG1 hG2 => ?_)
 have hI9001 : ∀ a9001 w9001, (∃ (Y9001 : Hid) (b94 : Nat) (ad106 : Option Addr) (len106 : Nat) (cap106 : Nat) (b98 : Nat), Fr 107 a9001 [(0, .bool false), (8, .slice ad47 len47 cap47), (9, .slice ae47 le47 ce47), (11, .slice ad57 len57 cap57), (13, .slice ad63 len63 cap63), (76, .bool true), (80, .slice (some ⟨b94, 0, none⟩) 3 3), (82, .slice ad106 len106 cap106)] ∧ St E0 w X w9001 Y9001 [(b94, .cells #[.bool ((Raw.of 3).neg), .slice ad14 len14 cap14, .slice ae14 le14 ce14, .bool ((Raw.of 4).neg), .slice ad25 len25 cap25, .slice ae25 le25 ce25, .bool ((Raw.of 1).neg), .slice ad36 len36 cap36, .slice ae36 le36 ce36] 25 (0, 0)), (b39, .cells #[.bool ((Raw.of 1).neg), .slice ad36 len36 cap36, .slice ae36 le36 ce36] 25 (0, 0)), (b28, .cells #[.bool ((Raw.of 4).neg), .slice ad25 len25 cap25, .slice ae25 le25 ce25] 25 (0, 0)), (b17, .cells #[.bool ((Raw.of 3).neg), .slice ad14 len14 cap14, .slice ae14 le14 ce14] 25 (0, 0))] ∧ Le (rd w67 (show_ b53 Y53)) (rd w9001 Y9001) ∧ (Ints (rd w9001 Y9001) (some ⟨b98, 0, none⟩) 3 3 ([3, 4, 1])) ∧ (Rats (rd w9001 Y9001) ad106 len106 cap106 (listV 1 [3, 4, 1]))) → G 25 #[true, true, true, true, true, true, true, true, true, true, true, true, true, true, true, true, true, true, true, true, true, true, true, true, true, true, true, true, true, false, false, false, false, false, false, false, false, false, false, false, false, false, false, false, false, false, false, false, false, false, false, false, false, false] a9001 w9001 := by
  rintro a9001 w9001 ⟨Y9001, b94, ad106, len106, cap106, b98, A9001, j9001, q9001, hI105, hR106⟩
  refine hG1 _ _ _ _ ?_
  refine zX (Held.cons (j9001.cells 3 rfl rfl) (Held.cons (j9001.cells 2 rfl rfl) (Held.cons (j9001.cells 1 rfl rfl) (Held.nil _)))) (fun hH9001 => ?_)
  refine zM [29] kr rfl ?_
  obtain ⟨hSx156, q156, hat156⟩ := St.publish j9001 (j9001.own_ge 0 rfl)
  have j156 : St E0 w X w9001 (show_ b94 Y9001) [(b39, .cells #[.bool ((Raw.of 1).neg), .slice ad36 len36 cap36, .slice ae36 le36 ce36] 25 (0, 0)), (b28, .cells #[.bool ((Raw.of 4).neg), .slice ad25 len25 cap25, .slice ae25 le25 ce25] 25 (0, 0)), (b17, .cells #[.bool ((Raw.of 3).neg), .slice ad14 len14 cap14, .slice ae14 le14 ce14] 25 (0, 0))] := hSx156
  have hR156 : Rats (rd w9001 (show_ b94 Y9001)) (some ⟨b94, 0, none⟩) 3 3 [(Raw.of 3), (Raw.of 4), (Raw.of 1)] := rats_flat [RE.mk (Raw.of 3) ad14 len14 cap14 ae14 le14 ce14, RE.mk (Raw.of 4) ad25 len25 cap25 ae25 le25 ce25, RE.mk (Raw.of 1) ad36 len36 cap36 ae36 le36 ce36] hat156 (List.forall_mem_cons.2 ⟨⟨(hN14.mono (Le21 q17 q19 q22 q25 q28 q30 q33 q36 q39 q41 q44 q47 q51 q53 q56 q57 q61 q63 q67 q9001 q156)), (hD14.mono (Le21 q17 q19 q22 q25 q28 q30 q33 q36 q39 q41 q44 q47 q51 q53 q56 q57 q61 q63 q67 q9001 q156))⟩, List.forall_mem_cons.2 ⟨⟨(hN25.mono (Le17 q28 q30 q33 q36 q39 q41 q44 q47 q51 q53 q56 q57 q61 q63 q67 q9001 q156)), (hD25.mono (Le17 q28 q30 q33 q36 q39 q41 q44 q47 q51 q53 q56 q57 q61 q63 q67 q9001 q156))⟩, List.forall_mem_cons.2 ⟨⟨(hN36.mono (Le13 q39 q41 q44 q47 q51 q53 q56 q57 q61 q63 q67 q9001 q156)), (hD36.mono (Le13 q39 q41 q44 q47 q51 q53 q56 q57 q61 q63 q67 q9001 q156))⟩, fun _ h => by cases h⟩⟩⟩) (by simp)
  refine ForkT.cons (i := 29) A9001 rfl kr (zK (d := 83) (f := 12) (cap := #[]) (vs := #[.slice (some ⟨b94, 0, none⟩) 3 3, .slice ad106 len106 cap106]) A9001 kr j156 rfl kr kr (fun w => Try.call12 _ w) (EqualRats_c _ _ j156.lt _ _ _ [(Raw.of 3), (Raw.of 4), (Raw.of 1)] hR156 _ _ _ (listV 1 [3, 4, 1]) (hR106.mono q156)) ?_) ForkT.nil
  rintro v157 w157 j157 q157 hu157 rfl a158 A158
  have A159 := A158.set 83 (v' := .bool true) kr rfl (zG (decide_eq_true (sm_list)))
  refine zI (hH9001.up hu157) (fun hH157 => ?_)
  refine zH (d := 84) (v := .bool true) 30 A159 rfl kr kr kw (fun _ => hH157) ?_
  intro a160 A160
  refine zH (d := 85) (v := .bool true) 31 A160 rfl kr kr kw (fun _ => hH157) ?_
  intro a161 A161
  refine zH (d := 86) (v := .slice ad47 len47 cap47) 32 A161 rfl kr kr kw (fun _ => hH157) ?_
  intro a162 A162
  refine zM [33] kr rfl ?_
  refine ForkT.cons (i := 33) A162 rfl kr (zN (d := 87) (fun b => .slice (some ⟨b, 0, none⟩) 2 2) (.cells #[.int .i64 3, .int .i64 1] 3 (0, 0)) A162 kr j157 kw ?_) ForkT.nil
  intro b163 w163 Y163 j163 q163 hu163 a164 A164
  refine zI (hH157.up hu163) (fun hH163 => ?_)
  refine zM [34] kr rfl ?_
  obtain ⟨hSx165, q165, hat165⟩ := St.publish j163 (j163.own_ge 0 rfl)
  have j165 : St E0 w X w163 (show_ b163 Y163) [(b39, .cells #[.bool ((Raw.of 1).neg), .slice ad36 len36 cap36, .slice ae36 le36 ce36] 25 (0, 0)), (b28, .cells #[.bool ((Raw.of 4).neg), .slice ad25 len25 cap25, .slice ae25 le25 ce25] 25 (0, 0)), (b17, .cells #[.bool ((Raw.of 3).neg), .slice ad14 len14 cap14, .slice ae14 le14 ce14] 25 (0, 0))] := hSx165
  have hI165 := ints_at [3, 1] hat165 (by simp)
  refine ForkT.cons (i := 34) A164 rfl kr (zK (d := 88) (f := 25) (cap := #[]) (vs := #[.int .i64 1, .slice (some ⟨b163, 0, none⟩) 2 2]) A164 kr j165 rfl kr kr (fun w => Try.call25 _ w) (list_c _ _ j165.lt 1 (by decide) (by decide) (by decide) _ _ _ [3, 1] hI165 (by decide) (by decide)) ?_) ForkT.nil
  rintro v166 w166 j166 q166 hu166 ⟨ad166, len166, cap166, rfl, hR166⟩ a167 A167
  have hl166 : len166 = 2 := hR166.hlen
  refine zI (hH163.up hu166) (fun hH166 => ?_)
  refine zM [35] kr rfl ?_
  refine ForkT.cons (i := 35) A167 rfl kr (zK (d := 89) (f := 12) (cap := #[]) (vs := #[.slice ad47 len47 cap47, .slice ad166 len166 cap166]) A167 kr j166 rfl kr kr (fun w => Try.call12 _ w) (EqualRats_c _ _ j166.lt _ _ _ (listV 1 [3, 1]) (hR47.mono (Le13 q51 q53 q56 q57 q61 q63 q67 q9001 q156 q157 q163 q165 q166)) _ _ _ (listV 1 [3, 1]) hR166) ?_) ForkT.nil
  rintro v168 w168 j168 q168 hu168 rfl a169 A169
  have A170 := A169.set 89 (v' := .bool true) kr rfl (zG (decide_eq_true (rfl)))
  refine zI (hH166.up hu168) (fun hH168 => ?_)
  refine zH (d := 90) (v := .bool true) 36 A170 rfl kr kr kw (fun _ => hH168) ?_
  intro a171 A171
  refine zH (d := 91) (v := .bool true) 37 A171 rfl kr kr kw (fun _ => hH168) ?_
  intro a172 A172
  refine zH (d := 92) (v := .slice ae47 le47 ce47) 38 A172 rfl kr kr kw (fun _ => hH168) ?_
  intro a173 A173
  refine zM [39] kr rfl ?_
  refine ForkT.cons (i := 39) A173 rfl kr (zN (d := 93) (fun b => .slice (some ⟨b, 0, none⟩) 2 2) (.cells #[.int .i64 0, .int .i64 0] 3 (0, 0)) A173 kr j168 kw ?_) ForkT.nil
  intro b174 w174 Y174 j174 q174 hu174 a175 A175
  refine zI (hH168.up hu174) (fun hH174 => ?_)
  refine zM [40] kr rfl ?_
  obtain ⟨hSx176, q176, hat176⟩ := St.publish j174 (j174.own_ge 0 rfl)
  have j176 : St E0 w X w174 (show_ b174 Y174) [(b39, .cells #[.bool ((Raw.of 1).neg), .slice ad36 len36 cap36, .slice ae36 le36 ce36] 25 (0, 0)), (b28, .cells #[.bool ((Raw.of 4).neg), .slice ad25 len25 cap25, .slice ae25 le25 ce25] 25 (0, 0)), (b17, .cells #[.bool ((Raw.of 3).neg), .slice ad14 len14 cap14, .slice ae14 le14 ce14] 25 (0, 0))] := hSx176
  have hI176 := ints_at [0, 0] hat176 (by simp)
  refine ForkT.cons (i := 40) A175 rfl kr (zK (d := 94) (f := 18) (cap := #[]) (vs := #[.slice ae47 le47 ce47, .slice (some ⟨b174, 0, none⟩) 2 2]) A175 kr j176 rfl kr kr (fun w => Try.call18 _ w) (EqualInts_c _ _ j176.lt _ _ _ ([0, 0]) (hI47.mono (Le16 q51 q53 q56 q57 q61 q63 q67 q9001 q156 q157 q163 q165 q166 q168 q174 q176)) _ _ _ [0, 0] hI176) ?_) ForkT.nil
  rintro v177 w177 j177 q177 hu177 rfl a178 A178
  have A179 := A178.set 94 (v' := .bool true) kr rfl (zG (decide_eq_true (rfl)))
  refine zI (hH174.up hu177) (fun hH177 => ?_)
  refine zH (d := 95) (v := .bool true) 41 A179 rfl kr kr kw (fun _ => hH177) ?_
  intro a180 A180
  refine zH (d := 96) (v := .bool true) 42 A180 rfl kr kr kw (fun _ => hH177) ?_
  intro a181 A181
  refine zH (d := 97) (v := .slice ad57 len57 cap57) 43 A181 rfl kr kr kw (fun _ => hH177) ?_
  intro a182 A182
  refine zM [44] kr rfl ?_
  refine ForkT.cons (i := 44) A182 rfl kr (zN (d := 98) (fun b => .slice (some ⟨b, 0, none⟩) 2 2) (.cells #[.int .i64 4, .int .i64 1] 3 (0, 0)) A182 kr j177 kw ?_) ForkT.nil
  intro b183 w183 Y183 j183 q183 hu183 a184 A184
  refine zI (hH177.up hu183) (fun hH183 => ?_)
  refine zM [45] kr rfl ?_
  obtain ⟨hSx185, q185, hat185⟩ := St.publish j183 (j183.own_ge 0 rfl)
  have j185 : St E0 w X w183 (show_ b183 Y183) [(b39, .cells #[.bool ((Raw.of 1).neg), .slice ad36 len36 cap36, .slice ae36 le36 ce36] 25 (0, 0)), (b28, .cells #[.bool ((Raw.of 4).neg), .slice ad25 len25 cap25, .slice ae25 le25 ce25] 25 (0, 0)), (b17, .cells #[.bool ((Raw.of 3).neg), .slice ad14 len14 cap14, .slice ae14 le14 ce14] 25 (0, 0))] := hSx185
  have hI185 := ints_at [4, 1] hat185 (by simp)
  refine ForkT.cons (i := 45) A184 rfl kr (zK (d := 99) (f := 25) (cap := #[]) (vs := #[.int .i64 1, .slice (some ⟨b183, 0, none⟩) 2 2]) A184 kr j185 rfl kr kr (fun w => Try.call25 _ w) (list_c _ _ j185.lt 1 (by decide) (by decide) (by decide) _ _ _ [4, 1] hI185 (by decide) (by decide)) ?_) ForkT.nil
  rintro v186 w186 j186 q186 hu186 ⟨ad186, len186, cap186, rfl, hR186⟩ a187 A187
  have hl186 : len186 = 2 := hR186.hlen
  refine zI (hH183.up hu186) (fun hH186 => ?_)
  refine zM [46] kr rfl ?_
  refine ForkT.cons (i := 46) A187 rfl kr (zK (d := 100) (f := 12) (cap := #[]) (vs := #[.slice ad57 len57 cap57, .slice ad186 len186 cap186]) A187 kr j186 rfl kr kr (fun w => Try.call12 _ w) (EqualRats_c _ _ j186.lt _ _ _ (listV 1 [4, 1]) (hR57.mono (Le16 q61 q63 q67 q9001 q156 q157 q163 q165 q166 q168 q174 q176 q177 q183 q185 q186)) _ _ _ (listV 1 [4, 1]) hR186) ?_) ForkT.nil
  rintro v188 w188 j188 q188 hu188 rfl a189 A189
  have A190 := A189.set 100 (v' := .bool true) kr rfl (zG (decide_eq_true (rfl)))
  refine zI (hH186.up hu188) (fun hH188 => ?_)
  refine zH (d := 101) (v := .bool true) 47 A190 rfl kr kr kw (fun _ => hH188) ?_
  intro a191 A191
  refine zH (d := 102) (v := .bool true) 48 A191 rfl kr kr kw (fun _ => hH188) ?_
  intro a192 A192
  refine zH (d := 103) (v := .slice ad63 len63 cap63) 49 A192 rfl kr kr kw (fun _ => hH188) ?_
  intro a193 A193
  refine zM [50] kr rfl ?_
  refine ForkT.cons (i := 50) A193 rfl kr (zN (d := 104) (fun b => .slice (some ⟨b, 0, none⟩) 1 1) (.cells #[.int .i64 1] 3 (0, 0)) A193 kr j188 kw ?_) ForkT.nil
  intro b194 w194 Y194 j194 q194 hu194 a195 A195
  refine zI (hH188.up hu194) (fun hH194 => ?_)
  refine zM [51] kr rfl ?_
  obtain ⟨hSx196, q196, hat196⟩ := St.publish j194 (j194.own_ge 0 rfl)
  have j196 : St E0 w X w194 (show_ b194 Y194) [(b39, .cells #[.bool ((Raw.of 1).neg), .slice ad36 len36 cap36, .slice ae36 le36 ce36] 25 (0, 0)), (b28, .cells #[.bool ((Raw.of 4).neg), .slice ad25 len25 cap25, .slice ae25 le25 ce25] 25 (0, 0)), (b17, .cells #[.bool ((Raw.of 3).neg), .slice ad14 len14 cap14, .slice ae14 le14 ce14] 25 (0, 0))] := hSx196
  have hI196 := ints_at [1] hat196 (by simp)
  refine ForkT.cons (i := 51) A195 rfl kr (zK (d := 105) (f := 18) (cap := #[]) (vs := #[.slice ad63 len63 cap63, .slice (some ⟨b194, 0, none⟩) 1 1]) A195 kr j196 rfl kr kr (fun w => Try.call18 _ w) (EqualInts_c _ _ j196.lt _ _ _ [1] (hI63.mono (Le17 q67 q9001 q156 q157 q163 q165 q166 q168 q174 q176 q177 q183 q185 q186 q188 q194 q196)) _ _ _ [1] hI196) ?_) ForkT.nil
  rintro v197 w197 j197 q197 hu197 rfl a198 A198
  have A199 := A198.set 105 (v' := .bool true) kr rfl (zG (decide_eq_true (rfl)))
  refine zI (hH194.up hu197) (fun hH197 => ?_)
  refine zH (d := 106) (v := .bool true) 52 A199 rfl kr kr kw (fun _ => hH197) ?_
  intro a200 A200
  refine zH (d := 0) (v := .bool true) 53 A200 rfl kr kr kw (fun _ => hH197) ?_
  intro a201 A201
  refine qB kr (nrm ?_)
  refine zA (C66 _ _ ?_)
  refine zQ ?_
  refine zR (v := .bool true) (rs := [.tmp 0]) A201 kr (Res.tmp kr Res.nil) kr ?_
  exact ⟨j197.upd, _, rfl, rfl⟩
 have hI9002 : ∀ a9002 w9002, (∃ (Y9002 : Hid) (b94 : Nat) (b98 : Nat), Fr 107 a9002 [(0, .bool false), (8, .slice ad47 len47 cap47), (9, .slice ae47 le47 ce47), (11, .slice ad57 len57 cap57), (13, .slice ad63 len63 cap63), (76, .bool true), (80, .slice (some ⟨b94, 0, none⟩) 3 3), (81, .slice (some ⟨b98, 0, none⟩) 3 3)] ∧ St E0 w X w9002 Y9002 [(b98, .cells #[.int .i64 3, .int .i64 4, .int .i64 1] 3 (0, 0)), (b94, .cells #[.bool ((Raw.of 3).neg), .slice ad14 len14 cap14, .slice ae14 le14 ce14, .bool ((Raw.of 4).neg), .slice ad25 len25 cap25, .slice ae25 le25 ce25, .bool ((Raw.of 1).neg), .slice ad36 len36 cap36, .slice ae36 le36 ce36] 25 (0, 0)), (b39, .cells #[.bool ((Raw.of 1).neg), .slice ad36 len36 cap36, .slice ae36 le36 ce36] 25 (0, 0)), (b28, .cells #[.bool ((Raw.of 4).neg), .slice ad25 len25 cap25, .slice ae25 le25 ce25] 25 (0, 0)), (b17, .cells #[.bool ((Raw.of 3).neg), .slice ad14 len14 cap14, .slice ae14 le14 ce14] 25 (0, 0))] ∧ Le (rd w67 (show_ b53 Y53)) (rd w9002 Y9002)) → G 26 #[true, true, true, true, true, true, true, true, true, true, true, true, true, true, true, true, true, true, true, true, true, true, true, true, true, true, true, true, false, false, false, false, false, false, false, false, false, false, false, false, false, false, false, false, false, false, false, false, false, false, false, false, false, false] a9002 w9002 := by
  rintro a9002 w9002 ⟨Y9002, b94, b98, A9002, j9002, q9002⟩
  refine hG1 _ _ _ _ ?_
  refine zX (Held.cons (j9002.cells 4 rfl rfl) (Held.cons (j9002.cells 3 rfl rfl) (Held.cons (j9002.cells 2 rfl rfl) (Held.nil _)))) (fun hH9002 => ?_)
  refine zM [28] kr rfl ?_
  obtain ⟨hSx202, q202, hat202⟩ := St.publish j9002 (j9002.own_ge 0 rfl)
  have j202 : St E0 w X w9002 (show_ b98 Y9002) [(b94, .cells #[.bool ((Raw.of 3).neg), .slice ad14 len14 cap14, .slice ae14 le14 ce14, .bool ((Raw.of 4).neg), .slice ad25 len25 cap25, .slice ae25 le25 ce25, .bool ((Raw.of 1).neg), .slice ad36 len36 cap36, .slice ae36 le36 ce36] 25 (0, 0)), (b39, .cells #[.bool ((Raw.of 1).neg), .slice ad36 len36 cap36, .slice ae36 le36 ce36] 25 (0, 0)), (b28, .cells #[.bool ((Raw.of 4).neg), .slice ad25 len25 cap25, .slice ae25 le25 ce25] 25 (0, 0)), (b17, .cells #[.bool ((Raw.of 3).neg), .slice ad14 len14 cap14, .slice ae14 le14 ce14] 25 (0, 0))] := hSx202
  have hI202 := ints_at [3, 4, 1] hat202 (by simp)
  refine ForkT.cons (i := 28) A9002 rfl kr (zK (d := 82) (f := 25) (cap := #[]) (vs := #[.int .i64 1, .slice (some ⟨b98, 0, none⟩) 3 3]) A9002 kr j202 rfl kr kr (fun w => Try.call25 _ w) (list_c _ _ j202.lt 1 (by decide) (by decide) (by decide) _ _ _ [3, 4, 1] hI202 (by decide) (by decide)) ?_) ForkT.nil
  rintro v203 w203 j203 q203 hu203 ⟨ad203, len203, cap203, rfl, hR203⟩ a204 A204
  have hl203 : len203 = 3 := hR203.hlen
  refine zI (hH9002.up hu203) (fun hH203 => ?_)
  refine hG2 _ _ _ _ (G_cast kr (hI9001 _ _ ⟨_, b94, ad203, len203, cap203, b98, A204.as [0, 8, 9, 11, 13, 76, 80, 82] kr kr, j203, (Le3 q9002 q202 q203), (hI202.mono q203), hR203⟩))
 refine zH (d := 54) (v := .int .i64 0) 0 A65 rfl kr kr kw (fun _ => hH67) ?_
 intro a205 A205
 refine zH (d := 55) (v := .bool true) 1 A205 rfl kr kr kw (fun _ => hH67) ?_
 intro a206 A206
 refine zH (d := 56) (v := .bool true) 2 A206 rfl kr kr kw (fun _ => hH67) ?_
 intro a207 A207
 refine zH (d := 57) (v := .int .i64 0) 3 A207 rfl kr kr kw (fun _ => hH67) ?_
 intro a208 A208
 refine zH (d := 58) (v := .bool true) 4 A208 rfl kr kr kw (fun _ => hH67) ?_
 intro a209 A209
 refine zH (d := 59) (v := .bool true) 5 A209 rfl kr kr kw (fun _ => hH67) ?_
 intro a210 A210
 refine zH (d := 60) (v := .bool true) 6 A210 rfl kr kr kw (fun _ => hH67) ?_
 intro a211 A211
 refine zH (d := 61) (v := .int .i64 0) 7 A211 rfl kr kr kw (fun _ => hH67) ?_
 intro a212 A212
 refine zH (d := 62) (v := .bool true) 8 A212 rfl kr kr kw (fun _ => hH67) ?_
 intro a213 A213
 refine zH (d := 63) (v := .bool true) 9 A213 rfl kr kr kw (fun _ => hH67) ?_
 intro a214 A214
 refine zH (d := 64) (v := .bool true) 10 A214 rfl kr kr kw (fun _ => hH67) ?_
 intro a215 A215
 refine zH (d := 65) (v := .int .i64 0) 11 A215 rfl kr kr kw (fun _ => hH67) ?_
 intro a216 A216
 refine zH (d := 66) (v := .bool true) 12 A216 rfl kr kr kw (fun _ => hH67) ?_
 intro a217 A217
 refine zH (d := 67) (v := .bool true) 13 A217 rfl kr kr kw (fun _ => hH67) ?_
 intro a218 A218
 refine zH (d := 68) (v := .bool true) 14 A218 rfl kr kr kw (fun _ => hH67) ?_
 intro a219 A219
 refine zH (d := 69) (v := .int .i64 0) 15 A219 rfl kr kr kw (fun _ => hH67) ?_
 intro a220 A220
 refine zH (d := 70) (v := .bool true) 16 A220 rfl kr kr kw (fun _ => hH67) ?_
 intro a221 A221
 refine zH (d := 71) (v := .bool true) 17 A221 rfl kr kr kw (fun _ => hH67) ?_
 intro a222 A222
 refine zH (d := 72) (v := .bool true) 18 A222 rfl kr kr kw (fun _ => hH67) ?_
 intro a223 A223
 refine zH (d := 73) (v := .int .i64 0) 19 A223 rfl kr kr kw (fun _ => hH67) ?_
 intro a224 A224
 refine zH (d := 74) (v := .bool true) 20 A224 rfl kr kr kw (fun _ => hH67) ?_
 intro a225 A225
 refine zH (d := 75) (v := .bool true) 21 A225 rfl kr kr kw (fun _ => hH67) ?_
 intro a226 A226
 refine zH (d := 76) (v := .bool true) 22 A226 rfl kr kr kw (fun _ => hH67) ?_
 intro a227 A227
 refine zY (d := 77) (v := .agg #[.bool ((Raw.of 3).neg), .slice ad14 len14 cap14, .slice ae14 le14 ce14]) 23 A227 rfl kr kr kr (fun w hw => zF (t := 25) (g := true) (vs := [.bool ((Raw.of 3).neg), .slice ad14 len14 cap14, .slice ae14 le14 ce14]) (ad := ⟨b17, 0, none⟩) rfl kr kr ir (hw.get 0 kr)) hH67 ?_
 intro a228 A228
 refine zY (d := 78) (v := .agg #[.bool ((Raw.of 4).neg), .slice ad25 len25 cap25, .slice ae25 le25 ce25]) 24 A228 rfl kr kr kr (fun w hw => zF (t := 25) (g := true) (vs := [.bool ((Raw.of 4).neg), .slice ad25 len25 cap25, .slice ae25 le25 ce25]) (ad := ⟨b28, 0, none⟩) rfl kr kr ir (hw.get 1 kr)) hH67 ?_
 intro a229 A229
 refine zY (d := 79) (v := .agg #[.bool ((Raw.of 1).neg), .slice ad36 len36 cap36, .slice ae36 le36 ce36]) 25 A229 rfl kr kr kr (fun w hw => zF (t := 25) (g := true) (vs := [.bool ((Raw.of 1).neg), .slice ad36 len36 cap36, .slice ae36 le36 ce36]) (ad := ⟨b39, 0, none⟩) rfl kr kr ir (hw.get 2 kr)) hH67 ?_
 intro a230 A230
 refine zM [26, 27] kr rfl ?_
 refine ForkT.cons (i := 26) A230 rfl kr ?_ ?_
 ·
  refine zN (d := 80) (fun b => .slice (some ⟨b, 0, none⟩) 3 3) (.cells #[.bool ((Raw.of 3).neg), .slice ad14 len14 cap14, .slice ae14 le14 ce14, .bool ((Raw.of 4).neg), .slice ad25 len25 cap25, .slice ae25 le25 ce25, .bool ((Raw.of 1).neg), .slice ad36 len36 cap36, .slice ae36 le36 ce36] 25 (0, 0)) A230 kr j67 kw ?_
  intro b231 w231 Y231 j231 q231 hu231 a232 A232
  refine zI (hH67.up hu231) (fun hH231 => ?_)
  refine zM [27] kr rfl ?_
  refine ForkT.cons (i := 27) A232 rfl kr (zN (d := 81) (fun b => .slice (some ⟨b, 0, none⟩) 3 3) (.cells #[.int .i64 3, .int .i64 4, .int .i64 1] 3 (0, 0)) A232 kr j231 kw ?_) ForkT.nil
  intro b233 w233 Y233 j233 q233 hu233 a234 A234
  refine zI (hH231.up hu233) (fun hH233 => ?_)
  refine hG2 _ _ _ _ (G_cast kr (hI9002 _ _ ⟨_, b231, b233, A234.as [0, 8, 9, 11, 13, 76, 80, 81] kr kr, j233, (Le2 q231 q233)⟩))
 refine ForkT.cons (i := 27) A230 rfl kr (zN (d := 81) (fun b => .slice (some ⟨b, 0, none⟩) 3 3) (.cells #[.int .i64 3, .int .i64 4, .int .i64 1] 3 (0, 0)) A230 kr j67 kw ?_) ForkT.nil
 intro b235 w235 Y235 j235 q235 hu235 a236 A236
 refine zI (hH67.up hu235) (fun hH235 => ?_)
 refine zM [26, 28] kr rfl ?_
 refine ForkT.cons (i := 26) A236 rfl kr ?_ ?_
 ·
  refine zN (d := 80) (fun b => .slice (some ⟨b, 0, none⟩) 3 3) (.cells #[.bool ((Raw.of 3).neg), .slice ad14 len14 cap14, .slice ae14 le14 ce14, .bool ((Raw.of 4).neg), .slice ad25 len25 cap25, .slice ae25 le25 ce25, .bool ((Raw.of 1).neg), .slice ad36 len36 cap36, .slice ae36 le36 ce36] 25 (0, 0)) A236 kr j235 kw ?_
  intro b237 w237 Y237 j237 q237 hu237 a238 A238
  refine zI (hH235.up hu237) (fun hH237 => ?_)
  refine hG2 _ _ _ _ (G_cast kr (hI9002 _ _ ⟨_, b237, b235, A238.as [0, 8, 9, 11, 13, 76, 80, 81] kr kr, (St.swapAt [] j237), (Le2 q235 q237)⟩))
 obtain ⟨hSx239, q239, hat239⟩ := St.publish j235 (j235.own_ge 0 rfl)
 have j239 : St E0 w X w235 (show_ b235 Y235) [(b39, .cells #[.bool ((Raw.of 1).neg), .slice ad36 len36 cap36, .slice ae36 le36 ce36] 25 (0, 0)), (b28, .cells #[.bool ((Raw.of 4).neg), .slice ad25 len25 cap25, .slice ae25 le25 ce25] 25 (0, 0)), (b17, .cells #[.bool ((Raw.of 3).neg), .slice ad14 len14 cap14, .slice ae14 le14 ce14] 25 (0, 0))] := hSx239
 have hI239 := ints_at [3, 4, 1] hat239 (by simp)
 refine ForkT.cons (i := 28) A236 rfl kr (zK (d := 82) (f := 25) (cap := #[]) (vs := #[.int .i64 1, .slice (some ⟨b235, 0, none⟩) 3 3]) A236 kr j239 rfl kr kr (fun w => Try.call25 _ w) (list_c _ _ j239.lt 1 (by decide) (by decide) (by decide) _ _ _ [3, 4, 1] hI239 (by decide) (by decide)) ?_) ForkT.nil
 rintro v240 w240 j240 q240 hu240 ⟨ad240, len240, cap240, rfl, hR240⟩ a241 A241
 have hl240 : len240 = 3 := hR240.hlen
 refine zI (hH235.up hu240) (fun hH240 => ?_)
 refine zM [26] kr rfl ?_
 refine ForkT.cons (i := 26) A241 rfl kr (zN (d := 80) (fun b => .slice (some ⟨b, 0, none⟩) 3 3) (.cells #[.bool ((Raw.of 3).neg), .slice ad14 len14 cap14, .slice ae14 le14 ce14, .bool ((Raw.of 4).neg), .slice ad25 len25 cap25, .slice ae25 le25 ce25, .bool ((Raw.of 1).neg), .slice ad36 len36 cap36, .slice ae36 le36 ce36] 25 (0, 0)) A241 kr j240 kw ?_) ForkT.nil
 intro b242 w242 Y242 j242 q242 hu242 a243 A243
 refine zI (hH240.up hu242) (fun hH242 => ?_)
 refine hG2 _ _ _ _ (G_cast kr (hI9001 _ _ ⟨_, b242, ad240, len240, cap240, b235, A243.as [0, 8, 9, 11, 13, 76, 80, 82] kr kr, j242, (Le4 q235 q239 q240 q242), (hI239.mono (Le2 q240 q242)), (hR240.mono q242)⟩))
theorem int_at {r : Rd} {b off i : Nat} {x : Int} (h : IntAt r ⟨b, off + i * 1, none⟩ x) : At r ⟨b, off + i, none⟩ [.int .i64 x] := by unfold IntAt at h; rwa [Nat.mul_one] at h
theorem am_true {a b : Raw} (h : cmpE a b = 0) (h2 : cmpR a b ≤ 0) : atMostV a b = true := by simp [atMostV, h, h2]
theorem am_le {a b : Raw} (h : atMostV a b = true) : cmpE a b = 0 ∧ cmpR a b ≤ 0 := by simpa [atMostV] using h
end Go.Proofs.Ytoocgllbbihoaaa

/- Parts of the proof: EvQ EvO EvK EvS EvU EvV O1 K0 K1 O2 K2 O3. By an AI agent. -/
import Derived.Shelf.Strings.Builder1
import Derived.Shelf.Strconv.Itoa3
import Derived.LaidSub
import Derived.Lib.LaidTab
import Derived.LaidMore
import Derived.Lay
import Derived.Test.YtdfmdiakjdggbaaGreatDoorRows
import Derived.WalkKit
import Derived.BigCall
import Derived.LoopTactic
import Derived.Lib.AppendIntMem
import Derived.Lib.ItoaLen
import Derived.Shelf.SlIterI.Nil
import Derived.Shelf.SortM.Plain
import Derived.Shelf.SortM.SortNone
import Derived.Lib.SliceRun
import Derived.OwnWalk
import Derived.Test.YtdfmdiakjdggbaaGreatDoorBaseA
import Derived.Test.YtdfmdiakjdggbaaGreatDoorBaseB
import Derived.Test.YtdfmdiakjdggbaaGreatDoorBaseC
import Derived.Test.YtdfmdiakjdggbaaGreatDoorBaseD
set_option linter.unusedVariables false
set_option linter.unusedSimpArgs false
set_option linter.unnecessarySimpa false
/- Programs read by an interpreter whose values are trees: the tail of a region that draws its order, with operations that come late. By an AI agent; over any program. -/
namespace Go.Ev
open Go Go.Gv Go.RowKit
theorem getD_set_self {l : Array Bool} {i : Nat} (h : i < l.size) : (l.setIfInBounds i true).getD i false = true := by simp [h]
/-- The first j have come up, and no others. -/
def First (l : Array Bool) (j : Nat) : Prop := ∀ i, l.getD i false = decide (i < j)
theorem ready_of {ops : Array Oper} {l : Array Bool} {j : Nat} {o : Oper} (hl : l.size = ops.size) (ho : ops[j]? = some o) (hj : l.getD j false = false) (he : ∀ e ∈ o.after, Region.binds .any e = true → l.getD e.on false = true) : j ∈ Region.ready .any ops l := by
  refine mem_ready.2 ⟨?_, o, ho, he⟩
  have : j < l.size := by rw [hl]; exact (Array.getElem?_eq_some_iff.1 ho).1
  simpa [this] using hj
def unlE (l : Array Bool) : Nat := l.toList.countP (fun b => !b)
theorem unlE_set {l : Array Bool} {i : Nat} (hi : i < l.size) (h : l.getD i false = false) : unlE (l.setIfInBounds i true) + 1 = unlE l := by
  have h1 : l[i] = false := by simpa [hi] using h
  have h2 : i < l.toList.length := by simpa using hi
  have h3 : l.toList[i]'h2 = false := by simpa using h1
  unfold unlE
  rw [Array.toList_setIfInBounds, List.countP_set h2]
  have h4 : 0 < l.toList.countP (fun b => !b) := List.countP_pos_iff.2 ⟨_, List.getElem_mem h2, by simp [h3]⟩
  simp only [h3, Bool.not_false, if_true, Bool.not_true, Bool.false_eq_true, if_false]
  omega
theorem unlE_first {l : Array Bool} {j : Nat} (h : First l j) (hj : j ≤ l.size) : unlE l = l.size - j := by
  have e : l.toList = List.replicate j true ++ List.replicate (l.size - j) false := by
    apply List.ext_getElem?
    intro i
    rcases Nat.lt_or_ge i l.size with hi | hi
    · have h1 := h i
      have h2 : l[i] = decide (i < j) := by simpa [hi] using h1
      rw [Array.getElem?_toList, Array.getElem?_eq_getElem hi, h2]
      rcases Nat.lt_or_ge i j with hij | hij
      · rw [List.getElem?_append_left (by simpa using hij)]; simp [hij]
      · rw [List.getElem?_append_right (by simpa using hij), List.length_replicate, List.getElem?_replicate, if_pos (by omega)]
        simp; omega
    · rw [List.getElem?_eq_none (by simpa using hi), List.getElem?_eq_none (by simp; omega)]
  unfold unlE
  rw [e, List.countP_append, List.countP_replicate, List.countP_replicate]
  simp
/-! ### Operations look at their operands alone -/
section
variable {P : Program} {H : List TO} {k : Nat} {ρ ρ' : Operand → T} {L L2 : List T} {cl yd : Cl} {d : Option Nat} {ops : Array Oper}
theorem efop_congr (op : Op) (h : ∀ x ∈ op.operands, ρ x = ρ' x) : efop P H ρ op = efop P H ρ' op := by
  cases op with
  | call c =>
    simp only [efop]
    split
    · rename_i x y t t' e1 e2 e3
      have hm : ∀ z, z ∈ c.args.toList → z ∈ (Op.call c).operands := fun z hz => by
        simp only [Op.operands, Call.operands, Array.mem_append]; right; simpa using hz
      rw [h x (hm x (by rw [e2]; simp)), h y (hm y (by rw [e2]; simp))]
    · rename_i x y t t' e1 e2 e3
      have hm : ∀ z, z ∈ c.args.toList → z ∈ (Op.call c).operands := fun z hz => by
        simp only [Op.operands, Call.operands, Array.mem_append]; right; simpa using hz
      rw [h x (hm x (by rw [e2]; simp)), h y (hm y (by rw [e2]; simp))]
    · rfl
  | _ => simp only [efop] <;> simp_all [Op.operands]
/-- Both answer the same, each over its own slots. -/
def Par (d : Option Nat) (L L2 : List T) : Option S → Option S → Prop
  | none, none => True
  | some s, some s2 => ∃ t, s.L = dst d t L ∧ s2.L = dst d t L2 ∧ s.H = s2.H
  | _, _ => False
theorem fin1_par (r : T × Option TO) : Par d L L2 (fin1 d L H r) (fin1 d L2 H r) := by
  obtain ⟨t, ob⟩ := r
  cases ob <;> exact ⟨t, rfl, rfl, rfl⟩
theorem fin2_par (r : Option T × List TO) : Par d L L2 (fin2 d L r) (fin2 d L2 r) := by
  obtain ⟨t, H'⟩ := r
  cases t with
  | some t => exact ⟨t, rfl, rfl, rfl⟩
  | none => cases d with
    | none => exact ⟨.u, rfl, rfl, rfl⟩
    | some d => trivial
theorem fin3_par (r : Option (T × List TO)) : Par d L L2 (fin3 d L r) (fin3 d L2 r) := by
  cases r with
  | none => trivial
  | some r => exact ⟨r.1, rfl, rfl, rfl⟩
theorem callT_par (az : List T) (t : T) : Par d L L2 (callT P cl yd d L H az t) (callT P cl yd d L2 H az t) := by
  cases t with
  | fn f cs =>
    simp only [callT]
    cases enters P f with
    | true => exact fin3_par _
    | false => trivial
  | fb f bs =>
    simp only [callT]
    cases enters P f with
    | true => exact fin3_par _
    | false => trivial
  | yl l => exact fin3_par _
  | _ => trivial
theorem opC_par (op : Op) (h : ∀ x ∈ op.operands, evO L x = evO L2 x) : Par d L L2 (opC P cl yd d L H op) (opC P cl yd d L2 H op) := by
  cases op with
  | call c =>
    simp only [opC]
    split
    · rename_i f e
      rw [map_congr (l := c.args.toList) (ρ := evO L) (ρ' := evO L2) (fun x hx => h x (by simp only [Op.operands, Call.operands, Array.mem_append]; right; simpa using hx)), h f (by simp [Op.operands, Call.operands, e])]
      exact callT_par _ _
    · trivial
  | _ => trivial
theorem opE_par (o : Oper) (h : ∀ x ∈ o.op.operands, evO L x = evO L2 x) (hg : ∀ j b p t, o.guard = some (j, b) → ops[j]? = some p → p.dst = some t → nth .u L t = nth .u L2 t) : Par o.dst L L2 (opE P cl yd ops o ⟨L, H⟩) (opE P cl yd ops o ⟨L2, H⟩) := by
  have hw : wantT ops L o = wantT ops L2 o := by
    unfold wantT
    cases hgd : o.guard with
    | none => rfl
    | some jb =>
      obtain ⟨j, b⟩ := jb
      cases hj : ops[j]? with
      | none => simp only [hj]
      | some p =>
        cases hd : p.dst with
        | none => simp only [hj, hd]
        | some t => simp only [hj, hd, hg j b p t hgd hj hd]
  unfold opE
  simp only [hw]
  cases wantT ops L2 o with
  | none => trivial
  | some q => cases q with
    | false => exact ⟨_, rfl, rfl, rfl⟩
    | true =>
      simp only [opE1, plop_congr o.op h]
      cases plop P H (ln H) (evO L2) o.op with
      | some r => exact fin1_par r
      | none =>
        simp only [opE2, efop_congr o.op h]
        cases efop P H (evO L2) o.op with
        | some r => exact fin2_par r
        | none =>
          have hc := opC_par (P := P) (cl := cl) (yd := yd) (d := o.dst) (H := H) o.op h
          revert hc
          cases opC P cl yd o.dst L H o.op with
          | some x => cases opC P cl yd o.dst L2 H o.op with
            | some y => exact fun hc => hc
            | none => exact fun hc => hc.elim
          | none => cases opC P cl yd o.dst L2 H o.op with
            | some y => exact fun hc => hc.elim
            | none =>
              intro _
              simp only [opE3, modE_congr o h]
              cases modE P (evO L2) o with
              | none => trivial
              | some t => exact ⟨t, rfl, rfl, rfl⟩
/-! ### Late operations -/
/-- What a late operation answers, over these slots. -/
def LateV (P : Program) (L : List T) (p : Oper) (v : T) : Prop := (∀ H k, plop P H k (evO L) p.op = some (v, none)) ∨ ((∀ H k, plop P H k (evO L) p.op = none) ∧ modE P (evO L) p = some v)
theorem lateK_guard {p : Oper} (h : lateK p = true) : p.guard = none := by
  unfold lateK at h
  simp only [Bool.and_eq_true] at h
  cases hg : p.guard with
  | none => rfl
  | some x => rw [hg] at h; cases h.1
theorem lateK_op {p : Oper} (h : lateK p = true) : (match p.op with | .move _ | .assign _ | .pick .. | .nilCheck _ | .binOp .. | .unOp .. | .convert .. | .slice .. | .fieldAddr .. | .field .. | .indexAddr .. | .index .. | .extract .. => True | _ => False) := by
  unfold lateK at h
  simp only [Bool.and_eq_true] at h
  have h2 := h.2
  split at h2 <;> first | (rename_i e; rw [e]; trivial) | cases h2
theorem late_plop {p : Oper} (h : lateK p = true) (H H' : List TO) (k k' : Nat) : plop P H k ρ p.op = plop P H' k' ρ p.op := by
  have := lateK_op h
  split at this <;> first | (rename_i e; rw [e]; rfl) | exact this.elim
theorem vals {t : T} {z : T × Option TO} (h : val t = some z) : z.2 = none := by unfold val at h; cases h; rfl
theorem vals' {t : Option T} {z : T × Option TO} (h : val' t = some z) : z.2 = none := by
  unfold val' at h
  cases t with
  | none => cases h
  | some t => cases h; rfl
theorem late_none {p : Oper} (h : lateK p = true) {z : T × Option TO} (hz : plop P H k ρ p.op = some z) : z.2 = none := by
  have := lateK_op h
  split at this
  all_goals try exact this.elim
  all_goals rename_i e; rw [e] at hz; simp only [plop] at hz
  all_goals try exact vals hz
  all_goals try cases hz
  all_goals first | unfold pPick at hz | unfold pNil at hz | unfold pBin at hz | unfold pSlice pSlice2 at hz | unfold pFieldAddr at hz | unfold pField at hz | unfold pIdxAddr at hz | unfold pIdx at hz | unfold pExtract at hz
  all_goals repeat' split at hz
  all_goals try unfold neNil at hz
  all_goals repeat' split at hz
  all_goals try simp only [Bool.cond_eq_ite] at hz
  all_goals repeat' split at hz
  all_goals first | exact vals hz | exact vals' hz | (cases hz; done) | (cases hz; rfl) | skip
theorem late_efop {p : Oper} (h : lateK p = true) : efop P H ρ p.op = none := by
  have := lateK_op h
  split at this <;> first | (rename_i e; rw [e]; rfl) | exact this.elim
theorem late_opC {p : Oper} (h : lateK p = true) : opC P cl yd d L H p.op = none := by
  have := lateK_op h
  split at this <;> first | (rename_i e; rw [e]; rfl) | exact this.elim
theorem late_nd {p : Oper} (h : lateK p = true) : noDef' p.op = true := by
  have := lateK_op h
  split at this <;> first | (rename_i e; rw [e]; rfl) | exact this.elim
theorem late_autoK {p : Oper} (h : lateK p = true) : autoK L p.op = none := by
  have := lateK_op h
  split at this <;> first | (rename_i e; rw [e]; rfl) | exact this.elim
theorem late_headC {p : Oper} {po : Po} (h : lateK p = true) : headC P po H L p.op = none := by
  have := lateK_op h
  split at this <;> first | (rename_i e; rw [e]; rfl) | exact this.elim
theorem late_appO {p : Oper} {H0 : List TO} {q : Option Nat} (h : lateK p = true) : appO P H0 H q L p.op = none := by
  have := lateK_op h
  split at this <;> first | (rename_i e; rw [e]; rfl) | exact this.elim
theorem late_opE {p : Oper} (h : lateK p = true) {v : T} (hv : LateV P L p v) : opE P cl yd ops p ⟨L, H⟩ = some ⟨dst p.dst v L, H⟩ := by
  unfold opE wantT
  rw [lateK_guard h]
  simp only [opE1]
  rcases hv with hv | ⟨hv, hm⟩
  · rw [hv]; rfl
  · rw [hv]
    simp only [opE2, late_efop h, late_opC h, opE3, hm]
theorem LateV.congr {p : Oper} {v : T} (hv : LateV P L p v) (h : ∀ x ∈ p.op.operands, evO L x = evO L2 x) : LateV P L2 p v := by
  rcases hv with hv | ⟨hv, hm⟩
  · exact .inl fun H k => by rw [← plop_congr p.op h]; exact hv H k
  · exact .inr ⟨fun H k => by rw [← plop_congr p.op h]; exact hv H k, by rw [← modE_congr p h]; exact hm⟩
/-- What the head says of a late one. -/
theorem LateV.of_head {p : Oper} {po : Po} {H0 Hm Hn : List TO} {z : T × Option TO} (h : lateK p = true) (hz : headOp P po H0 Hm Hn L ops p = some z) : z.2 = none ∧ LateV P L p z.1 := by
  unfold headOp wantT at hz
  rw [lateK_guard h] at hz
  simp only [headV, late_autoK h] at hz
  cases hp : plop P Hm (ln Hn) (evO L) p.op with
  | some y =>
    simp only [hp, Option.some.injEq] at hz
    subst hz
    have h2 := late_none h hp
    refine ⟨h2, .inl fun H k => ?_⟩
    rw [late_plop h H Hm k (ln Hn), hp]
    obtain ⟨t, ob⟩ := y
    cases h2; rfl
  | none =>
    simp only [hp, late_headC h, late_appO h] at hz
    cases hm : modE P (evO L) p with
    | none => simp [hm] at hz
    | some t =>
      simp only [hm, Option.some.injEq] at hz
      subst hz
      exact ⟨rfl, .inr ⟨fun H k => by rw [late_plop h H Hm k (ln Hn), hp], hm⟩⟩
/-- A late one, in the memory az it is. -/
def LateW (P : Program) (H : List TO) (L : List T) (p : Oper) (v : T) : Prop := (lateK p = true ∧ LateV P L p v) ∨ (p.guard = none ∧ ∃ t x, p.op = .load t x ∧ pLoad P H t (evO L x) = some (v, none))
theorem LateW.opE {p : Oper} {v : T} (hv : LateW P H L p v) : opE P cl yd ops p ⟨L, H⟩ = some ⟨dst p.dst v L, H⟩ := by
  rcases hv with ⟨h, hv⟩ | ⟨hg, t, x, ho, hl⟩
  · exact late_opE h hv
  · unfold Ev.opE wantT
    rw [hg]
    simp only [opE1, ho, plop, hl]
    rfl
theorem LateW.nd {p : Oper} {v : T} (hv : LateW P H L p v) : noDef' p.op = true := by
  rcases hv with ⟨h, _⟩ | ⟨_, t, x, ho, _⟩
  · exact late_nd h
  · rw [ho]; rfl
theorem LateW.congr {p : Oper} {v : T} (hv : LateW P H L p v) (h : ∀ x ∈ p.op.operands, evO L x = evO L2 x) : LateW P H L2 p v := by
  rcases hv with ⟨h1, hv⟩ | ⟨hg, t, x, ho, hl⟩
  · exact .inl ⟨h1, hv.congr h⟩
  · refine .inr ⟨hg, t, x, ho, ?_⟩
    rw [← h x (by rw [ho]; simp [Op.operands])]
    exact hl
theorem eqV_ok {x y : Value} (h : eqV x y = true) : x = y := by
  unfold eqV at h
  split at h
  · simp only [Bool.and_eq_true] at h
    obtain rfl := kind_eq h.1
    rw [ieq_eq] at h
    simp at h; rw [h]
  · rename_i a b
    cases a <;> cases b <;> first | rfl | cases h
  · rfl
  · rfl
  · rfl
  · cases h
theorem eqLs_ok {e : T → T → Bool} (he : ∀ a b, e a b = true → a = b) : ∀ {l m : List T}, eqLs e l m = true → l = m
  | [], [], _ => rfl
  | a :: l, b :: m, h => by
    simp only [eqLs, Bool.and_eq_true] at h
    rw [he a b h.1, eqLs_ok he h.2]
  | [], _ :: _, h => by cases h
  | _ :: _, [], h => by cases h
theorem eqU_ok : ∀ (k : Nat) (a b : T), eqU k a b = true → a = b
  | 0, a, b, h => by cases h
  | k + 1, a, b, h => by
    simp only [eqU] at h
    split at h
    · rw [eqV_ok h]
    · simp only [Bool.and_eq_true] at h
      rw [beqN h.1, eqLs_ok (eqU_ok k) h.2]
    · simp only [Bool.and_eq_true] at h
      rw [beqN h.1, eqLs_ok (eqU_ok k) h.2]
    · rw [eqLs_ok (eqU_ok k) h]
    · rw [eqLs_ok (eqU_ok k) h]
    · rw [eqLs_ok (eqU_ok k) h]
    · simp only [Bool.and_eq_true] at h
      rw [beqN h.1, eqLs_ok (eqU_ok k) h.2]
    · simp only [Bool.and_eq_true] at h
      rw [beqN h.1, beqN h.2.1, beqN h.2.2.1, beqN h.2.2.2]
    · simp only [Bool.and_eq_true] at h
      rw [beqN h.1, beqN h.2.1, beqN h.2.2]
    · simp only [Bool.and_eq_true] at h
      rw [beqN h.1, beqN h.2]
    · rw [beqN h]
    · cases h
theorem inN_mem : ∀ {l : List Nat} {i : Nat}, inN i l = true → i ∈ l
  | [], i, h => by cases h
  | j :: l, i, h => by
    simp only [inN, Bool.or_eq_true] at h
    rcases h with h | h
    · rw [beqN h]; exact List.mem_cons_self
    · exact List.mem_cons_of_mem _ (inN_mem h)
theorem ldsOk_mem {s : S} : ∀ {l : List Nat}, ldsOk P ops s l = true → ∀ i ∈ l, ∀ p, ops[i]? = some p → ldOk P s p = true
  | [], _, i, hi, _, _ => by cases hi
  | j :: l, h, i, hi, p, hp => by
    simp only [ldsOk, Bool.and_eq_true] at h
    rcases List.mem_cons.1 hi with rfl | hi
    · have := h.1
      rwa [hp] at this
    · exact ldsOk_mem h.2 i hi p hp
/-- A load that is looked at again. -/
theorem LateW.of_ld {s : S} {ld : List Nat} {i : Nat} {p : Oper} (hp : ops[i]? = some p) (hi : isLd p = true) (hin : inN i ld = true) (hl : ldsOk P ops s ld = true) : ∃ d, p.dst = some d ∧ LateW P s.H s.L p (nth .u s.L d) := by
  have h1 := ldsOk_mem hl i (inN_mem hin) p hp
  unfold isLd at hi
  simp only [Bool.and_eq_true] at hi
  have hg : p.guard = none := by
    cases hg : p.guard with
    | none => rfl
    | some _ => have := hi.1; rw [hg] at this; cases this
  unfold ldOk at h1
  split at h1
  · rename_i t x d ho hd
    split at h1
    · rename_i z hz
      refine ⟨d, hd, .inr ⟨hg, t, x, ho, ?_⟩⟩
      rw [hz, eqU_ok 12 _ _ h1]
    · cases h1
  · cases h1
theorem lateL_or {m : Nat} {ld vl : List Nat} {i : Nat} {p : Oper} (h : lateL m ld vl i p = true) : lateK p = true ∨ (isLd p = true ∧ inN i ld = true) := by
  unfold lateL at h
  cases hb : Nat.blt i m with
  | true =>
    simp only [hb, cond_true, Bool.or_eq_true, Bool.and_eq_true] at h
    exact h
  | false =>
    simp only [hb, cond_false, Bool.and_eq_true] at h
    exact .inl h.1
theorem lateL_any {m : Nat} {ld vl : List Nat} {i : Nat} {p : Oper} (h : lateL m ld vl i p = true) : (lateK p || isLd p) = true := by
  rcases lateL_or h with h | ⟨h, _⟩ <;> rw [h] <;> simp
theorem lateL_tail {m : Nat} {ld vl : List Nat} {i : Nat} {p : Oper} (h : lateL m ld vl i p = true) (hm : m ≤ i) : inN i vl = true := by
  unfold lateL at h
  have hb : Nat.blt i m = false := by
    cases hb : Nat.blt i m with
    | true => rw [Nat.blt_eq] at hb; omega
    | false => rfl
  simp only [hb, cond_false, Bool.and_eq_true] at h
  exact h.2
theorem noSlot_ne {d : Nat} {x : Operand} (h : noSlot d x = true) {t : Nat} (e : x = .tmp t) : t ≠ d := by
  subst e
  intro e
  subst e
  simp [noSlot] at h
theorem free_spec {o p : Oper} (h : freeE ops o p = true) : ∃ d, p.dst = some d ∧ (∀ t, Operand.tmp t ∈ o.op.operands → t ≠ d) ∧ (∀ j b g t, o.guard = some (j, b) → ops[j]? = some g → g.dst = some t → t ≠ d) ∧ ∀ x, o.dst = some x → x ≠ d ∧ ∀ t, Operand.tmp t ∈ p.op.operands → t ≠ x := by
  unfold freeE at h
  cases hd : p.dst with
  | none => simp [hd] at h
  | some d =>
    simp only [hd, Bool.and_eq_true] at h
    refine ⟨d, rfl, fun t ht => noSlot_ne (List.all_eq_true.1 h.1 _ (by simpa using ht)) rfl, fun j b g t h1 h2 h3 => ?_, fun x hx => ?_⟩
    · have h4 := h.2.1
      rw [h1] at h4
      simp only [h2, h3] at h4
      intro e; subst e; simp at h4
    · have h4 := h.2.2
      rw [hx] at h4
      simp only [Bool.and_eq_true] at h4
      refine ⟨fun e => ?_, fun t ht => noSlot_ne (List.all_eq_true.1 h4.2 _ (by simpa using ht)) rfl⟩
      have := h4.1
      subst e; simp at this
end
/-! ### The tail -/
/-- The slots, but for those that operations still to come write. -/
structure FrL (n : Nat) (a : Act) (L : List T) (D : List Deferred) (B : Bm) (r : Rd) (pd : Nat → Prop) : Prop where
  size : a.tmps.size = n
  len : L.length = n
  defers : a.defers = D
  reps : ∀ (t : Nat) (v : Value), ¬ pd t → a.tmps[t]? = some v → Rep B r (nth .u L t) v
open Classical in
noncomputable def maskL (pd : Nat → Prop) (L : List T) : List T := L.mapIdx fun t x => if pd t then .u else x
section
variable {pd : Nat → Prop} {L : List T} {t : Nat} {n : Nat} {a : Act} {D : List Deferred} {B : Bm} {r : Rd}
theorem mask_len : (maskL pd L).length = L.length := by simp [maskL]
theorem mask_nth (h : ¬ pd t) : nth .u (maskL pd L) t = nth .u L t := by
  simp only [nth_eq, List.getD_eq_getElem?_getD, maskL, List.getElem?_mapIdx, if_neg h]
  cases L[t]? <;> rfl
theorem mask_pd (h : pd t) : nth .u (maskL pd L) t = .u := by
  simp only [nth_eq, List.getD_eq_getElem?_getD, maskL, List.getElem?_mapIdx, if_pos h]
  cases L[t]? <;> rfl
theorem FrL.mask (h : FrL n a L D B r pd) : FrT n a (maskL pd L) D B r := by
  refine ⟨h.size, Reps.of ?_ fun t x v hx hv => ?_, h.defers⟩
  · rw [mask_len, h.len]; simpa using h.size.symm
  · have hx' : x = nth .u (maskL pd L) t := by rw [nth_eq, List.getD_eq_getElem?_getD, hx]; rfl
    rw [hx']
    by_cases hp : pd t
    · rw [mask_pd hp]; exact .u
    · rw [mask_nth hp]; exact h.reps t v hp (by simpa using hv)
theorem FrL.all (h : FrL n a L D B r pd) (hp : ∀ t, ¬ pd t) : FrT n a L D B r := by
  refine ⟨h.size, Reps.of ?_ fun t x v hx hv => ?_, h.defers⟩
  · rw [h.len]; simpa using h.size.symm
  · have hx' : x = nth .u L t := by rw [nth_eq, List.getD_eq_getElem?_getD, hx]; rfl
    rw [hx']
    exact h.reps t v (hp t) (by simpa using hv)
end
theorem least_unl {l : Array Bool} : ∀ {n : Nat}, (∃ i, i < n ∧ l.getD i false = false) → ∃ i, i < n ∧ l.getD i false = false ∧ ∀ q, q < i → l.getD q false = true := by
  intro n h
  have : ∀ k, (∀ q, q < k → l.getD q false = true) ∨ ∃ i, i < k ∧ l.getD i false = false ∧ ∀ q, q < i → l.getD q false = true := by
    intro k
    induction k with
    | zero => exact .inl fun q hq => by omega
    | succ k ihk =>
      rcases ihk with h1 | ⟨i, h1, h2, h3⟩
      · cases hc : l.getD k false with
        | true =>
          refine .inl fun q hq => ?_
          rcases Nat.lt_succ_iff_lt_or_eq.1 hq with h | rfl
          · exact h1 q h
          · exact hc
        | false => exact .inr ⟨k, by omega, hc, h1⟩
      · exact .inr ⟨i, by omega, h2, h3⟩
  rcases this n with h1 | h1
  · obtain ⟨i, h2, h3⟩ := h
    rw [h1 i h2] at h3; cases h3
  · exact h1
theorem Shut.set {ops : List Oper} {l : Array Bool} {i : Nat} {o : Oper} (h : Shut ops fun q => l.getD q false = true) (ho : ops[i]? = some o) (hil : i < l.size) (hall : ∀ e ∈ o.after, Region.binds .any e = true → l.getD e.on false = true) : Shut ops fun q => (l.setIfInBounds i true).getD q false = true := by
  intro i2 o2 ho2 h2 e he hb
  show (l.setIfInBounds i true).getD e.on false = true
  have h2 : (l.setIfInBounds i true).getD i2 false = true := h2
  have hon : l.getD e.on false = true := by
    by_cases hii : i2 = i
    · subst hii
      rw [ho] at ho2; cases ho2
      exact hall e he hb
    · rw [getD_set_ne false (Ne.symm hii)] at h2
      exact h i2 o2 ho2 h2 e he hb
  by_cases he2 : e.on = i
  · rw [he2]; exact getD_set_self hil
  · rw [getD_set_ne false (Ne.symm he2)]; exact hon
theorem late_opE_inv {P : Program} {cl yd : Cl} {ops : Array Oper} {p : Oper} {s s1 : S} (h : lateK p = true) (h1 : opE P cl yd ops p s = some s1) : ∃ v, LateV P s.L p v ∧ s1 = ⟨dst p.dst v s.L, s.H⟩ := by
  unfold opE wantT at h1
  rw [lateK_guard h] at h1
  simp only [opE1] at h1
  cases hp : plop P s.H (ln s.H) (evO s.L) p.op with
  | some y =>
    simp only [hp] at h1
    obtain ⟨t, ob⟩ := y
    have h2 := late_none h hp
    simp only at h2
    subst h2
    simp only [fin1, Option.some.injEq] at h1
    exact ⟨t, .inl fun H k => by rw [late_plop h H s.H k (ln s.H), hp], h1.symm⟩
  | none =>
    simp only [hp, opE2, late_efop h, late_opC h, opE3] at h1
    cases hm : modE P (evO s.L) p with
    | none => simp [hm] at h1
    | some t =>
      simp only [hm, Option.some.injEq] at h1
      exact ⟨t, .inr ⟨fun H k => by rw [late_plop h H s.H k (ln s.H), hp], hm⟩, h1.symm⟩
/-- The slots that operations of the head still to come write. -/
def Pnd (ops : Array Oper) (m : Nat) (l : Array Bool) (t : Nat) : Prop := ∃ (i : Nat) (p : Oper), i < m ∧ l.getD i false = false ∧ ops[i]? = some p ∧ p.dst = some t
section
variable {P : Program} {E : Nat → Prop} {w0 : World} {X : Hid} {F : List Nat} {n : Nat} {D : List Deferred} {ops : Array Oper} {cl yd : Cl} {Q : Exit → Act → World → Prop} {rr : Option Nat}
theorem tail_go (hcl : CallOk P cl) (hyd : YieldOk P yd) {ld vl : List Nat} {m : Nat}
    (htl : ∀ (j : Nat) (o : Oper), m ≤ j → ops[j]? = some o → ∀ q, q < j → (∀ S : Nat → Prop, Shut ops.toList S → (∀ e ∈ o.after, Region.binds .any e = true → S e.on) → S q) ∨ ∃ p, ops[q]? = some p ∧ lateL m ld vl q p = true ∧ freeE ops o p = true)
    (hvl : ∀ (i : Nat) (o : Oper), ops[i]? = some o → inN i vl = true → lateK o = true ∧ slf o = true ∧ ∀ (q : Nat) (p : Oper), q < i → ops[q]? = some p → (lateK p || isLd p) = true → wfr o p = true)
    (hdp : ∀ (i : Nat) (p : Oper) (t : Nat), i < m → ops[i]? = some p → Operand.tmp t ∈ p.op.operands → ∀ (i' : Nat) (p' : Oper), i' < m → ops[i']? = some p' → p'.dst = some t → ∃ e ∈ p.after, Region.binds .any e = true ∧ e.on = i')
    (heg : ∀ (j : Nat) (o : Oper), ops[j]? = some o → ∀ e ∈ o.after, Region.binds .any e = true → e.on < j) (hnd : ∀ o ∈ ops.toList, noDef' o.op = true) :
    ∀ (fuel j : Nat) (s s' : S) {a : Act} {w : World} {B : Bm} {Y : Hid} {Mo : List (Nat × Obj)} {l : Array Bool} {r0 : Rd} {B0 : Bm}, tailE P cl yd ops ld (ops.toList.drop j) s = some s' → m ≤ j → unlE l ≤ fuel → l.size = ops.size → (∀ i, j ≤ i → l.getD i false = false) → Shut ops.toList (fun q => l.getD q false = true) →
      (∀ (i : Nat) (p : Oper), i < j → l.getD i false = false → ops[i]? = some p → lateL m ld vl i p = true ∧ ∃ v, LateW P s.H s.L p v ∧ ∀ d, p.dst = some d → d < s.L.length → nth .u s.L d = v) →
      Wd P E w0 X F s.H B w Y Mo → FrL n a s.L D B (rd w Y) (Pnd ops j l) → BLe B0 B → Le r0 (rd w Y) → After P E w0 X F n D s'.H s'.L B0 r0 (Q .normal) → wpAnyIn (FF rr) 0 P .any ops Q fuel l a w := by
  have dropC : ∀ {i : Nat} {o : Oper}, ops[i]? = some o → ops.toList.drop i = o :: ops.toList.drop (i + 1) := fun {i o} hoi => by
    have h1 : i < ops.toList.length := by rw [Array.length_toList]; exact (Array.getElem?_eq_some_iff.1 hoi).1
    rw [List.drop_eq_getElem_cons h1]
    congr 1
    have := (Array.getElem?_eq_some_iff.1 hoi).2
    simpa using this
  /- operations of the tail that have not come up yet are passed over -/
  have virt : ∀ (c j : Nat) (s s' : S) {a : Act} {w : World} {B : Bm} {Y : Hid} {l : Array Bool}, tailE P cl yd ops ld (ops.toList.drop j) s = some s' → m ≤ j → j + c ≤ ops.size → (∀ i, j ≤ i → l.getD i false = false) → (∀ q, j ≤ q → q < j + c → ∃ p, ops[q]? = some p ∧ lateL m ld vl q p = true) →
      (∀ (i : Nat) (p : Oper), i < j → l.getD i false = false → ops[i]? = some p → lateL m ld vl i p = true ∧ ∃ v, LateW P s.H s.L p v ∧ ∀ d, p.dst = some d → d < s.L.length → nth .u s.L d = v) → FrL n a s.L D B (rd w Y) (Pnd ops j l) →
      ∃ s2 : S, s2.H = s.H ∧ tailE P cl yd ops ld (ops.toList.drop (j + c)) s2 = some s' ∧ (∀ (i : Nat) (p : Oper), i < j + c → l.getD i false = false → ops[i]? = some p → lateL m ld vl i p = true ∧ ∃ v, LateW P s2.H s2.L p v ∧ ∀ d, p.dst = some d → d < s2.L.length → nth .u s2.L d = v) ∧ FrL n a s2.L D B (rd w Y) (Pnd ops (j + c) l) := by
    intro c
    induction c with
    | zero => exact fun j s s' {a w B Y l} h _ _ _ _ hp hF => ⟨s, rfl, h, hp, hF⟩
    | succ c ihc =>
      intro j s s' a w B Y l h hm hsz hT hq hp hF
      obtain ⟨oj, hoj, hlj⟩ := hq j (Nat.le_refl _) (by omega)
      obtain ⟨hk, hslf, hw⟩ := hvl j oj hoj (lateL_tail hlj hm)
      rw [dropC hoj] at h
      simp only [tailE] at h
      cases h1 : opE P cl yd ops oj s with
      | none => simp [h1] at h
      | some s1 =>
        simp only [h1] at h
        cases hld : ldsOk P ops s1 ld with
        | false => simp [hld] at h
        | true =>
          simp only [hld, cond_true] at h
          obtain ⟨v, hv, rfl⟩ := late_opE_inv hk h1
          have hp1 : ∀ (i : Nat) (p : Oper), i < j + 1 → l.getD i false = false → ops[i]? = some p → lateL m ld vl i p = true ∧ ∃ v', LateW P s.H (dst oj.dst v s.L) p v' ∧ ∀ d, p.dst = some d → d < (dst oj.dst v s.L).length → nth .u (dst oj.dst v s.L) d = v' := fun i p hi hl hpi => by
            rcases Nat.lt_or_ge i j with hij | hij
            · obtain ⟨k4, v', k5, k6⟩ := hp i p hij hl hpi
              have hwf := wfr_spec (hw i p hij hpi (lateL_any k4))
              refine ⟨k4, v', k5.congr fun x hx => ?_, fun d hd hlt => ?_⟩
              · cases x with
                | tmp t =>
                  show nth .u s.L t = nth .u (dst oj.dst v s.L) t
                  rw [dst_nth_ne fun e => (hwf t e).2 t hx rfl]
                | _ => rfl
              · rw [dst_len] at hlt
                rw [dst_nth_ne fun e => (hwf d e).1 d hd rfl]
                exact k6 d hd hlt
            · obtain rfl : i = j := by omega
              rw [hoj] at hpi; cases hpi
              refine ⟨hlj, v, .inl ⟨hk, hv.congr fun x hx => ?_⟩, fun d hd hlt => ?_⟩
              · cases x with
                | tmp t =>
                  show nth .u s.L t = nth .u (dst oj.dst v s.L) t
                  rw [dst_nth_ne fun e => slf_spec hslf t e t hx rfl]
                | _ => rfl
              · rw [dst_len] at hlt
                rw [hd, dst_nth hlt]
          have G1 : FrL n a (dst oj.dst v s.L) D B (rd w Y) (Pnd ops (j + 1) l) := by
            refine ⟨hF.size, by rw [dst_len]; exact hF.len, hF.defers, fun t x hnp hx => ?_⟩
            have hne : oj.dst ≠ some t := fun e => hnp ⟨j, oj, Nat.lt_succ_self j, hT j (Nat.le_refl _), hoj, e⟩
            rw [dst_nth_ne hne]
            exact hF.reps t x (fun ⟨i', p', g1, g2, g3, g4⟩ => hnp ⟨i', p', by omega, g2, g3, g4⟩) hx
          obtain ⟨s2, e1, e2, e3, e4⟩ := ihc (j + 1) ⟨dst oj.dst v s.L, s.H⟩ s' h (by omega) (by omega) (fun i hi => hT i (by omega)) (fun q h1 h2 => hq q (by omega) (by omega)) hp1 G1
          have hjc : j + 1 + c = j + (c + 1) := by omega
          rw [hjc] at e2 e3 e4
          exact ⟨s2, e1, e2, e3, e4⟩
  have done : ∀ (fuel j : Nat) (s s' : S) {a : Act} {w : World} {B : Bm} {Y : Hid} {Mo : List (Nat × Obj)} {l : Array Bool} {r0 : Rd} {B0 : Bm}, tailE P cl yd ops ld (ops.toList.drop j) s = some s' → m ≤ j → l.size = ops.size → (∀ i, j ≤ i → l.getD i false = false) → (∀ i, i < ops.size → l.getD i false = true) →
      Wd P E w0 X F s.H B w Y Mo → FrL n a s.L D B (rd w Y) (Pnd ops j l) → BLe B0 B → Le r0 (rd w Y) → After P E w0 X F n D s'.H s'.L B0 r0 (Q .normal) → wpAnyIn (FF rr) 0 P .any ops Q fuel l a w := fun fuel j s s' {a w B Y Mo l r0 B0} h hmj hl hT hall hW hF hB hr hk => by
    have hj : ops.size ≤ j := by
      rcases Nat.lt_or_ge j ops.size with h1 | h1
      · have h2 := hall j h1
        rw [hT j (Nat.le_refl _)] at h2; cases h2
      · exact h1
    rw [List.drop_eq_nil_of_le (by simpa using hj)] at h
    simp only [tailE, Option.some.injEq] at h
    subst h
    refine wpAnyIn_done ?_ (hk _ _ _ _ _ hW (hF.all fun t ht => ?_) hB hr) fuel
    · cases he : Region.ready .any ops l with
      | nil => rfl
      | cons x xs =>
        exfalso
        obtain ⟨hun, o, ho, _⟩ := mem_ready.1 (by rw [he]; exact List.mem_cons_self : x ∈ Region.ready .any ops l)
        have hx := (Array.getElem?_eq_some_iff.1 ho).1
        have h1 := hall x hx
        have hs : x < l.size := by omega
        simp [hs] at hun h1; rw [h1] at hun; cases hun
    · obtain ⟨i, p, _, h2, h3, _⟩ := ht
      rw [hall i (Array.getElem?_eq_some_iff.1 h3).1] at h2; cases h2
  intro fuel
  induction fuel with
  | zero =>
    intro j s s' a w B Y Mo l r0 B0 h hm hf hl hT hS hp hW hF hB hr hk
    refine done 0 j s s' h hm hl hT (fun i hi => ?_) hW hF hB hr hk
    cases hc : l.getD i false with
    | true => rfl
    | false => have := unlE_set (by omega) hc; omega
  | succ fuel ih =>
    intro j s s' a w B Y Mo l r0 B0 h hm hf hl hT hS hp hW hF hB hr hk
    by_cases hex : ∃ i, i < ops.size ∧ l.getD i false = false
    · obtain ⟨i0, hi0, hl0, hbelow⟩ := least_unl hex
      obtain ⟨o0, ho0⟩ : ∃ o, ops[i0]? = some o := ⟨ops[i0], by simp [hi0]⟩
      have hr0 : i0 ∈ Region.ready .any ops l := ready_of hl ho0 hl0 fun e he hb => hbelow _ (heg i0 o0 ho0 e he hb)
      refine ⟨fun h0 => absurd (h0 ▸ hr0) (by simp), fun i hi => ?_⟩
      obtain ⟨hun, oi, hoi, hall⟩ := mem_ready.1 hi
      have hil : i < l.size := by rw [hl]; exact (Array.getElem?_eq_some_iff.1 hoi).1
      have hli : l.getD i false = false := by simpa [hil] using hun
      have hoi' : ops.toList[i]? = some oi := by simpa using hoi
      have hS' := hS.set hoi' hil hall
      have hu := unlE_set hil hli
      rcases Nat.lt_or_ge i j with hij0 | hij0
      · /- a late one -/
        obtain ⟨hk1, v, hv, hvd⟩ := hp i oi hij0 hli hoi
        have hcg : ∀ x ∈ oi.op.operands, evO s.L x = evO (maskL (Pnd ops j l) s.L) x := fun x hx => by
          cases x with
          | tmp t =>
            refine (mask_nth fun ⟨i', p', h1, h2, h3, h4⟩ => ?_).symm
            have hk1' := (hp i' p' h1 h2 h3).1
            rcases Nat.lt_trichotomy i' i with hlt | heq | hgt
            · rcases Nat.lt_or_ge i m with him | him
              · obtain ⟨e, he, hb, hon⟩ := hdp i oi t him hoi hx i' p' (by omega) h3 h4
                have := hall e he hb
                rw [hon, h2] at this; cases this
              · rcases htl i oi him hoi i' hlt with q1 | ⟨p2, q1, _, q2⟩
                · have := q1 (fun q => l.getD q false = true) hS hall
                  rw [h2] at this; cases this
                · rw [h3] at q1; cases q1
                  obtain ⟨d, f1, f2, _⟩ := free_spec q2
                  rw [h4] at f1; cases f1
                  exact f2 t hx rfl
            · subst heq
              rw [hoi] at h3; cases h3
              rcases Nat.lt_or_ge i' m with him | him
              · obtain ⟨e, he, hb, hon⟩ := hdp i' oi t him hoi hx i' oi him hoi h4
                have := heg i' oi hoi e he hb
                omega
              · exact slf_spec (hvl i' oi hoi (lateL_tail hk1 him)).2.1 t h4 t hx rfl
            · rcases Nat.lt_or_ge i' m with him | him
              · obtain ⟨e, he, hb, hon⟩ := hdp i oi t (by omega) hoi hx i' p' him h3 h4
                have := heg i oi hoi e he hb
                omega
              · exact (wfr_spec ((hvl i' p' h3 (lateL_tail hk1' him)).2.2 i oi hgt hoi (lateL_any hk1)) t h4).2 t hx rfl
          | _ => rfl
        have hv' := hv.congr hcg
        have hlo := hv'.opE (cl := cl) (yd := yd) (ops := ops)
        unfold wpOpIn
        simp only [hoi]
        refine opE_in hcl hyd hlo hv'.nd hW hF.mask fun a' w' B' Y' Mo' g1 g2 g3 g4 => ?_
        refine ih j s s' h hm (by omega) (by simpa using hl) (fun q hq => ?_) hS' (fun i' p h1 h2 h3 => ?_) g1 ⟨g2.size, hF.len, g2.defers, fun t x hnp hx => ?_⟩ (hB.trans g3) (hr.trans g4) hk
        · rw [getD_set_ne false (by omega)]; exact hT q hq
        · refine hp i' p h1 ?_ h3
          by_cases e : i = i'
          · subst e; rw [getD_set_self hil] at h2; cases h2
          · rwa [getD_set_ne false e] at h2
        · have hR := g2.reps.getD t
          have : a'.tmps.toList.getD t undef = x := by simp [hx]
          rw [this] at hR
          by_cases e : oi.dst = some t
          · rcases Nat.lt_or_ge t s.L.length with ht | ht
            · rw [hvd t e ht]
              have hR : Rep B' (rd w' Y') (nth .u (dst oi.dst v (maskL (Pnd ops j l) s.L)) t) x := hR
              rwa [e, dst_nth (by rw [mask_len]; exact ht)] at hR
            · rw [nth_eq, List.getD_eq_getElem?_getD, List.getElem?_eq_none ht]; exact .u
          · have hR : Rep B' (rd w' Y') (nth .u (dst oi.dst v (maskL (Pnd ops j l) s.L)) t) x := hR
            have hmn : ¬ Pnd ops j l t := fun ⟨i', p', h1, h2, h3, h4⟩ => hnp ⟨i', p', h1, (by
              rw [getD_set_ne false (fun e' => e (by subst e'; rw [hoi] at h3; cases h3; exact h4))]
              exact h2), h3, h4⟩
            rwa [dst_nth_ne e, mask_nth hmn] at hR
      · /- what stands ahead of it is passed over -/
        have hpass : ∀ q, j ≤ q → q < j + (i - j) → ∃ p, ops[q]? = some p ∧ lateL m ld vl q p = true := fun q h1 h2 => by
          rcases htl i oi (by omega) hoi q (by omega) with h3 | ⟨p, h3, h4, _⟩
          · have := h3 (fun q => l.getD q false = true) hS hall
            rw [hT q h1] at this; cases this
          · exact ⟨p, h3, h4⟩
        obtain ⟨s, hsH, h, hp, hF⟩ := virt (i - j) j s s' h hm (by have := (Array.getElem?_eq_some_iff.1 hoi).1; omega) hT hpass hp hF
        have hji : j + (i - j) = i := by omega
        rw [hji] at h hp hF
        rw [← hsH] at hW
        have him : m ≤ i := by omega
        have hT : ∀ q, i ≤ q → l.getD q false = false := fun q hq => hT q (by omega)
        /- what is still to come is free of it -/
        have hfree : ∀ (i' : Nat) (p' : Oper), i' < i → l.getD i' false = false → ops[i']? = some p' → freeE ops oi p' = true := fun i' p' h1 h2 h3 => by
          rcases htl i oi him hoi i' h1 with h4 | ⟨p, h4, _, h5⟩
          · have := h4 (fun q => l.getD q false = true) hS hall
            rw [this] at h2; cases h2
          · rw [h3] at h4; cases h4; exact h5
        have hcg : ∀ x ∈ oi.op.operands, evO s.L x = evO (maskL (Pnd ops i l) s.L) x := fun x hx => by
          cases x with
          | tmp t =>
            refine (mask_nth fun ⟨i', p', h1, h2, h3, h4⟩ => ?_).symm
            obtain ⟨d, g1, g2, _⟩ := free_spec (hfree i' p' h1 h2 h3)
            rw [h4] at g1; cases g1
            exact g2 t hx rfl
          | _ => rfl
        have hgd : ∀ j b p t, oi.guard = some (j, b) → ops[j]? = some p → p.dst = some t → nth .u s.L t = nth .u (maskL (Pnd ops i l) s.L) t := fun j b p t e1 e2 e3 => by
          refine (mask_nth fun ⟨i', p', h1, h2, h3, h4⟩ => ?_).symm
          obtain ⟨d, g1, _, g2, _⟩ := free_spec (hfree i' p' h1 h2 h3)
          rw [h4] at g1; cases g1
          exact g2 j b p t e1 e2 e3 rfl
        rw [dropC hoi] at h
        simp only [tailE] at h
        cases h1 : opE P cl yd ops oi s with
        | none => simp [h1] at h
        | some s1 =>
          simp only [h1] at h
          cases hld : ldsOk P ops s1 ld with
          | false => simp [hld] at h
          | true =>
          simp only [hld, cond_true] at h
          have hpar := opE_par (P := P) (cl := cl) (yd := yd) (H := s.H) oi hcg hgd
          have h1' : opE P cl yd ops oi ⟨s.L, s.H⟩ = some s1 := h1
          rw [h1'] at hpar
          cases h2 : opE P cl yd ops oi ⟨maskL (Pnd ops i l) s.L, s.H⟩ with
          | none => rw [h2] at hpar; exact hpar.elim
          | some s2 =>
            rw [h2] at hpar
            obtain ⟨tv, e1, e2, e3⟩ := hpar
            unfold wpOpIn
            simp only [hoi]
            refine opE_in hcl hyd h2 (hnd oi (by simpa using Array.mem_of_getElem? hoi)) hW hF.mask fun a' w' B' Y' Mo' g1 g2 g3 g4 => ?_
            rw [← e3] at g1
            rw [e2] at g2
            refine ih (i + 1) s1 s' h (by omega) (by omega) (by simpa using hl) (fun q hq => ?_) hS' (fun i' p k1 k2 k3 => ?_) g1 ⟨g2.size, by rw [e1, dst_len]; exact hF.len, g2.defers, fun t x hnp hx => ?_⟩ (hB.trans g3) (hr.trans g4) hk
            · rw [getD_set_ne false (by omega)]; exact hT q (by omega)
            · have hne : i ≠ i' := fun e => by
                subst e
                rw [getD_set_self hil] at k2; cases k2
              rw [getD_set_ne false hne] at k2
              obtain ⟨k4, v, k5, k6⟩ := hp i' p (by omega) k2 k3
              obtain ⟨d, f1, _, _, f4⟩ := free_spec (hfree i' p (by omega) k2 k3)
              rcases lateL_or k4 with hkk | ⟨hk1, hk2⟩
              case inr =>
                obtain ⟨d2, q1, q2⟩ := LateW.of_ld k3 hk1 hk2 hld
                exact ⟨k4, _, q2, fun d' hd' _ => by rw [q1] at hd'; cases hd'; rfl⟩
              have k5 : LateW P s1.H s.L p v := by
                rcases k5 with k5 | ⟨_, t, x, ho, _⟩
                · exact .inl k5
                · have := lateK_op hkk
                  rw [ho] at this
                  exact this.elim
              refine ⟨k4, v, k5.congr fun x hx => ?_, fun d' hd' hlt => ?_⟩
              · cases x with
                | tmp t =>
                  show nth .u s.L t = nth .u s1.L t
                  rw [e1, dst_nth_ne fun e => (f4 t e).2 t hx rfl]
                | _ => rfl
              · rw [f1] at hd'; cases hd'
                rw [e1, dst_len] at hlt
                rw [e1, dst_nth_ne fun e => (f4 d e).1 rfl]
                exact k6 d f1 hlt
            · have hR := g2.reps.getD t
              have : a'.tmps.toList.getD t undef = x := by simp [hx]
              rw [this] at hR
              rw [e1]
              by_cases e : oi.dst = some t
              · rcases Nat.lt_or_ge t s.L.length with ht | ht
                · rw [e, dst_nth ht]
                  rwa [e, dst_nth (by rw [mask_len]; exact ht)] at hR
                · rw [nth_eq, List.getD_eq_getElem?_getD, List.getElem?_eq_none (by rw [dst_len]; exact ht)]; exact .u
              · rw [dst_nth_ne e]
                have hmn : ¬ Pnd ops i l t := fun ⟨i', p', h1, h2, h3, h4⟩ => hnp ⟨i', p', by omega, (by rw [getD_set_ne false (by omega)]; exact h2), h3, h4⟩
                rwa [dst_nth_ne e, mask_nth hmn] at hR
    · refine done _ j s s' h hm hl hT (fun i hi => ?_) hW hF hB hr hk
      cases hc : l.getD i false with
      | true => rfl
      | false => exact absurd ⟨i, hi, hc⟩ hex
end
end Go.Ev
/- Programs read by an interpreter whose values are trees: a region that draws its order goes on az it was reckoned. By an AI agent; over any program. -/
namespace Go.Ev
open Go Go.Gv Go.RowKit
/-- What does not change within the region. -/
structure Dr where
  P : Program
  E : Nat → Prop
  w0 : World
  X : Hid
  F : List Nat
  n : Nat
  D : List Deferred
  ops : Array Oper
  H0 : List TO
  Hm : List TO
  L0 : List T
  rs : List (T × Option TO)
  B0 : Bm
  r0 : Rd
noncomputable def Dr.ks (R : Dr) : List (Option Nat) := ksE R.ops.toList R.rs R.L0
/-- The slots, where these have come up. -/
structure FrD (R : Dr) (l : Array Bool) (a : Act) (B : Bm) (r : Rd) : Prop where
  size : a.tmps.size = R.n
  defers : a.defers = R.D
  done : ∀ (i : Nat) (z : T × Option TO) (o : Oper) (d : Nat) (v : Value), R.rs[i]? = some z → R.ops[i]? = some o → o.dst = some d → l.getD i false = true → a.tmps[d]? = some v → Rep B r z.1 v
  rest : ∀ (t : Nat) (v : Value), (∀ (i : Nat) (o : Oper), i < R.rs.length → R.ops[i]? = some o → o.dst = some t → l.getD i false = false) → a.tmps[t]? = some v → Rep B r (nth .u R.L0 t) v
structure Inv (R : Dr) (l : Array Bool) (a : Act) (w : World) (B : Bm) (Y : Hid) (Mo : List (Nat × Obj)) : Prop where
  wd : Wd R.P R.E R.w0 R.X R.F (kilL l R.ks R.H0 ++ newsD l 0 R.rs) B w Y Mo
  fr : FrD R l a B (rd w Y)
  ble : BLe R.B0 B
  le : Le R.r0 (rd w Y)
  free : ∀ (i : Nat) (t : T) (ob : TO), R.rs[i]? = some (t, some ob) → l.getD i false = false → B (R.H0.length + pos R.rs i) = none
  head : ∀ i, R.rs.length ≤ i → l.getD i false = false
  lsz : l.size = R.ops.size
/-- The checks, and what the operations of the head answer. -/
structure Ok (R : Dr) (po : Po) (K : Nat) : Prop where
  spec : ∀ (i : Nat) (z : T × Option TO), R.rs[i]? = some z → ∃ o, R.ops.toList[i]? = some o ∧ headOp R.P po R.H0 R.Hm (R.Hm ++ newsE (R.rs.take i)) (latE R.ops.toList (R.rs.take i) R.L0) R.ops o = some z
  hd : headOk R.ops (R.ops.toList.take R.rs.length) (R.ops.toList.take R.rs.length) 0 = true
  tl : tailOk R.ops R.rs.length (ldsR R.ops R.rs.length) (vlR R.ops R.rs.length) (R.ops.toList.take R.rs.length) ((masksE R.ops.toList []).drop R.rs.length) (R.ops.toList.drop R.rs.length) R.rs.length = true
  eg : edgeOk R.ops.toList 0 = true
  len : R.rs.length ≤ R.ops.toList.length
  slots : R.L0.length = R.n
  po : ∀ f az tv nw, po f az = some (tv, nw) → KnP R.P K f az tv nw
  bd : R.H0.length + R.ops.size ≤ K
  nd : ∀ o ∈ R.ops.toList, noDef' o.op = true
  hml : R.Hm.length = R.H0.length
  hms : ∀ (q : Nat) (x : TO), R.Hm[q]? = some x → x ≠ .gone → R.H0[q]? = some x
  ksg : ∀ q, some q ∈ R.ks → nth .gone R.Hm q = .gone
  ks1 : ∀ (i j q : Nat), R.ks[i]? = some (some q) → R.ks[j]? = some (some q) → i = j
section
variable {R : Dr} {po : Po} {k : Nat} {l : Array Bool} {a : Act} {w : World} {B : Bm} {Y : Hid} {Mo : List (Nat × Obj)} {o : Oper} {i : Nat} {rr : Option Nat} {Q : Exit → Act → World → Prop}
theorem Ok.hget (hOk : Ok R po k) {i : Nat} {o : Oper} (hi : i < R.rs.length) (ho : R.ops[i]? = some o) : (R.ops.toList.take R.rs.length)[i]? = some o := by
  rw [List.getElem?_take, if_pos hi]; simpa using ho
/-- Each slot is written once. -/
theorem Ok.once (hOk : Ok R po k) {i j : Nat} {o o' : Oper} {d : Nat} (hi : i < R.rs.length) (hj : j < R.rs.length) (ho : R.ops[i]? = some o) (ho' : R.ops[j]? = some o') (hd : o.dst = some d) (hd' : o'.dst = some d) : i = j := by
  rcases Nat.lt_trichotomy i j with h | h | h
  · exact absurd hd' ((head_ok_spec hOk.hd i o (hOk.hget hi ho)).2.2 d hd j o' h (hOk.hget hj ho'))
  · exact h
  · exact absurd hd ((head_ok_spec hOk.hd j o' (hOk.hget hj ho')).2.2 d hd' i o h (hOk.hget hi ho))
/-- A slot that operation i looks at holds what was reckoned. -/
theorem slot_ok (hOk : Ok R po k) (hI : Inv R l a w B Y Mo) (hi : i < R.rs.length) (ho : R.ops[i]? = some o) (hr : ∀ e ∈ o.after, Region.binds .any e = true → l.getD e.on false = true) {t : Nat} (hs : slotOk (R.ops.toList.take R.rs.length) o i t = true) :
    Rep B (rd w Y) (nth .u (latE R.ops.toList (R.rs.take i) R.L0) t) (a.tmps.getD t undef) := by
  cases hv : a.tmps[t]? with
  | none =>
    have ht : R.n ≤ t := by
      rcases Nat.lt_or_ge t R.n with h | h
      · rw [← hI.fr.size] at h; simp [h] at hv
      · exact h
    have : nth .u (latE R.ops.toList (R.rs.take i) R.L0) t = .u := by
      rw [nth_eq, List.getD_eq_getElem?_getD, List.getElem?_eq_none (by rw [lat_len, hOk.slots]; exact ht)]; rfl
    rw [this]; exact .u
  | some v =>
    have hget : a.tmps.getD t undef = v := by simp [hv]
    rw [hget]
    unfold slotOk at hs
    cases hw : wrt t (R.ops.toList.take R.rs.length) 0 with
    | none =>
      have hn := wrt_none hw
      have h0 : ∀ (j : Nat) (o' : Oper), j < R.rs.length → R.ops[j]? = some o' → o'.dst ≠ some t := fun j o' hj ho' => hn j o' (hOk.hget hj ho')
      rw [lat_none _ _ _ _ (fun j o' hj ho' => h0 j o' (by simp at hj; omega) (by simpa using ho'))]
      exact hI.fr.rest t v (fun j o' hj ho' hd => absurd hd (h0 j o' hj ho')) hv
    | some j =>
      simp only [hw, Bool.and_eq_true, Nat.blt_eq] at hs
      obtain ⟨j', o', e1, h1, h2⟩ := wrt_some hw
      obtain rfl : j = j' := by omega
      have hj : j < R.rs.length := by omega
      have ho' : R.ops[j]? = some o' := by
        rw [List.getElem?_take, if_pos hj] at h1
        simpa using h1
      obtain ⟨e, he, hb, hon⟩ := waitsE_spec hs.2
      have hdone : l.getD j false = true := by rw [← hon]; exact hr e he hb
      obtain ⟨z, hz⟩ : ∃ z, R.rs[j]? = some z := ⟨R.rs[j], by simp [hj]⟩
      have ht : t < R.L0.length := by
        have := (Array.getElem?_eq_some_iff.1 hv).1
        rw [hI.fr.size] at this
        rw [hOk.slots]; exact this
      rw [lat_one _ _ _ t j o' z ht (by simpa using ho') (by rw [List.getElem?_take, if_pos hs.1]; exact hz) h2 fun q o2 hq hl ho2 hd2 => ?_]
      · exact hI.fr.done j z o' t v hz ho' h2 hdone hv
      · exact hq (hOk.once (by simp at hl; omega) hj (by simpa using ho2) ho' hd2 h2)
theorem opnd_ok (hOk : Ok R po k) (hI : Inv R l a w B Y Mo) (hi : i < R.rs.length) (ho : R.ops[i]? = some o) (hr : ∀ e ∈ o.after, Region.binds .any e = true → l.getD e.on false = true) (x : Operand) (hx : x ∈ o.op.operands) :
    Rep B (rd w Y) (evO (latE R.ops.toList (R.rs.take i) R.L0) x) (a.eval x) := by
  have h := (head_ok_spec hOk.hd i o (hOk.hget hi ho)).1 x (by simpa using hx)
  rw [Nat.zero_add] at h
  cases x with
  | tmp t => exact slot_ok hOk hI hi ho hr h
  | const v => exact ofC_rep v
  | global g => exact .u
  | func f => exact Rep.mkFn (vs := []) trivial
theorem want_ok2 {ops : Array Oper} {L : List T} {r : Rd} (hg : ∀ j b p t, o.guard = some (j, b) → ops[j]? = some p → p.dst = some t → Rep B r (nth .u L t) (a.tmps.getD t undef)) {q : Bool} (h : wantT ops L o = some q) : Region.wanted o (yielded ops a.tmps) = q := by
  unfold wantT at h
  unfold Region.wanted
  cases hgd : o.guard with
  | none => simp only [hgd, Option.some.injEq] at h; simpa using h
  | some jb =>
    obtain ⟨j, b⟩ := jb
    simp only [hgd] at h
    cases hj : ops[j]? with
    | none => simp [hj] at h
    | some p =>
      simp only [hj] at h
      cases hd : p.dst with
      | none => simp [hd] at h
      | some t =>
        simp only [hd] at h
        have hR := hg j b p t hgd hj hd
        split at h
        · rename_i c e
          rw [e] at hR
          obtain ⟨hv, _⟩ := hR.vI
          cases ht : a.tmps[t]? with
          | none => simp [ht] at hv; cases hv
          | some u =>
            have : u = .bool c := by simpa [ht] using hv
            subst this
            simp only [yielded, hj, hd, Option.bind_some, ht]
            cases h
            cases c <;> cases b <;> rfl
        · cases h
        · rename_i e
          rw [e] at hR
          obtain ⟨vs, hv, hl⟩ := hR.tuI
          cases vs with
          | cons x y => exact hl.elim
          | nil =>
            cases h
            cases ht : a.tmps[t]? with
            | none => simp only [yielded, hj, hd, Option.bind_some, ht]; cases b <;> rfl
            | some u =>
              have : u = .tuple #[] := by simpa [ht] using hv
              subst this
              simp only [yielded, hj, hd, Option.bind_some, ht]
              cases b <;> rfl
        · cases h
theorem nth_get' {l : List TO} {i : Nat} {x : TO} (h : nth .gone l i = x) (hx : x ≠ .gone) : l[i]? = some x := by
  rw [nth_eq, List.getD_eq_getElem?_getD] at h
  cases hi : l[i]? with
  | none => rw [hi] at h; exact absurd h.symm hx
  | some y => rw [hi] at h; simp at h; rw [h]
/-- The slots behind operation i. -/
theorem FrD.step (hOk : Ok R po k) {r : Rd} (h : FrD R l a B r) (hi : i < R.rs.length) (ho : R.ops[i]? = some o) {z : T × Option TO} (hz : R.rs[i]? = some z) {v : Value} (hv : Rep B r z.1 v) (hls : i < l.size) : FrD R (l.setIfInBounds i true) (a.put o.dst v) B r := by
  have htm : ∀ t, (a.put o.dst v).tmps[t]? = if o.dst = some t ∧ t < a.tmps.size then some v else a.tmps[t]? := fun t => by
    cases hd : o.dst with
    | none => simp [Act.put]
    | some d =>
      simp only [Act.put, Option.some.injEq]
      by_cases e : d = t
      · subst e
        by_cases hlt : d < a.tmps.size
        · simp [hlt]
        · simp [hlt]
      · rw [Array.getElem?_setIfInBounds_ne e, if_neg (fun h => e h.1)]
  refine ⟨?_, ?_, fun j z' o' d u hz' ho' hd' hl hu => ?_, fun t u hn hu => ?_⟩
  · cases hd : o.dst <;> simp [Act.put, h.size]
  · cases hd : o.dst <;> simp [Act.put, h.defers]
  · rw [htm] at hu
    by_cases e : i = j
    · subst e
      rw [ho] at ho'; cases ho'
      rw [hz] at hz'; cases hz'
      split at hu
      · cases hu; exact hv
      · rename_i hn
        have := (Array.getElem?_eq_some_iff.1 hu).1
        exact absurd ⟨hd', this⟩ hn
    · rw [getD_set_ne false e] at hl
      split at hu
      · rename_i hc
        exact absurd (hOk.once hi (List.getElem?_eq_some_iff.1 hz').1 ho ho' hc.1 hd') e
      · exact h.done j z' o' d u hz' ho' hd' hl hu
  · rw [htm] at hu
    split at hu
    · rename_i hc
      have := hn i o hi ho hc.1
      rw [getD_set_self hls] at this; cases this
    · refine h.rest t u (fun j o' hj ho' hd => ?_) hu
      have := hn j o' hj ho' hd
      by_cases e : i = j
      · subst e; rw [getD_set_self hls] at this; cases this
      · rwa [getD_set_ne false e] at this
theorem FrD.mono {r r' : Rd} {B' : Bm} (h : FrD R l a B r) (hB : BLe B B') (hr : Le r r') : FrD R l a B' r' :=
  ⟨h.size, h.defers, fun i z o d v h1 h2 h3 h4 h5 => (h.done i z o d v h1 h2 h3 h4 h5).mono hB hr, fun t v h1 h2 => (h.rest t v h1 h2).mono hB hr⟩
/-- Nothing new. -/
theorem Inv.val (hOk : Ok R po k) (hI : Inv R l a w B Y Mo) {w' : World} (hw : Upd E0 w w') (hi : i < R.rs.length) (ho : R.ops[i]? = some o) {t : T} (hz : R.rs[i]? = some (t, none)) {v : Value} (hv : Rep B (rd w' Y) t v) (hls : i < l.size) :
    Inv R (l.setIfInBounds i true) (a.put o.dst v) w' B Y Mo := by
  have e := newsD_same l R.rs 0 i t hz
  rw [Nat.zero_add] at e
  have ek : kilL (l.setIfInBounds i true) R.ks R.H0 = kilL l R.ks R.H0 := kilL_same fun q hq => by
    have := ks_get R.ops.toList R.rs R.L0 i o _ (by simpa using ho) hz
    rw [show ksE R.ops.toList R.rs R.L0 = R.ks from rfl, hq] at this; cases this
  refine ⟨by rw [e, ek]; exact hI.wd.call hw, FrD.step hOk (hI.fr.mono (BLe.refl B) (hw.le Y)) hi ho hz hv hls, hI.ble, hI.le.trans (hw.le Y), fun j t' ob hj hl => ?_, fun j hj => ?_, by simpa using hI.lsz⟩
  · by_cases e : i = j
    · subst e; rw [hz] at hj; cases hj
    · rw [getD_set_ne false e] at hl; exact hI.free j t' ob hj hl
  · rw [getD_set_ne false (by omega)]; exact hI.head j hj
/-- What the masked objects say the real ones say. -/
theorem Ok.sub0 (hOk : Ok R po k) {q : Nat} {x : TO} (h : R.Hm[q]? = some x) (hx : x ≠ .gone) : (kilL l R.ks R.H0)[q]? = some x := by
  rw [kilL_get, hOk.hms q x h hx]
  have : killed l R.ks q = false := by
    cases hk : killed l R.ks q with
    | false => rfl
    | true =>
      obtain ⟨i, h1, _⟩ := killed_iff.1 hk
      have h2 := hOk.ksg q (List.mem_of_getElem? h1)
      rw [nth_eq, List.getD_eq_getElem?_getD, h] at h2
      exact absurd h2 hx
  simp [this]
theorem sub_all (hOk : Ok R po k) (hI : Inv R l a w B Y Mo) {q : Nat} {x : TO} (hB : B q ≠ none) (h : (R.Hm ++ newsE (R.rs.take i))[q]? = some x) (hx : x ≠ .gone) : (kilL l R.ks R.H0 ++ newsD l 0 R.rs)[q]? = some x := by
  rcases Nat.lt_or_ge q R.H0.length with hlt | hge
  · rw [List.getElem?_append_left (by rw [hOk.hml]; exact hlt)] at h
    rw [List.getElem?_append_left (by rw [kilL_len]; exact hlt)]
    exact hOk.sub0 h hx
  · rw [List.getElem?_append_right (by rw [hOk.hml]; exact hge), hOk.hml] at h
    rw [List.getElem?_append_right (by rw [kilL_len]; exact hge), kilL_len]
    obtain ⟨j, t', h1, h2, h3⟩ := newsE_pos _ _ _ _ h
    have hlj : l.getD j false = true := by
      cases hlj : l.getD j false with
      | true => rfl
      | false => exact absurd (by rw [← hI.free j t' x h2 hlj, h3]; congr 1; omega) hB
    have := newsD_get l R.rs 0 j t' x h2
    rw [Nat.zero_add, hlj, h3] at this
    rw [this]; rfl
theorem nth_sub {H K : List TO} {q : Nat} {x : TO} (hs : ∀ x, H[q]? = some x → x ≠ .gone → K[q]? = some x) (h : nth .gone H q = x) (hx : x ≠ .gone) : nth .gone K q = x := by
  have := hs x (nth_get' h hx) hx
  rw [nth_eq, List.getD_eq_getElem?_getD, this]; rfl
theorem oRow_sub {H K : List TO} {q : Nat} {cs : List T} (hs : ∀ x, H[q]? = some x → x ≠ .gone → K[q]? = some x) (h : oRow (nth .gone H q) = some cs) : oRow (nth .gone K q) = some cs := by
  cases hx : nth .gone H q with
  | gone => rw [hx] at h; cases h
  | _ => rw [hx] at h; rw [nth_sub hs hx (by simp)]; exact h
theorem from_sub {H K : List TO} {t : T} {cs : List T} (hs : ∀ (q : Nat) (x : TO), H[q]? = some x → x ≠ .gone → K[q]? = some x) (h : from_ H t = some cs) : from_ K t = some cs := by
  cases t <;> simp only [from_] at h ⊢ <;> try exact h
  rename_i i o
  cases hr : oRow (nth .gone H i) with
  | none => simp [hr] at h
  | some x => rw [oRow_sub (fun x => hs i x) hr]; rw [hr] at h; exact h
theorem cells_sub {H K : List TO} {s : Nat} {t : T} {v : Value} {cs : List T} {r : Rd} (hR : Rep B r t v) (hs : ∀ (q : Nat) (x : TO), B q ≠ none → H[q]? = some x → x ≠ .gone → K[q]? = some x) (h : cellsS H s t = some cs) : cellsS K s t = some cs := by
  cases t with
  | os i o n c =>
    obtain ⟨b, C, _, hB⟩ := hR.osI
    simp only [cellsS] at h ⊢
    cases hr : oRow (nth .gone H i) with
    | none => simp [hr] at h
    | some x => rw [oRow_sub (fun x => hs i x (by rw [hB]; simp)) hr]; rw [hr] at h; exact h
  | og i o n =>
    obtain ⟨b, C, c, _, hB, _⟩ := hR.ogI
    simp only [cellsS] at h ⊢
    cases hr : oRow (nth .gone H i) with
    | none => simp [hr] at h
    | some x => rw [oRow_sub (fun x => hs i x (by rw [hB]; simp)) hr]; rw [hr] at h; exact h
  | v x =>
    unfold cellsS at h ⊢
    split at h <;> first | exact h | (rename_i e; cases e; done) | skip
    all_goals first | (rename_i e; cases e; simp) | cases h
  | _ => exact h
open Classical in
/-- An operation of the head, wherever it comes up. -/
theorem head_step (hOk : Ok R po k) (hI : Inv R l a w B Y Mo) (hi : i < R.rs.length) (hr : i ∈ Region.ready .any R.ops l) {K : Act → World → Prop}
    (hk : ∀ a' w' B' Y' Mo', Inv R (l.setIfInBounds i true) a' w' B' Y' Mo' → K a' w') : wpOpIn (FF rr) 0 R.P R.ops Q i K a w := by
  obtain ⟨hun, o, ho, hall⟩ := mem_ready.1 hr
  obtain ⟨z, hz⟩ : ∃ z, R.rs[i]? = some z := ⟨R.rs[i], by simp [hi]⟩
  obtain ⟨o', ho', hop⟩ := hOk.spec i z hz
  have hls : i < l.size := by
    rw [hI.lsz]
    exact (Array.getElem?_eq_some_iff.1 ho).1
  have hunl : l.getD i false = false := by simpa [hls] using hun
  obtain rfl : o = o' := by
    have h1 : R.ops.toList[i]? = some o := by simpa using ho
    rw [h1] at ho'; exact Option.some.inj ho'
  have hopn := opnd_ok hOk hI hi ho hall
  have hgr : ∀ j b p t, o.guard = some (j, b) → R.ops[j]? = some p → p.dst = some t → Rep B (rd w Y) (nth .u (latE R.ops.toList (R.rs.take i) R.L0) t) (a.tmps.getD t undef) := fun j b p t h1 h2 h3 => by
    have := (head_ok_spec hOk.hd i o (hOk.hget hi ho)).2.1
    rw [Nat.zero_add] at this
    unfold grdOk at this
    simp only [h1, h2, h3] at this
    exact slot_ok hOk hI hi ho hall this
  unfold wpOpIn
  simp only [ho]
  unfold headOp at hop
  cases hw : wantT R.ops (latE R.ops.toList (R.rs.take i) R.L0) o with
  | none => simp [hw] at hop
  | some q =>
    rw [want_ok2 hgr hw]
    have hnd : noDef o.op = true := by rw [← noDef_eq]; exact hOk.nd o (by simpa using Array.mem_of_getElem? ho)
    cases q with
    | false =>
      simp only [hw, Option.some.injEq] at hop
      subst hop
      simp only [Bool.false_eq_true, if_false]
      exact ⟨fun f _ => FF_fn rr f, hk _ _ _ _ _ (hI.val hOk (Upd.refl _ _) hi ho hz (Rep.mkTu (vs := []) trivial) hls)⟩
    | true =>
      simp only [hw] at hop
      simp only [if_true]
      refine opIn hnd ?_
      generalize hL : latE R.ops.toList (R.rs.take i) R.L0 = L at hop hopn
      have hρ : ∀ x, Rep B (rd w Y) ((fun x => if x ∈ o.op.operands then evO L x else T.u) x) (a.eval x) := fun x => by
        by_cases hx : x ∈ o.op.operands
        · simp only [hx, if_true]; exact hopn x hx
        · simp only [hx, if_false]; exact .u
      have hcg : ∀ x ∈ o.op.operands, evO L x = (fun x => if x ∈ o.op.operands then evO L x else T.u) x := fun x hx => by simp only [hx, if_true]
      have hsub : ∀ (q : Nat) (x : TO), R.Hm[q]? = some x → x ≠ .gone → (kilL l R.ks R.H0 ++ newsD l 0 R.rs)[q]? = some x := fun q x h1 h2 => by
        have hq : q < R.H0.length := by rw [← hOk.hml]; exact (List.getElem?_eq_some_iff.1 h1).1
        rw [List.getElem?_append_left (by rw [kilL_len]; exact hq)]
        exact hOk.sub0 h1 h2
      have hH : HpOk B (rd w Y) w R.Hm := ⟨fun t v n cs us h1 h2 h3 => hI.wd.from h1 (from_sub hsub h2) h3, fun q b C ml hB hn => hI.wd.hp.map q b C ml hB (nth_sub (hsub q) hn (by simp))⟩
      unfold headV at hop
      have hid : ln (R.Hm ++ newsE (R.rs.take i)) = R.H0.length + pos R.rs i := by rw [ln_eq]; simp [pos, hOk.hml]
      have hks := ks_get R.ops.toList R.rs R.L0 i o z (by simpa using ho) hz
      rw [show ksE R.ops.toList R.rs R.L0 = R.ks from rfl, hL] at hks
      have hgoneAt : ∀ (t : T) (ob : TO), z = (t, some ob) → (kilL l R.ks R.H0 ++ newsD l 0 R.rs)[R.H0.length + pos R.rs i]? = some .gone := fun t ob e => by
        subst e
        rw [List.getElem?_append_right (by rw [kilL_len]; exact Nat.le_add_right _ _), kilL_len, Nat.add_sub_cancel_left, newsD_get l R.rs 0 i t ob hz, Nat.zero_add, hunl]; rfl
      have hfree : ∀ (t : T) (ob : TO) (p : Nat × Nat), z = (t, some ob) → ∀ (j : Nat) (t' : T) (ob' : TO), R.rs[j]? = some (t', some ob') → (l.setIfInBounds i true).getD j false = false → setB B (R.H0.length + pos R.rs i) p (R.H0.length + pos R.rs j) = none := fun t ob p e j t' ob' hj hlj => by
        subst e
        have hji : i ≠ j := fun e => by subst e; rw [getD_set_self hls] at hlj; cases hlj
        rw [getD_set_ne false hji] at hlj
        have hne : R.H0.length + pos R.rs j ≠ R.H0.length + pos R.rs i := fun e => by
          have e' : pos R.rs j = pos R.rs i := by omega
          rcases Nat.lt_trichotomy i j with h | h | h
          · have := pos_lt R.rs i j t ob hz h; omega
          · exact hji h
          · have := pos_lt R.rs j i t' ob' hj h; omega
        rw [setB_ne _ _ hne]
        exact hI.free j t' ob' hj hlj
      /- a new object, and perhaps a row that goes -/
      have app : ∀ (kq : Option Nat), (z.2 ≠ none → R.ks[i]? = some kq) → appO R.P R.H0 (R.Hm ++ newsE (R.rs.take i)) kq L o.op = some z → o.wp R.P a w K Q := fun kq hkq hap => by
        generalize hopq : o.op = op at hap
        unfold appO at hap
        split at hap
        · rename_i c
          split at hap
          · rename_i x y t t' e1 e2 e3
            cases htt : Nat.beq t t' with
            | false => simp [htt] at hap
            | true =>
              obtain rfl := beqN htt
              simp only [htt, cond_true] at hap
              have hargs : c.args = #[x, y] := Array.ext' (by simpa using e2)
              have hts : c.argTypes = #[t, t] := Array.ext' (by simpa using e3)
              have hmem : ∀ u, u = x ∨ u = y → u ∈ o.op.operands := fun u hu => by
                rw [hopq]
                simp only [Op.operands, Call.operands, hargs, Array.mem_append]
                right
                rcases hu with rfl | rfl <;> simp
              have hx := hopn x (hmem x (.inl rfl))
              have hy := hopn y (hmem y (.inr rfl))
              unfold appB at hap
              cases he : elT R.P t with
              | none => simp [he] at hap
              | some e =>
                have ht := elT_spec he
                cases hd : ldT R.P e with
                | none => simp [he, hd] at hap
                | some gs =>
                  obtain ⟨g, s⟩ := gs
                  simp only [he, hd] at hap
                  split at hap
                  · rename_i us nx vs ny c1 c2 c4
                    cases hcond : !Nat.beq ny 0 && (appOk R.P e s (nx + ny) && ones vs) with
                    | false => simp [hcond] at hap
                    | true =>
                      simp only [hcond, cond_true, Option.some.injEq] at hap
                      simp only [Bool.and_eq_true, Bool.not_eq_true'] at hcond
                      obtain ⟨hny0, hok1, hok2⟩ := hcond
                      have hny : 0 < ny := by
                        rcases Nat.eq_zero_or_pos ny with h0 | h0
                        · subst h0; simp at hny0
                        · exact h0
                      have hsubB : ∀ (q : Nat) (x : TO), B q ≠ none → (R.Hm ++ newsE (R.rs.take i))[q]? = some x → x ≠ .gone → (kilL l R.ks R.H0 ++ newsD l 0 R.rs)[q]? = some x := fun q x h1 h2 h3 => sub_all hOk hI h1 h2 h3
                      have c2' := cells_sub hy hsubB c2
                      have hzz := hap.symm
                      subst hzz
                      have hkq := hkq (by simp)
                      have hkill : ∀ q, kq = some q → killed l R.ks q = false := fun q e => by
                        subst e
                        cases hk' : killed l R.ks q with
                        | false => rfl
                        | true =>
                          obtain ⟨j, h1, h2⟩ := killed_iff.1 hk'
                          obtain rfl := hOk.ks1 i j q hkq h1
                          rw [hunl] at h2; cases h2
                      /- the base -/
                      have hbase : AppBase (kilL l R.ks R.H0 ++ newsD l 0 R.rs) e s nx us (evO L x) ∧ cellsS (kilL l R.ks R.H0 ++ newsD l 0 R.rs) s (evO L x) = some us ∧ lenT (evO L x) = some nx ∧
                          (∀ j o' m, evO L x = .og j o' m → kq = some j ∧ ∃ y, (kilL l R.ks R.H0 ++ newsD l 0 R.rs)[j]? = some y ∧ live y = true ∧ j < R.H0.length) ∧ (kq ≠ none → ∃ j o' m, evO L x = .og j o' m) := by
                        unfold baseB at c1
                        cases kq with
                        | none =>
                          simp only at c1
                          split at c1
                          · rename_i e4
                            cases c1
                            rw [e4]
                            exact ⟨.inl ⟨_, rfl⟩, rfl, rfl, fun j o' m h => (by cases h), fun h => absurd rfl h⟩
                          · rename_i i' o' m c' e4
                            cases hb : Nat.beq m c' with
                            | false => simp [hb] at c1
                            | true =>
                              obtain rfl := beqN hb
                              simp only [hb, cond_true] at c1
                              cases hcl : cellsS (R.Hm ++ newsE (R.rs.take i)) s (evO L x) with
                              | none => simp [hcl] at c1
                              | some u =>
                                simp only [hcl, Option.some.injEq, Prod.mk.injEq] at c1
                                obtain ⟨rfl, rfl⟩ := c1
                                have := cells_sub hx hsubB hcl
                                exact ⟨.inr (.inr (.inl ⟨_, _, _, e4⟩)), this, by rw [e4]; rfl, fun j o' m h => (by rw [e4] at h; cases h), fun h => absurd rfl h⟩
                          · rename_i cs m e4
                            cases hcl : cellsS (R.Hm ++ newsE (R.rs.take i)) s (evO L x) with
                            | none => simp [hcl] at c1
                            | some u =>
                              simp only [hcl, Option.some.injEq, Prod.mk.injEq] at c1
                              obtain ⟨rfl, rfl⟩ := c1
                              have := cells_sub hx hsubB hcl
                              exact ⟨.inr (.inl ⟨_, _, e4⟩), this, by rw [e4]; rfl, fun j o' m h => (by rw [e4] at h; cases h), fun h => absurd rfl h⟩
                          · cases c1
                        | some q =>
                          simp only at c1
                          split at c1
                          · rename_i j o' m e4
                            cases hb : Nat.beq j q && Nat.beq o' 0 with
                            | false => simp [hb] at c1
                            | true =>
                              simp only [hb, cond_true] at c1
                              simp only [Bool.and_eq_true] at hb
                              obtain rfl := beqN hb.1
                              obtain rfl := beqN hb.2
                              split at c1
                              · rename_i cs e' hn
                                cases hb2 : Nat.beq (ln cs) (m * s) && Nat.beq e e' with
                                | false => simp [hb2] at c1
                                | true =>
                                  simp only [hb2, cond_true, Option.some.injEq, Prod.mk.injEq] at c1
                                  obtain ⟨rfl, rfl⟩ := c1
                                  simp only [Bool.and_eq_true, ln_eq] at hb2
                                  obtain rfl := beqN hb2.2
                                  have hcs := beqN hb2.1
                                  have hg := nth_get' hn (by simp)
                                  have hjl : j < R.H0.length := (List.getElem?_eq_some_iff.1 hg).1
                                  have hg2 : (kilL l R.ks R.H0 ++ newsD l 0 R.rs)[j]? = some (.gro cs e) := by
                                    rw [List.getElem?_append_left (by rw [kilL_len]; exact hjl), kilL_get, hg, hkill j rfl]; rfl
                                  refine ⟨.inr (.inr (.inr ⟨j, e4, hg2, hcs⟩)), ?_, by rw [e4]; rfl, fun j' o' m' h => ?_, fun _ => ⟨_, _, _, e4⟩⟩
                                  · rw [e4]
                                    simp only [cellsS, nth_eq, List.getD_eq_getElem?_getD, hg2, Option.getD_some, oRow]
                                    have : takeT (m * s) (dropT cs 0) = some cs := by
                                      rw [drop_eq, List.drop_zero, ← hcs]
                                      exact takeT_all cs
                                    exact this
                                  · rw [e4] at h; cases h
                                    exact ⟨rfl, _, hg2, rfl, hjl⟩
                              · cases c1
                          · cases c1
                      obtain ⟨hb1, c1', c3, hb4, hb5⟩ := hbase
                      obtain ⟨C, hC1, hC2, hA⟩ := app_core (ty := o.type) hI.wd hx hy ht hd c1' c2' c3 c4 hny hok1 hok2 hb1
                      have hgo := hgoneAt _ _ rfl
                      have hBi := hI.free i _ _ hz hunl
                      have hlist : ∀ (x0 : TO), (match kq with | some q => ((kilL l R.ks R.H0 ++ newsD l 0 R.rs).set q .gone).set (R.H0.length + pos R.rs i) (.gro (us ++ vs) e) | none => (kilL l R.ks R.H0 ++ newsD l 0 R.rs).set (R.H0.length + pos R.rs i) (.gro (us ++ vs) e)) = kilL (l.setIfInBounds i true) R.ks R.H0 ++ newsD (l.setIfInBounds i true) 0 R.rs := fun _ => by
                        have e1 := newsD_set l R.rs 0 i _ _ hz (by omega)
                        rw [Nat.zero_add] at e1
                        cases kq with
                        | none =>
                          rw [e1, kilL_same (fun q hq => by rw [hkq] at hq; cases hq)]
                          show List.set _ _ _ = _
                          rw [List.set_append_right _ _ (by rw [kilL_len]; exact Nat.le_add_right _ _), kilL_len, Nat.add_sub_cancel_left]
                        | some q =>
                          have hq : q < (kilL l R.ks R.H0).length := by
                            obtain ⟨j, o', m, e4⟩ := hb5 (by simp)
                            obtain ⟨e5, _, _, _, h⟩ := hb4 _ _ _ e4
                            cases e5
                            rw [kilL_len]; exact h
                          rw [e1, kilL_set hkq hls]
                          show List.set (List.set _ _ _) _ _ = _
                          rw [List.set_append_left _ _ hq, List.set_append_right _ _ (by rw [List.length_set, kilL_len]; exact Nat.le_add_right _ _), List.length_set, kilL_len, Nat.add_sub_cancel_left]
                      unfold Oper.wp
                      rcases hA with ⟨obj, hrun, hRO⟩ | ⟨j, o', n', b, cur, c2'', q, ex, hB, hq, hrun, hS, hle, hRO⟩
                      · rw [exec_app hopq e1 hargs hts hrun]
                        obtain ⟨hW', hBl⟩ := (hI.wd.call (Upd.drew w)).fill (C := C) hgo hBi rfl hRO rfl
                        have hle := ((Upd.drew w).le Y).trans (Le.hide_new (w := w.drew) (Y := Y) obj)
                        refine hk _ _ (setB B (R.H0.length + pos R.rs i) (w.drew.heap.size, C)) _ ((w.drew.heap.size, obj) :: Mo) ⟨?_, FrD.step hOk (hI.fr.mono hBl hle) hi ho hz ?_ hls, hI.ble.trans hBl, hI.le.trans hle, hfree _ _ _ rfl, fun j hj => ?_, by simpa using hI.lsz⟩
                        · rw [← hlist .gone]
                          cases kq with
                          | none => exact hW'
                          | some q =>
                            have hne : q ≠ R.H0.length + pos R.rs i := by
                              obtain ⟨j, o', m, e4⟩ := hb5 (by simp)
                              obtain ⟨e5, _, _, _, h⟩ := hb4 _ _ _ e4
                              cases e5
                              omega
                            have := hW'.gone q
                            rwa [List.set_comm _ _ (Ne.symm hne)] at this
                        · rw [hid]
                          exact .og (setB_same _ _ _) hC1 (fun _ => rfl) hC2
                        · rw [getD_set_ne false (by omega)]; exact hI.head j hj
                      · obtain ⟨rfl, x0, hj, hlx, hjl⟩ := hb4 _ _ _ ex
                        rw [exec_app hopq e1 hargs hts hrun]
                        have hW2 := hI.wd.set hj hlx hB hq hS hle (fun cs e => by cases e) (fun _ => hRO)
                        have hjl2 : j < (kilL l R.ks R.H0 ++ newsD l 0 R.rs).length := (List.getElem?_eq_some_iff.1 hj).1
                        have hne : j ≠ R.H0.length + pos R.rs i := by omega
                        obtain ⟨hW3, hB3⟩ := hW2.moveTo (i := j) (j := R.H0.length + pos R.rs i) (x := .gro (us ++ vs) e) (by rw [List.getElem?_set_self hjl2]) rfl hB (by rw [List.getElem?_set_ne hne]; exact hgo) hBi
                        rw [List.set_set] at hW3
                        refine hk _ _ (setB B (R.H0.length + pos R.rs i) (b, C)) _ (Mo.set q (b, .cells c2'' e (0, 0))) ⟨?_, FrD.step hOk (hI.fr.mono hB3 hle) hi ho hz ?_ hls, hI.ble.trans hB3, hI.le.trans hle, hfree _ _ _ rfl, fun j hj => ?_, by simpa using hI.lsz⟩
                        · rw [← hlist .gone]; exact hW3
                        · rw [hid]
                          exact .og (setB_same _ _ _) hC1 (fun _ => rfl) hC2
                        · rw [getD_set_ne false (by omega)]; exact hI.head j hj
                  · cases hap
          · cases hap
        · cases hap
      cases hau : autoK L o.op with
      | some q =>
        simp only [hau] at hop
        exact app (some q) (fun hne => by
          rw [hks, hau]
          cases hz2 : z.2 with
          | none => exact absurd hz2 hne
          | some _ => rfl) hop
      | none =>
      simp only [hau] at hop
      cases hp : plop R.P R.Hm (ln (R.Hm ++ newsE (R.rs.take i))) (evO L) o.op with
      | some y =>
        simp only [hp, Option.some.injEq] at hop
        subst hop
        rw [plop_congr o.op hcg] at hp
        have hA := plop_ok hH hρ hp
        obtain ⟨t, ob⟩ := y
        unfold Oper.wp
        cases ob with
        | none =>
          obtain ⟨v, hrun, hR⟩ := hA
          rw [hrun]
          exact hk _ _ _ _ _ (hI.val hOk (Upd.refl _ _) hi ho hz hR hls)
        | some ob =>
          obtain ⟨C, obj, vf, hrun, hl, hR, hv⟩ := hA
          rw [hrun]
          rw [hid] at hv
          obtain ⟨hW', hB⟩ := hI.wd.fill (hgoneAt t ob rfl) (hI.free i t ob hz hunl) hl hR rfl
          have hle := Le.hide_new (w := w) (Y := Y) obj
          refine hk _ _ _ _ ((w.heap.size, obj) :: Mo) ⟨?_, FrD.step hOk (hI.fr.mono hB hle) hi ho hz ((hv _).mono (BLe.refl _) hle) hls, hI.ble.trans hB, hI.le.trans hle, hfree t ob _ rfl, fun j hj => ?_, by simpa using hI.lsz⟩
          · have e := newsD_set l R.rs 0 i t ob hz (by omega)
            rw [Nat.zero_add] at e
            rw [e, kilL_same (fun q hq => by rw [hks, hau] at hq; cases hq)]
            rw [List.set_append_right _ _ (by rw [kilL_len]; exact Nat.le_add_right _ _), kilL_len, Nat.add_sub_cancel_left] at hW'
            exact hW'
          · rw [getD_set_ne false (by omega)]; exact hI.head j hj
      | none =>
        simp only [hp] at hop
        cases hc : headC R.P po (R.Hm ++ newsE (R.rs.take i)) L o.op with
        | some t =>
          simp only [hc, Option.some.injEq] at hop
          subst hop
          generalize hopq : o.op = op at hc
          unfold headC at hc
          split at hc
          · rename_i c
            split at hc
            · rename_i fx e1
              split at hc
              · rename_i f cs e2
                cases hen : enters R.P f with
                | false => simp [hen] at hc
                | true =>
                  simp only [hen, cond_true] at hc
                  have hmem : ∀ x, x = fx ∨ x ∈ c.args.toList → x ∈ o.op.operands := fun x hx => by
                    rw [hopq]
                    simp only [Op.operands, Call.operands, e1, Array.mem_append]
                    rcases hx with rfl | hx
                    · left; simp
                    · right; simpa using hx
                  have hfx := hopn fx (hmem fx (.inl rfl))
                  rw [e2] at hfx
                  obtain ⟨caps, hv, hcs⟩ := hfx.fnI
                  have hargs : Reps B (rd w Y) (c.args.toList.map (evO L)) (c.args.toList.map a.eval) := by
                    have : ∀ l : List Operand, (∀ x ∈ l, x ∈ o.op.operands) → Reps B (rd w Y) (l.map (evO L)) (l.map a.eval) := by
                      intro l
                      induction l with
                      | nil => intro _; trivial
                      | cons x l ih => exact fun h => ⟨hopn x (h x List.mem_cons_self), ih fun y hy => h y (List.mem_cons_of_mem _ hy)⟩
                    exact this _ fun x hx => hmem x (.inr hx)
                  unfold Oper.wp
                  rw [exec_call hopq e1 hv hen w]
                  have hOw : Ow B (rd w Y) w (fun b => ∃ ob, (b, ob) ∈ Mo) (R.Hm ++ newsE (R.rs.take i)) := fun q b C cs hB hown => by
                    refine hI.wd.ow q b C cs hB ?_
                    cases hx : nth .gone (R.Hm ++ newsE (R.rs.take i)) q with
                    | gone => rw [hx] at hown; cases hown
                    | _ => rw [hx] at hown; rw [nth_sub (fun x h1 h2 => sub_all hOk hI (by rw [hB]; simp) h1 h2) hx (by simp)]; exact hown
                  refine po_ok (k := k) hOk.po hc hOw hI.wd.ivw hI.wd.bNle hI.wd.st.lt (fun q hq => ?_) (hargs.app hcs) fun v w' hu hv => ?_
                  · refine hI.wd.nn q ?_
                    rw [List.length_append, newsD_len, kilL_len]
                    have hle : ∀ rs : List (T × Option TO), (newsE rs).length ≤ rs.length := by
                      intro rs
                      induction rs with
                      | nil => simp [newsE]
                      | cons z rs ih => obtain ⟨t, ob⟩ := z; cases ob <;> simp [newsE] <;> omega
                    have h1 := hle R.rs
                    have h2 := hOk.len
                    have h3 := hOk.bd
                    simp at h2
                    omega
                  · exact hk _ _ _ _ _ (hI.val hOk hu hi ho hz hv hls)
              · cases hc
            · cases hc
          · cases hc
        | none =>
          simp only [hc] at hop
          cases hap : appO R.P R.H0 (R.Hm ++ newsE (R.rs.take i)) none L o.op with
          | some y =>
            simp only [hap, Option.some.injEq] at hop
            subst hop
            exact app none (fun _ => by
              rw [hks, hau]
              cases y.2 <;> rfl) hap
          | none =>
          simp only [hap] at hop
          cases hm : modE R.P (evO L) o with
          | none => simp [hm] at hop
          | some t =>
            simp only [hm, Option.some.injEq] at hop
            subst hop
            rw [modE_congr o hcg] at hm
            obtain ⟨v, hrun, hR⟩ := mod_ok (P := R.P) (w := w) (ρ := a.eval) (k := 0) hρ hm
            unfold Oper.wp
            rw [hrun]
            exact hk _ _ _ _ _ (hI.val hOk (Upd.refl _ _) hi ho hz hR hls)
theorem pLoad_none {P : Program} {H : List TO} {t : TypeId} {x : T} {z : T × Option TO} (h : pLoad P H t x = some z) : z.2 = none := by
  unfold pLoad at h
  repeat' split at h
  all_goals try simp only [Bool.cond_eq_ite] at h
  all_goals repeat' split at h
  all_goals first | exact vals h | cases h
theorem ld_none {P : Program} {po : Po} {H0 Hm Hn : List TO} {L : List T} {ops : Array Oper} {p : Oper} {z : T × Option TO} (h : isLd p = true) (hz : headOp P po H0 Hm Hn L ops p = some z) : z.2 = none := by
  unfold isLd at h
  simp only [Bool.and_eq_true] at h
  have hg : p.guard = none := by
    cases hg : p.guard with
    | none => rfl
    | some _ => have := h.1; rw [hg] at this; cases this
  have h2 := h.2
  split at h2
  · rename_i t x ho
    unfold headOp wantT at hz
    rw [hg] at hz
    have hk : autoK L p.op = none := by rw [ho]; rfl
    simp only [headV, hk] at hz
    cases hp : plop P Hm (ln Hn) (evO L) p.op with
    | some y =>
      simp only [hp, Option.some.injEq] at hz
      subst hz
      rw [ho] at hp
      simp only [plop] at hp
      exact pLoad_none hp
    | none =>
      have hc : headC P po Hn L p.op = none := by rw [ho]; rfl
      have ha : appO P H0 Hn none L p.op = none := by rw [ho]; rfl
      simp only [hp, hc, ha] at hz
      cases hm : modE P (evO L) p with
      | none => simp [hm] at hz
      | some t => simp only [hm, Option.some.injEq] at hz; subst hz; rfl
  · cases h2
/-! ### The tail, and the whole -/
/-- A region that draws its order. -/
theorem draw_ok {P : Program} {E : Nat → Prop} {w0 : World} {X : Hid} {F : List Nat} {n : Nat} {D : List Deferred} {ops : Array Oper} {cl yd : Cl} {rn : Rn} {O : Po} {id : Nat} (hm : P.follows .mixedOrders = true) (hO : PureOk P O) (hrn : RunOk P rn) (hcl : CallOk P cl) (hyd : YieldOk P yd)
    (hok : okOps ops = true) {s s' : S} (h : drE P O rn cl yd ops s = some s') (hW : Wd P E w0 X F s.H B w Y Mo) (hF : FrT n a s.L D B (rd w Y)) (hk : After P E w0 X F n D s'.H s'.L B (rd w Y) (Q .normal)) : (Code.region id ops true).wpIn (FF rr) 0 P Q a w := by
  have core : ∀ (Hm : List TO) (rs : List (T × Option TO)), Hm.length = s.H.length → (∀ (q : Nat) (x : TO), Hm[q]? = some x → x ≠ .gone → s.H[q]? = some x) → rs = headE P (pureE P O rn (ln s.H + ops.size)) s.H Hm ops ops.toList [] Hm s.L → drF P cl yd ops s Hm rs = some s' → (Code.region id ops true).wpIn (FF rr) 0 P Q a w := fun Hm rs hml hms hrs h => by
    unfold drF at h
    cases hd : drOk ops (ln rs) && ksOk Hm (ksE ops.toList rs s.L) with
    | false => simp [hd] at h
    | true =>
    simp only [hd, cond_true] at h
    simp only [Bool.and_eq_true] at hd
    obtain ⟨hd, hks⟩ := hd
    unfold drOk at hd
    simp only [Bool.and_eq_true] at hd
    rw [ln_eq] at hd h
    unfold taiE at h
    cases hld0 : ldsOk P ops ⟨latE ops.toList rs s.L, killH (ksE ops.toList rs s.L) s.H ++ newsE rs⟩ (ldsR ops rs.length) with
    | false => simp [hld0] at h
    | true =>
    simp only [hld0, cond_true] at h
    have hnd : ∀ o ∈ ops.toList, noDef' o.op = true := fun o ho => List.all_eq_true.1 hok o ho
    have hOk : Ok ⟨P, E, w0, X, F, n, D, ops, s.H, Hm, s.L, rs, B, rd w Y⟩ (pureE P O rn (ln s.H + ops.size)) (ln s.H + ops.size) := by
      refine ⟨fun i z hz => ?_, hd.1, hd.2.1, hd.2.2, ?_, ?_, ?_, ?_, hnd, hml, hms, (ksOk_spec hks).1, (ksOk_spec hks).2⟩
      · subst hrs
        exact head_spec _ _ _ _ _ _ hz
      · subst hrs; exact head_len _ _ _ _
      · have := hF.reps.length
        rw [this]; simpa using hF.size
      · intro f az tv nw hp
        unfold pureE at hp
        cases ho : O f az with
        | some y => simp only [ho, Option.some.injEq] at hp; subst hp; exact hO _ _ _ _ ho _
        | none => simp only [ho] at hp; exact fresh_ok (enter_ok hm hrn) hp
      · show s.H.length + ops.size ≤ ln s.H + ops.size
        rw [ln_eq]; exact Nat.le_refl _
    have htl : ∀ (j : Nat) (o : Oper), rs.length ≤ j → ops[j]? = some o → ∀ q, q < j → (∀ S : Nat → Prop, Shut ops.toList S → (∀ e ∈ o.after, Region.binds .any e = true → S e.on) → S q) ∨ ∃ p, ops[q]? = some p ∧ lateL rs.length (ldsR ops rs.length) (vlR ops rs.length) q p = true ∧ freeE ops o p = true := fun j o hj ho q hq => by
      rcases tail_ok_spec hd.2.1 j o hj (by simpa using ho) q hq with h1 | ⟨p, h2, h3⟩
      · exact .inl h1
      · exact .inr ⟨p, by simpa using h2, h3⟩
    have hdp : ∀ (i : Nat) (p : Oper) (t : Nat), i < rs.length → ops[i]? = some p → Operand.tmp t ∈ p.op.operands → ∀ (i' : Nat) (p' : Oper), i' < rs.length → ops[i']? = some p' → p'.dst = some t → i' < i ∧ ∃ e ∈ p.after, Region.binds .any e = true ∧ e.on = i' := fun i p t hi hp ht i' p' hi' hp' hd' => by
      have h1 := (head_ok_spec hOk.hd i p (hOk.hget hi hp)).1 (.tmp t) (by simpa using ht)
      rw [Nat.zero_add] at h1
      have h1 : slotOk (ops.toList.take rs.length) p i t = true := h1
      unfold slotOk at h1
      cases hw : wrt t (ops.toList.take rs.length) 0 with
      | none => exact absurd hd' (wrt_none hw i' p' (hOk.hget hi' hp'))
      | some j =>
        simp only [hw, Bool.and_eq_true, Nat.blt_eq] at h1
        obtain ⟨j', o', e1, h3, h4⟩ := wrt_some hw
        obtain rfl : j = j' := by omega
        have hj : j < rs.length := by omega
        have ho' : ops[j]? = some o' := by
          rw [List.getElem?_take, if_pos hj] at h3
          simpa using h3
        obtain rfl : i' = j := hOk.once hi' hj hp' ho' hd' h4
        exact ⟨h1.1, waitsE_spec h1.2⟩
    have heg : ∀ (j : Nat) (o : Oper), ops[j]? = some o → ∀ e ∈ o.after, Region.binds .any e = true → e.on < j := fun j o ho e he hb => by
      have := edge_ok_spec hd.2.2 j o (by simpa using ho) e he hb
      rwa [Nat.zero_add] at this
    refine wpIn_region_any hm ?_
    have hup := Upd.drew w
    have hW0 : Wd P E w0 X F s.H B w.drew Y Mo := hW.call hup
    have main : ∀ (fuel : Nat) (l : Array Bool) (a' : Act) (w' : World) (B' : Bm) (Y' : Hid) (Mo' : List (Nat × Obj)), Inv ⟨P, E, w0, X, F, n, D, ops, s.H, Hm, s.L, rs, B, rd w Y⟩ l a' w' B' Y' Mo' → unlE l ≤ fuel → Shut ops.toList (fun q => l.getD q false = true) → wpAnyIn (FF rr) 0 P .any ops Q fuel l a' w' := by
      have toTail : ∀ (fuel : Nat) (l : Array Bool) (a' : Act) (w' : World) (B' : Bm) (Y' : Hid) (Mo' : List (Nat × Obj)), Inv ⟨P, E, w0, X, F, n, D, ops, s.H, Hm, s.L, rs, B, rd w Y⟩ l a' w' B' Y' Mo' → unlE l ≤ fuel → Shut ops.toList (fun q => l.getD q false = true) → (∀ (i : Nat) (p : Oper), i < rs.length → l.getD i false = false → ops[i]? = some p → lateL rs.length (ldsR ops rs.length) (vlR ops rs.length) i p = true) → wpAnyIn (FF rr) 0 P .any ops Q fuel l a' w' := fun fuel l a' w' B' Y' Mo' hI hu hsh hall => by
        have hlz : l.size = ops.size := hI.lsz
        have hmle : rs.length ≤ ops.size := by have := hOk.len; simpa using this
        have hlate : ∀ (i : Nat) (z : T × Option TO), rs[i]? = some z → l.getD i false = false → ∃ p, ops[i]? = some p ∧ lateL rs.length (ldsR ops rs.length) (vlR ops rs.length) i p = true ∧ z.2 = none ∧ (lateK p = true → LateV P (latE ops.toList (rs.take i) s.L) p z.1) := fun i z hz hl => by
          obtain ⟨p, h1, h2⟩ := hOk.spec i z hz
          have h1 : ops.toList[i]? = some p := h1
          have h1' : ops[i]? = some p := by simpa using h1
          have hk := hall i p (List.getElem?_eq_some_iff.1 hz).1 hl h1'
          rcases lateL_or hk with hk' | ⟨hk1, hk2⟩
          · exact ⟨p, h1', hk, (LateV.of_head hk' h2).1, fun _ => (LateV.of_head hk' h2).2⟩
          · exact ⟨p, h1', hk, ld_none hk1 h2, fun hk' => (LateV.of_head hk' h2).2⟩
        have hW1 : Wd P E w0 X F (killH (ksE ops.toList rs s.L) s.H ++ newsE rs) B' w' Y' Mo' := by
          have : Wd P E w0 X F (kilL l (ksE ops.toList rs s.L) s.H ++ newsD l 0 rs) B' w' Y' Mo' := hI.wd
          rw [newsD_all l rs 0 (fun i t ob hi => ?_), kilL_all (fun i q hq => ?_)] at this
          · exact this
          · cases hc : l.getD i false with
            | true => rfl
            | false =>
              have hi : i < rs.length := Nat.lt_of_lt_of_le (List.getElem?_eq_some_iff.1 hq).1 (ks_len _ _ _)
              obtain ⟨z, hz⟩ : ∃ z, rs[i]? = some z := ⟨rs[i], by simp [hi]⟩
              obtain ⟨p, h1, h2, h3, _⟩ := hlate i z hz hc
              rw [ks_get ops.toList rs s.L i p z (by simpa using h1) hz, h3] at hq; cases hq
          · rw [Nat.zero_add]
            cases hc : l.getD i false with
            | true => rfl
            | false =>
              obtain ⟨p, _, _, h3, _⟩ := hlate i _ hi hc
              cases h3
        have G1 : FrL n a' (latE ops.toList rs s.L) D B' (rd w' Y') (Pnd ops rs.length l) := by
          refine ⟨hI.fr.size, by rw [lat_len]; exact hOk.slots, hI.fr.defers, fun t v hnp hv => ?_⟩
          by_cases he : ∃ (j : Nat) (o : Oper), j < rs.length ∧ ops[j]? = some o ∧ o.dst = some t
          · obtain ⟨j, o, hj, ho, hdt⟩ := he
            obtain ⟨z, hz⟩ : ∃ z, rs[j]? = some z := ⟨rs[j], by simp [hj]⟩
            have ht : t < s.L.length := by
              have h1 := (Array.getElem?_eq_some_iff.1 hv).1
              have h2 : a'.tmps.size = n := hI.fr.size
              have h3 : s.L.length = n := hOk.slots
              omega
            rw [lat_one ops.toList rs s.L t j o z ht (by simpa using ho) hz hdt fun q o' hq hl ho' hd' => hq (hOk.once hl hj (by simpa using ho') ho hd' hdt)]
            refine hI.fr.done j z o t v hz ho hdt ?_ hv
            cases hc : l.getD j false with
            | true => rfl
            | false => exact absurd ⟨j, o, hj, hc, ho, hdt⟩ hnp
          · rw [lat_none ops.toList rs s.L t (fun j o hj ho hd => he ⟨j, o, hj, by simpa using ho, hd⟩)]
            exact hI.fr.rest t v (fun j o hj ho hd => absurd ⟨j, o, hj, ho, hd⟩ he) hv
        refine tail_go hcl hyd (m := rs.length) htl (fun i o h1 h2 => vl_spec h2 h1) (fun i p t h1 h2 h3 i' p' h4 h5 h6 => (hdp i p t h1 h2 h3 i' p' h4 h5 h6).2) heg hnd fuel rs.length _ s' h (Nat.le_refl _) hu hlz (fun i hi => ?_) hsh (fun i p hi hl hp => ?_) hW1 G1 hI.ble hI.le hk
        · exact hI.head i hi
        · obtain ⟨z, hz⟩ : ∃ z, rs[i]? = some z := ⟨rs[i], by simp [hi]⟩
          obtain ⟨p', h1, h2, _, h4⟩ := hlate i z hz hl
          rw [hp] at h1; cases h1
          rcases lateL_or h2 with hkk | ⟨hk1, hk2⟩
          case inr =>
            obtain ⟨d2, q1, q2⟩ := LateW.of_ld hp hk1 hk2 hld0
            exact ⟨h2, _, q2, fun d' hd' _ => by rw [q1] at hd'; cases hd'; rfl⟩
          refine ⟨h2, z.1, .inl ⟨hkk, (h4 hkk).congr fun x hx => ?_⟩, fun d hd' hlt => ?_⟩
          · cases x with
            | tmp t =>
              show nth .u (latE ops.toList (rs.take i) s.L) t = nth .u (latE ops.toList rs s.L) t
              by_cases he : ∃ (j : Nat) (o : Oper), j < rs.length ∧ ops[j]? = some o ∧ o.dst = some t
              · obtain ⟨j, o, hj, ho, hdt⟩ := he
                obtain ⟨hji, _⟩ := hdp i p t hi hp hx j o hj ho hdt
                obtain ⟨zj, hzj⟩ : ∃ z, rs[j]? = some z := ⟨rs[j], by simp [hj]⟩
                rcases Nat.lt_or_ge t s.L.length with ht | ht
                · rw [lat_one ops.toList rs s.L t j o zj ht (by simpa using ho) hzj hdt fun q o' hq hl ho' hd' => hq (hOk.once hl hj (by simpa using ho') ho hd' hdt),
                    lat_one ops.toList (rs.take i) s.L t j o zj ht (by simpa using ho) (by rw [List.getElem?_take, if_pos hji]; exact hzj) hdt fun q o' hq hl ho' hd' => hq (hOk.once (Nat.lt_of_lt_of_le hl (by rw [List.length_take]; exact Nat.min_le_right _ _)) hj (by simpa using ho') ho hd' hdt)]
                · simp only [nth_eq, List.getD_eq_getElem?_getD]
                  rw [List.getElem?_eq_none (by rw [lat_len]; exact ht), List.getElem?_eq_none (by rw [lat_len]; exact ht)]
              · rw [lat_none ops.toList rs s.L t (fun j o hj ho hd => he ⟨j, o, hj, by simpa using ho, hd⟩), lat_none ops.toList (rs.take i) s.L t (fun j o hj ho hd => he ⟨j, o, Nat.lt_of_lt_of_le hj (by rw [List.length_take]; exact Nat.min_le_right _ _), by simpa using ho, hd⟩)]
            | _ => rfl
          · rw [lat_len] at hlt
            exact lat_one ops.toList rs s.L d i p z hlt (by simpa using hp) hz hd' fun q o' hq hl ho' hd2 => hq (hOk.once hl hi (by simpa using ho') hp hd2 hd')
      intro fuel
      induction fuel with
      | zero =>
        intro l a' w' B' Y' Mo' hI hu hsh
        refine toTail 0 l a' w' B' Y' Mo' hI hu hsh fun i p hi hc => ?_
        have hlz : l.size = ops.size := hI.lsz
        have hmle : rs.length ≤ ops.size := by have := hOk.len; simpa using this
        have := unlE_set (by omega) hc
        omega
      | succ fuel ih =>
        intro l a' w' B' Y' Mo' hI hu hsh
        by_cases hall : ∀ (i : Nat) (p : Oper), i < rs.length → l.getD i false = false → ops[i]? = some p → lateL rs.length (ldsR ops rs.length) (vlR ops rs.length) i p = true
        · exact toTail _ l a' w' B' Y' Mo' hI hu hsh hall
        · have hlz : l.size = ops.size := hI.lsz
          have hmle : rs.length ≤ ops.size := by have := hOk.len; simpa using this
          obtain ⟨i1, p1, hi1, hl1, hp1, hk1⟩ : ∃ (i : Nat) (p : Oper), i < rs.length ∧ l.getD i false = false ∧ ops[i]? = some p ∧ ¬ lateL rs.length (ldsR ops rs.length) (vlR ops rs.length) i p = true := by
            refine Classical.byContradiction fun hn => hall fun i p h1 h2 h3 => ?_
            exact Classical.byContradiction fun h4 => hn ⟨i, p, h1, h2, h3, h4⟩
          obtain ⟨i0, hi0, hl0, hbelow⟩ := least_unl ⟨i1, hi1, hl1⟩
          obtain ⟨o0, ho0⟩ : ∃ o, ops[i0]? = some o := ⟨ops[i0]'(by omega), by simp⟩
          have hr0 : i0 ∈ Region.ready .any ops l := ready_of hlz ho0 hl0 fun e he hb => hbelow _ (heg i0 o0 ho0 e he hb)
          refine ⟨fun h0 => absurd (h0 ▸ hr0) (by simp), fun i hi => ?_⟩
          obtain ⟨hun, oi, hoi, hall'⟩ := mem_ready.1 hi
          have him : i < rs.length := by
            rcases Nat.lt_or_ge i rs.length with h1 | h1
            · exact h1
            · rcases htl i oi h1 hoi i1 (by omega) with h2 | ⟨p, h2, h3, _⟩
              · have := h2 (fun q => l.getD q false = true) hsh hall'
                rw [hl1] at this; cases this
              · rw [hp1] at h2; cases h2; exact absurd h3 hk1
          have hil : i < l.size := by omega
          have hc : l.getD i false = false := by simpa [hil] using hun
          refine head_step hOk hI him hi fun a2 w2 B2 Y2 Mo2 hI2 => ih _ a2 w2 B2 Y2 Mo2 hI2 ?_ (hsh.set (by simpa using hoi) hil hall')
          have := unlE_set hil hc
          omega
    have hz : ∀ i, (Array.replicate ops.size false).getD i false = false := fun i => by
      by_cases hi : i < ops.size <;> simp [hi]
    refine main ops.size _ a _ B Y Mo ⟨?_, ⟨hF.size, hF.defers, fun i z o d v _ _ _ hl _ => ?_, fun t v _ hv => ?_⟩, BLe.refl B, hup.le Y, fun i t ob _ _ => hW0.nn _ (Nat.le_add_right _ _), fun i _ => hz i, by simp⟩ ?_ (fun i _ _ h2 => absurd (show (Array.replicate ops.size false).getD i false = true from h2) (by rw [hz]; simp))
    · show Wd P E w0 X F (kilL _ _ s.H ++ _) B _ Y Mo
      rw [kilL_none (fun i _ => hz i)]
      have hgone : ∀ (i : Nat) (x : TO), (s.H ++ newsD (Array.replicate ops.size false) 0 rs)[i]? = some x → x ≠ .gone → s.H[i]? = some x := fun i x hx hne => by
        rcases Nat.lt_or_ge i s.H.length with hi | hi
        · rwa [List.getElem?_append_left hi] at hx
        · rw [List.getElem?_append_right hi] at hx
          exact absurd (newsD_nil _ rs 0 _ x (fun i _ => hz _) hx) hne
      have ng : ∀ {y : TO}, live y = true → y ≠ .gone := fun h e => by subst e; cases h
      exact ⟨hW0.st, fun i x hx hl => hW0.ob i x (hgone i x hx (ng hl)) hl, fun i cs hx => hW0.fz i cs (hgone i _ hx (by simp)), fun i hi => hW0.nn i (by simp at hi; omega),
        fun i j oi oj p q h1 l1 h2 l2 => hW0.inj i j oi oj p q (hgone i _ h1 (ng l1)) l1 (hgone j _ h2 (ng l2)) l2, hW0.bN, hW0.iv⟩
    · rw [hz] at hl; cases hl
    · have hR := hF.reps.getD t
      have : a.tmps.toList.getD t undef = v := by simp [hv]
      rw [this] at hR
      exact hR.mono (BLe.refl B) (hup.le Y)
    · have : unlE (Array.replicate ops.size false) = ops.size := by
        have h := unlE_first (l := Array.replicate ops.size false) (j := 0) (fun i => by rw [hz]; simp) (Nat.zero_le _)
        simpa using h
      omega
  unfold drE drG at h
  have hkm : ∀ ks : List (Option Nat), ∀ (q : Nat) (x : TO), (killH ks s.H)[q]? = some x → x ≠ .gone → s.H[q]? = some x := fun ks q x h1 h2 => by
    rw [killH_get] at h1
    split at h1
    · cases hq : s.H[q]? with
      | none => rw [hq] at h1; cases h1
      | some y => rw [hq] at h1; cases h1; exact absurd rfl h2
    · exact h1
  cases hany : anyK (ksE ops.toList (headE P (pureE P O rn (ln s.H + ops.size)) s.H s.H ops ops.toList [] s.H s.L) s.L) with
  | true => simp only [hany, cond_true] at h; exact core _ _ (killH_len _ _) (hkm _) rfl h
  | false => simp only [hany, cond_false] at h; exact core s.H _ rfl (fun _ _ h _ => h) rfl h
end
end Go.Ev
/- Programs read by an interpreter whose values are trees: loops, ranges over functions. By an AI agent; over any program. -/
namespace Go.Ev
open Go Go.Gv Go.RowKit
section
variable {P : Program} {E : Nat → Prop} {w0 : World} {X : Hid} {F : List Nat} {H : List TO} {B B' : Bm} {w w' : World} {Y Y' : Hid} {Mo : List (Nat × Obj)} {o : Oper} {r r' : Rd} {n : Nat} {a : Act} {L : List T} {D : List Deferred} {Q : Exit → Act → World → Prop} {K : Act → World → Prop} {cl yd : Cl} {O : Po} {rr : Option Nat} {ops : Array Oper} {rest : List Oper} {rn : Rn}
/-- A loop's record. -/
theorem Wd.lp (hW : Wd P E w0 X F H B w Y Mo) {i b0 C : Nat} {ps : List Nat} {c1 c2 : Code} {q : Bool} {pd : Option Code} (hi : H[i]? = some (.loop L ps c1 c2 q pd)) (hB : B i = some (b0, C)) :
    ∃ (rec : Loop) (k : Nat), (Mo ++ marks F)[k]? = some (b0, .loop rec) ∧ (Reps B (rd w Y) L rec.tmps.toList ∧ rec.params.toList = ps ∧ rec.assign = c1 ∧ rec.body = c2 ∧ noR c1 = true ∧ noR c2 = true ∧ LSt q pd rec) ∧
      (∀ rec' q' pd', rec'.tmps = rec.tmps → rec'.params = rec.params → rec'.assign = rec.assign → rec'.body = rec.body → LSt q' pd' rec' →
        Wd P E w0 X F (H.set i (.loop L ps c1 c2 q' pd')) B (w.putObj b0 (.loop rec')) Y (Mo.set k (b0, .loop rec')) ∧ Le (rd w Y) (rd (w.putObj b0 (.loop rec')) Y)) ∧
      ∀ rec', Wd P E w0 X F (H.set i .gone) B (w.putObj b0 (.loop rec')) Y (Mo.set k (b0, .loop rec')) ∧ Le (rd w Y) (rd (w.putObj b0 (.loop rec')) Y) := by
  obtain ⟨b', C', ob, g1, g2, g3⟩ := hW.ob i _ hi rfl
  rw [hB] at g1; cases g1
  cases g3 with
  | @loop _ _ _ _ rec _ _ hL hp ha hb hna hnb hs =>
    obtain ⟨k, hk⟩ := List.getElem?_of_mem g2
    have hkl : k < Mo.length := (List.getElem?_eq_some_iff.1 hk).1
    have hk2 : (Mo ++ marks F)[k]? = some (b0, .loop rec) := by rw [List.getElem?_append_left hkl]; exact hk
    have hS : ∀ rec', St E w0 X (w.putObj b0 (.loop rec')) Y (Mo.set k (b0, .loop rec') ++ marks F) ∧ Le (rd w Y) (rd (w.putObj b0 (.loop rec')) Y) := fun rec' => by
      obtain ⟨h1, h2⟩ := hW.st.putObj (o' := .loop rec') k hk2
      rw [List.set_append_left _ _ hkl] at h1
      exact ⟨h1, h2⟩
    refine ⟨rec, k, hk2, ⟨hL, hp, ha, hb, hna, hnb, hs⟩, fun rec' q' pd' e1 e2 e3 e4 hs' => ?_, fun rec' => ?_⟩
    · obtain ⟨h1, h2⟩ := hS rec'
      exact ⟨hW.set hi rfl hB hk h1 h2 (fun cs e => by cases e) (fun _ => .loop (by rw [e1]; exact hL.mono (BLe.refl B) h2) (by rw [e2]; exact hp) (by rw [e3]; exact ha) (by rw [e4]; exact hb) hna hnb hs'), h2⟩
    · obtain ⟨h1, h2⟩ := hS rec'
      exact ⟨hW.set hi rfl hB hk h1 h2 (fun cs e => by cases e) (fun e => by cases e), h2⟩
theorem puts_rep : ∀ {ps : List Nat} {az L : List T} {vals : List Value} {tm : Array Value}, ps.length = az.length → Reps B r az vals → Reps B r L tm.toList → Reps B r (puts L ps az) ((ps.zip vals).foldl (fun t (x : Nat × Value) => t.setIfInBounds x.1 x.2) tm).toList
  | [], [], L, [], tm, _, _, h => by simpa [puts] using h
  | p :: ps, t :: az, L, v :: vals, tm, hl, hA, h => by
    simp only [puts, List.zip_cons_cons, List.foldl_cons]
    refine puts_rep (by simpa using hl) hA.2 ?_
    have := h.put p hA.1
    simpa using this
  | [], _ :: _, _, _, _, hl, _, _ => by simp at hl
  | _ :: _, [], _, _, _, hl, _, _ => by simp at hl
  | _, [], _, _ :: _, _, _, hA, _ => hA.elim
  | _, _ :: _, _, [], _, _, hA, _ => hA.elim
theorem puts_len : ∀ (ps : List Nat) (az L : List T), (puts L ps az).length = L.length
  | [], _, _ => by simp [puts]
  | _ :: _, [], _ => by simp [puts]
  | p :: ps, t :: az, L => by rw [puts, puts_len ps az, put_eq]; simp
theorem nth_get {l : List TO} {i : Nat} {x : TO} (h : nth .gone l i = x) (hx : x ≠ .gone) : l[i]? = some x := by
  rw [nth_eq, List.getD_eq_getElem?_getD] at h
  cases hi : l[i]? with
  | none => rw [hi] at h; exact absurd h.symm hx
  | some y => rw [hi] at h; simp at h; rw [h]
/-- A call of yield: a round. -/
theorem yield_ok (hrn : RunOk P rn) : YieldOk P (yieldE rn) := by
  intro l az H tv H' h E w0 X F B w Y Mo vals R b0 C hW hA hB hk
  unfold yieldE at h
  split at h
  · rename_i L ps c1 c2 hl
    have hi := nth_get hl (by simp)
    cases hlen : Nat.beq (ln ps) (ln az) with
    | false => simp [hlen] at h
    | true =>
      simp only [hlen, cond_true] at h
      have hlen := beqN hlen
      rw [ln_eq, ln_eq] at hlen
      obtain ⟨rec, k, hk2, ⟨hL, hp, ha, hb, hna, hnb, hs⟩, _, _⟩ := hW.lp hi hB
      have hpl : rec.params.size = az.length := by rw [← hlen, ← hp]; simp
      refine y_round k hW.st hk2 (by rw [hpl, hA.length]; simp) ?_
      have hF : FrT rec.tmps.size { tmps := (rec.params.zip vals.toArray).foldl (fun tmps (t, a) => tmps.setIfInBounds t a) rec.tmps, defers := [] } (puts L ps az) [] B (rd w Y) := by
        have hz : ((rec.params.zip vals.toArray).foldl (fun tmps (x : Nat × Value) => tmps.setIfInBounds x.1 x.2) rec.tmps) = (ps.zip vals).foldl (fun t (x : Nat × Value) => t.setIfInBounds x.1 x.2) rec.tmps := by
          rw [← Array.foldl_toList, Array.toList_zip, hp]
        have hR := puts_rep (ps := ps) hlen hA hL
        refine ⟨?_, ?_, rfl⟩
        · show ((rec.params.zip vals.toArray).foldl (fun tmps (x : Nat × Value) => tmps.setIfInBounds x.1 x.2) rec.tmps).size = _
          rw [hz]
          have h1 := hR.length
          rw [puts_len] at h1
          have h2 := hL.length
          simp at h1 h2
          omega
        · show Reps B (rd w Y) _ ((rec.params.zip vals.toArray).foldl (fun tmps (x : Nat × Value) => tmps.setIfInBounds x.1 x.2) rec.tmps).toList
          rw [hz]; exact hR
      unfold bodyY at h
      split at h
      · rename_i s1 hc1
        split at h
        · rename_i L2 ps2 d1 d2 hl2
          have hi2 := nth_get hl2 (by simp)
          subst ha
          refine hrn _ _ _ _ hc1 E w0 X F rec.tmps.size _ [] B w Y Mo (some b0) _ (.inr hna) hW hF fun a1 w1 B1 Y1 Mo1 bs hbs g1 g2 g3 g4 => ?_
          obtain rfl := hbs hna
          obtain ⟨rec2, k2, hk3, ⟨_, _, _, _, _, _, hs2⟩, hset, _⟩ := Wd.lp g1 hi2 (g3 _ _ hB)
          obtain ⟨hWb, hleb⟩ := hset { rec2 with state := .busy } false none rfl rfl rfl rfl rfl
          refine ⟨_, run_beginRound (g1.st.get k2 hk3) hs2.1, ?_⟩
          unfold endY at h
          subst hb
          split at h
          · rename_i e s2 hc2
            rw [put_eq] at hc2
            refine hrn _ _ _ _ hc2 E w0 X F rec.tmps.size a1 [] B1 _ Y1 _ (some b0) _ (.inr hnb) hWb (g2.mono (BLe.refl _) hleb) fun a3 w3 B3 Y3 Mo3 bs hbs f1 f2 f3 f4 => ?_
            obtain rfl := hbs hnb
            split at h
            · rename_i L4 ps4 e1 e2 hl4
              have hi4 := nth_get hl4 (by simp)
              obtain ⟨rec4, k4, hk5, ⟨_, _, _, _, _, _, hs4⟩, hset4, _⟩ := Wd.lp f1 hi4 (f3 _ _ (g3 _ _ hB))
              have y4 := (g4.trans hleb).trans f4
              cases e with
              | n =>
                simp only [Option.some.injEq, Prod.mk.injEq, put_eq] at h
                obtain ⟨rfl, rfl⟩ := h
                obtain ⟨hWe, hlee⟩ := hset4 { rec4 with state := .ready, pending := none } true none rfl rfl rfl rfl ⟨rfl, rfl⟩
                exact ⟨_, _, run_endRound none (f1.st.get k4 hk5), hk _ _ _ _ _ hWe (.v rfl) (g3.trans f3) (y4.trans hlee)⟩
              | r =>
                simp only [Option.some.injEq, Prod.mk.injEq, put_eq] at h
                obtain ⟨rfl, rfl⟩ := h
                obtain ⟨hWe, hlee⟩ := hset4 { rec4 with state := .done, pending := some .ret } false (some .ret) rfl rfl rfl rfl ⟨rfl, rfl⟩
                exact ⟨_, _, run_endRound (some .ret) (f1.st.get k4 hk5), hk _ _ _ _ _ hWe (.v rfl) (g3.trans f3) (y4.trans hlee)⟩
              | x id =>
                simp only [Option.some.injEq, Prod.mk.injEq, put_eq] at h
                obtain ⟨rfl, rfl⟩ := h
                obtain ⟨hWe, hlee⟩ := hset4 { rec4 with state := .done, pending := some (.exit id) } false (some (.exit id)) rfl rfl rfl rfl ⟨rfl, rfl⟩
                exact ⟨_, _, run_endRound (some (.exit id)) (f1.st.get k4 hk5), hk _ _ _ _ _ hWe (.v rfl) (g3.trans f3) (y4.trans hlee)⟩
              | p t => simp at h
            · cases h
          · cases h
        · cases h
      · cases h
  · cases h
/-- A range over a function. -/
theorem rng_ok (hcl : CallOk P cl) {g : Operand} {ps : Array Tmp} {c1 c2 : Code} {e : Ex} {s' : S} (hW : Wd P E w0 X F H B w Y Mo) (hF : FrT n a L D B (rd w Y)) (hna : noR c1 = true) (hnb : noR c2 = true)
    (h : rngE P cl ps.toList c1 c2 L H (evO L g) = some (e, s')) (hk : AfterC P E w0 X F n D false e s' B (rd w Y) Q) : (Code.rangeFunc g ps c1 c2).wpIn (FF none) 0 P Q a w := by
  have hg := hF.rep g
  unfold rngE at h
  split at h
  · rename_i f cs eg
    rw [eg] at hg
    obtain ⟨caps, hv, hcs⟩ := hg.fnI
    cases hen : enters P f with
    | false => simp [hen] at h
    | true =>
      simp only [hen, cond_true] at h
      refine wpIn_rangeFunc fun fn _ => ?_
      have h1 := hW.st.alloc (.deferred (some []))
      have h2 := h1.alloc (.loop { state := .ready, pending := none, fn := fn, tmps := a.tmps, params := ps, assign := c1, body := c2, defers := w.heap.size })
      have hle : Le (rd w Y) (rd ((w.alloc (.deferred (some []))).alloc (.loop { state := .ready, pending := none, fn := fn, tmps := a.tmps, params := ps, assign := c1, body := c2, defers := w.heap.size })) _) := (Le.hide_new (.deferred (some []))).trans (Le.hide_new _)
      have hrun := run_enterLoop_outer (P := P) (w := w) fn a.tmps ps c1 c2
      have hN := Wd.new (F' := w.heap.size :: F) (g := (w.alloc (.deferred (some []))).heap.size) (C := 0) (o := .loop L ps.toList c1 c2 true none) hW
        (St.perm (by
          show List.Perm _ ((_ :: Mo) ++ ((w.heap.size, Obj.deferred (some [])) :: marks F))
          exact (List.Perm.cons _ List.perm_middle.symm)) h2) hle rfl
        (.loop (hF.reps.mono (BLe.refl B) hle) rfl rfl rfl hna hnb ⟨rfl, rfl⟩)
      obtain ⟨hWn, hBn⟩ := hN
      have hl1 : (w.alloc (.deferred (some []))).heap.size = w.heap.size + 1 := by simp
      cases hc : cl f (.yl (ln H) :: cs) (H ++ [.loop L ps.toList c1 c2 true none]) with
      | none => simp [hc, endR] at h
      | some vh =>
        obtain ⟨tv, H1⟩ := vh
        simp only [hc, endR] at h
        rw [hl1] at hWn hBn
        have hy : Rep (setB B H.length (w.heap.size + 1, 0)) (rd ((w.alloc (.deferred (some []))).alloc (.loop { state := .ready, pending := none, fn := fn, tmps := a.tmps, params := ps, assign := c1, body := c2, defers := w.heap.size })) (hide (w.heap.size + 1) (hide w.heap.size Y))) (.yl (ln H)) (.func (.yield (w.heap.size + 1)) #[] #[]) := by
          rw [ln_eq]; exact .yl (setB_same _ _ _)
        have hK := hcl _ _ _ _ _ hc E w0 X (w.heap.size :: F) _ _ _ _ (.func (.yield (w.heap.size + 1)) #[] #[] :: caps)
          (fun e w3 => (∃ v, e = .returned v) ∧ ∃ rec, w3.heap[w.heap.size + 1]? = some (.loop rec) ∧ rec.state ≠ .busy ∧
            (match rec.pending with
              | none => Q .normal { a with defers := Gv.mark w.heap.size :: a.defers } (w3.putObj (w.heap.size + 1) (.loop { rec with state := .exhausted }))
              | some c => c.wpIn (FF none) 0 P Q { a with defers := Gv.mark w.heap.size :: a.defers } (w3.putObj (w.heap.size + 1) (.loop { rec with state := .exhausted }))))
          (by rw [← hl1]; rw [hl1]; exact hWn) ⟨by rw [hl1] at *; exact hy, hcs.mono hBn (by rw [hl1] at hle; exact hle)⟩ ?_
        · clear hle h2
          generalize (w.alloc (.deferred (some []))).alloc (.loop { state := .ready, pending := none, fn := fn, tmps := a.tmps, params := ps, assign := c1, body := c2, defers := w.heap.size }) = W1 at hK hrun
          refine ⟨w.heap.size + 1, [Gv.mark w.heap.size], W1, { target := .fn (.func f) caps.toArray, args := #[.func (.yield (w.heap.size + 1)) #[] #[]] }, W1, f,
            #[.func (.yield (w.heap.size + 1)) #[] #[]] ++ caps.toArray, W1, hrun, ?_, fun f' _ => FF_fn none f', ?_, FF_depth none 0, ?_⟩
          · simp only [resolve, hv]
            simp [go_sem]
          · simp only [invoke]
            exact enters_spec hen _ _
          · refine callsFF.2 ((show Calls P f (#[.func (.yield (w.heap.size + 1)) #[] #[]] ++ caps.toArray) W1 _ by simpa using hK).mono ?_)
            rintro e w3 ⟨⟨v, rfl⟩, rec, hl, hb, hrest⟩
            exact ⟨rec.pending, _, run_endLoop hl hb, hrest⟩
        · intro v w3 B3 Y3 Mo3 k1 k2 k3 k4
          refine ⟨⟨v, rfl⟩, ?_⟩
          have hBl : B3 H.length = some (w.heap.size + 1, 0) := k3 _ _ (setB_same _ _ _)
          have fin : ∀ (L2 : List T) (ps2 : List Nat) (d1 d2 : Code) (q : Bool) (pd : Option Code), H1[H.length]? = some (.loop L2 ps2 d1 d2 q pd) → q = true ∨ pd ≠ none →
              ∃ rec, w3.heap[w.heap.size + 1]? = some (.loop rec) ∧ rec.state ≠ .busy ∧ rec.pending = pd ∧ ∃ Mo4, Wd P E w0 X (w.heap.size :: F) (H1.set H.length .gone) B3 (w3.putObj (w.heap.size + 1) (.loop { rec with state := .exhausted })) Y3 Mo4 ∧ Le (rd w3 Y3) (rd (w3.putObj (w.heap.size + 1) (.loop { rec with state := .exhausted })) Y3) := fun L2 ps2 d1 d2 q pd hi hq => by
            obtain ⟨rec, k, hk2, ⟨_, _, _, _, _, _, hs⟩, _, hgone⟩ := Wd.lp k1 hi hBl
            refine ⟨rec, k1.st.get k hk2, ?_, ?_, _, hgone _⟩
            · cases q <;> cases pd <;> simp only [LSt] at hs
              · rcases hq with h | h <;> simp at h
              · rw [hs.1]; simp
              · rw [hs.1]; simp
            · cases q <;> cases pd <;> simp only [LSt] at hs
              · rcases hq with h | h <;> simp at h
              · exact hs.2
              · exact hs.2
          have hBt : BLe B B3 := hBn.trans k3
          have hlet : Le (rd w Y) (rd w3 Y3) := (by rw [hl1] at hle; exact hle : Le (rd w Y) _).trans k4
          have hFm : ∀ {r3 : Rd}, Le (rd w Y) r3 → FrT n { a with defers := Gv.mark w.heap.size :: a.defers } L ([w.heap.size].map Gv.mark ++ D) B3 r3 := fun hr => ⟨hF.size, hF.reps.mono hBt hr, by show Gv.mark w.heap.size :: a.defers = _; rw [hF.defers]; rfl⟩
          split at h
          · rename_i L2 ps2 d1 d2 hl2
            rw [ln_eq] at hl2
            obtain ⟨rec, f1, f2, f3, Mo4, f4, f5⟩ := fin _ _ _ _ _ _ (nth_get hl2 (by simp)) (.inl rfl)
            refine ⟨rec, f1, f2, ?_⟩
            generalize w3.putObj (w.heap.size + 1) (.loop { rec with state := .exhausted }) = w4 at f4 f5 ⊢
            rw [f3]
            simp only [Option.some.injEq, Prod.mk.injEq, put_eq, ln_eq] at h
            obtain ⟨rfl, rfl⟩ := h
            exact hk _ _ _ _ _ [w.heap.size] (fun e => by cases e) f4 (hFm (hlet.trans f5)) hBt (hlet.trans f5)
          · rename_i L2 ps2 d1 d2 hl2
            rw [ln_eq] at hl2
            obtain ⟨rec, f1, f2, f3, Mo4, f4, f5⟩ := fin _ _ _ _ _ _ (nth_get hl2 (by simp)) (.inr (by simp))
            refine ⟨rec, f1, f2, ?_⟩
            generalize w3.putObj (w.heap.size + 1) (.loop { rec with state := .exhausted }) = w4 at f4 f5 ⊢
            rw [f3]
            simp only [Option.some.injEq, Prod.mk.injEq, put_eq, ln_eq] at h
            obtain ⟨rfl, rfl⟩ := h
            exact i_ret (hk _ _ _ _ _ [w.heap.size] (fun e => by cases e) f4 (hFm (hlet.trans f5)) hBt (hlet.trans f5))
          · rename_i L2 ps2 d1 d2 id hl2
            rw [ln_eq] at hl2
            obtain ⟨rec, f1, f2, f3, Mo4, f4, f5⟩ := fin _ _ _ _ _ _ (nth_get hl2 (by simp)) (.inr (by simp))
            refine ⟨rec, f1, f2, ?_⟩
            generalize w3.putObj (w.heap.size + 1) (.loop { rec with state := .exhausted }) = w4 at f4 f5 ⊢
            rw [f3]
            simp only [Option.some.injEq, Prod.mk.injEq, put_eq, ln_eq] at h
            obtain ⟨rfl, rfl⟩ := h
            exact i_exit (hk _ _ _ _ _ [w.heap.size] (fun e => by cases e) f4 (hFm (hlet.trans f5)) hBt (hlet.trans f5))
          · cases h
  · cases h
/-! ### The whole -/
theorem AfterC.one {q : Bool} {e : Ex} {s' : S} (h : AfterC P E w0 X F n D q e s' B r Q) {a' : Act} {w' : World} {B' : Bm} {Y' : Hid} {Mo' : List (Nat × Obj)} (h1 : Wd P E w0 X F s'.H B' w' Y' Mo') (h2 : FrT n a' s'.L D B' (rd w' Y')) (h3 : BLe B B') (h4 : Le r (rd w' Y')) : QOk Q B' (rd w' Y') a' w' e :=
  h a' w' B' Y' Mo' [] (fun _ => rfl) h1 h2 h3 h4
theorem AfterC.next {q q1 q2 : Bool} {e : Ex} {s' : S} (h : AfterC P E w0 X F n D q e s' B r Q) (hq : q = true → q1 = true ∧ q2 = true) {w' : World} {B' : Bm} {Y' : Hid} {bs : List Nat} (hbs : q1 = true → bs = []) (h3 : BLe B B') (h4 : Le r (rd w' Y')) : AfterC P E w0 X (bs ++ F) n (bs.map Gv.mark ++ D) q2 e s' B' (rd w' Y') Q :=
  fun a2 w2 B2 Y2 Mo2 bs2 hb2 k1 k2 k3 k4 => h a2 w2 B2 Y2 Mo2 (bs2 ++ bs) (fun e => by rw [hbs (hq e).1, hb2 (hq e).2]; rfl) (by rw [List.append_assoc]; exact k1) (by rw [List.map_append, List.append_assoc]; exact k2) (h3.trans k3) (h4.trans k4)
theorem evC_ok {SO : Oo} {O : Rn → Po} (hm : P.follows .mixedOrders = true) (hS : SoOk P SO) (hO : ∀ rn, RunOk P rn → PureOk P (O rn)) : ∀ k, RunOk P (evC P SO O k) := by
  intro k
  induction k using Nat.strongRecOn with
  | _ k ih =>
    cases k with
    | zero => intro c s e s' h; simp [evC] at h
    | succ k =>
      have hk : RunOk P (evC P SO O k) := ih k (Nat.lt_succ_self k)
      have hcl := callE_ok (P := P) hm hS (hO _ hk) hk
      have hpc := enterP_ok (P := P) hk
      have hyd := yield_ok (P := P) hk
      intro c s e s' h E w0 X F n a D B w Y Mo rr Q hr hW hF hA
      have h : stepE P SO (O (evC P SO O k)) (evC P SO O k) c s = some (e, s') := h
      cases c with
      | skip => simp only [stepE, Option.some.injEq, Prod.mk.injEq] at h; obtain ⟨rfl, rfl⟩ := h; exact i_skip (hA.one hW hF (BLe.refl B) (Le.refl _))
      | label l => simp only [stepE, Option.some.injEq, Prod.mk.injEq] at h; obtain ⟨rfl, rfl⟩ := h; exact i_label (hA.one hW hF (BLe.refl B) (Le.refl _))
      | exit id => simp only [stepE, Option.some.injEq, Prod.mk.injEq] at h; obtain ⟨rfl, rfl⟩ := h; exact i_exit (hA.one hW hF (BLe.refl B) (Le.refl _))
      | ret => simp only [stepE, Option.some.injEq, Prod.mk.injEq] at h; obtain ⟨rfl, rfl⟩ := h; exact i_ret (hA.one hW hF (BLe.refl B) (Le.refl _))
      | seq x y =>
        simp only [stepE] at h
        have hr1 : rr = none ∨ noR x = true := hr.imp id fun h => by simp only [noR, Bool.and_eq_true] at h; exact h.1
        have hr2 : rr = none ∨ noR y = true := hr.imp id fun h => by simp only [noR, Bool.and_eq_true] at h; exact h.2
        have hq : noR (.seq x y) = true → noR x = true ∧ noR y = true := fun h => by simpa [noR] using h
        cases hx : evC P SO O k x s with
        | none => simp [hx, seqE] at h
        | some es =>
          obtain ⟨e1, s1⟩ := es
          refine wpIn_seq (hk _ _ _ _ hx E w0 X F n a D B w Y Mo rr _ hr1 hW hF fun a' w' B' Y' Mo' bs hbs g1 g2 g3 g4 => ?_)
          cases e1 with
          | n =>
            simp only [hx, seqE] at h
            exact hk _ _ _ _ h E w0 X _ n a' _ B' w' Y' Mo' rr Q hr2 g1 g2 (hA.next hq hbs g3 g4)
          | x id => simp only [hx, seqE, Option.some.injEq, Prod.mk.injEq] at h; obtain ⟨rfl, rfl⟩ := h; exact hA a' w' B' Y' Mo' bs (fun e => hbs (hq e).1) g1 g2 g3 g4
          | r => simp only [hx, seqE, Option.some.injEq, Prod.mk.injEq] at h; obtain ⟨rfl, rfl⟩ := h; exact hA a' w' B' Y' Mo' bs (fun e => hbs (hq e).1) g1 g2 g3 g4
          | p t => simp only [hx, seqE, Option.some.injEq, Prod.mk.injEq] at h; obtain ⟨rfl, rfl⟩ := h; exact hA a' w' B' Y' Mo' bs (fun e => hbs (hq e).1) g1 g2 g3 g4
      | cond c x y =>
        simp only [stepE] at h
        have hc := hF.rep c
        unfold condE at h
        split at h
        · rename_i b eb
          rw [eb] at hc
          cases b with
          | true => exact wpIn_cond_true hc.bool (hk _ _ _ _ h E w0 X F n a D B w Y Mo rr Q (hr.imp id fun h => by simp only [noR, Bool.and_eq_true] at h; exact h.1) hW hF fun a' w' B' Y' Mo' bs hbs => hA a' w' B' Y' Mo' bs fun e => hbs (by simp only [noR, Bool.and_eq_true] at e; exact e.1))
          | false => exact wpIn_cond_false hc.bool (hk _ _ _ _ h E w0 X F n a D B w Y Mo rr Q (hr.imp id fun h => by simp only [noR, Bool.and_eq_true] at h; exact h.2) hW hF fun a' w' B' Y' Mo' bs hbs => hA a' w' B' Y' Mo' bs fun e => hbs (by simp only [noR, Bool.and_eq_true] at e; exact e.2))
        · cases h
      | block id x =>
        simp only [stepE] at h
        cases hx : evC P SO O k x s with
        | none => simp [hx, blkE] at h
        | some es =>
          obtain ⟨e1, s1⟩ := es
          refine i_block (hk _ _ _ _ hx E w0 X F n a D B w Y Mo rr _ hr hW hF fun a' w' B' Y' Mo' bs hbs g1 g2 g3 g4 => ?_)
          cases e1 with
          | n => simp only [hx, blkE, Option.some.injEq, Prod.mk.injEq] at h; obtain ⟨rfl, rfl⟩ := h; exact hA a' w' B' Y' Mo' bs hbs g1 g2 g3 g4
          | r => simp only [hx, blkE, Option.some.injEq, Prod.mk.injEq] at h; obtain ⟨rfl, rfl⟩ := h; exact hA a' w' B' Y' Mo' bs hbs g1 g2 g3 g4
          | p t => simp only [hx, blkE, Option.some.injEq, Prod.mk.injEq] at h; obtain ⟨rfl, rfl⟩ := h; exact hA a' w' B' Y' Mo' bs hbs g1 g2 g3 g4
          | x j =>
            simp only [hx, blkE, Option.some.injEq, Prod.mk.injEq] at h
            obtain ⟨rfl, rfl⟩ := h
            have := hA a' w' B' Y' Mo' bs hbs g1 g2 g3 g4
            cases hj : Nat.beq j id with
            | true => rw [hj] at this; obtain rfl := beqN hj; exact blk_here this
            | false => rw [hj] at this; exact blk_past hj this
      | scope x =>
        simp only [stepE] at h
        rcases hr with rfl | hr
        · exact i_scope (hk _ _ _ _ h E w0 X F n a D B w Y Mo none _ (.inl rfl) hW hF fun a' w' B' Y' Mo' bs _ g1 g2 g3 g4 => by
            have := hA a' w' B' Y' Mo' bs (fun e => by simp [noR] at e) g1 g2 g3 g4
            cases e <;> exact this)
        · simp [noR] at hr
      | loop x =>
        have hr1 : rr = none ∨ noR x = true := hr.imp id fun h => by simpa [noR] using h
        refine i_loop (γ := Nat × S × List Nat) (fun g a w => g.1 ≤ k ∧ stepE P SO (O (evC P SO O g.1)) (evC P SO O g.1) (.loop x) g.2.1 = some (e, s') ∧ ∃ B' Y' Mo', (noR x = true → g.2.2 = []) ∧ Wd P E w0 X (g.2.2 ++ F) g.2.1.H B' w Y' Mo' ∧ FrT n a g.2.1.L (g.2.2.map Gv.mark ++ D) B' (rd w Y') ∧ BLe B B' ∧ Le (rd _ Y) (rd w Y'))
          (fun g => g.1) (k, s, []) ⟨Nat.le_refl k, h, B, Y, Mo, fun _ => rfl, hW, hF, BLe.refl B, Le.refl _⟩ ?_
        rintro ⟨j, s0, bs0⟩ a0 w1 ⟨hj, hstep, B1, Y1, Mo1, hb1, g1, g2, g3, g4⟩
        simp only [stepE] at hstep hj hb1 g1 g2
        cases hx : evC P SO O j x s0 with
        | none => simp [hx, seqE] at hstep
        | some es =>
          obtain ⟨e1, s1⟩ := es
          refine ih j (by omega) _ _ _ _ hx E w0 X _ n a0 _ B1 w1 Y1 Mo1 rr _ hr1 g1 g2 fun a' w' B' Y' Mo' bs hbs k1 k2 k3 k4 => ?_
          have hbs' : noR x = true → bs ++ bs0 = [] := fun e => by rw [hbs e, hb1 e]; rfl
          have k1' : Wd P E w0 X (bs ++ bs0 ++ F) s1.H B' w' Y' Mo' := by rw [List.append_assoc]; exact k1
          have k2' : FrT n a' s1.L ((bs ++ bs0).map Gv.mark ++ D) B' (rd w' Y') := by rw [List.map_append, List.append_assoc]; exact k2
          cases e1 with
          | n =>
            simp only [hx, seqE] at hstep
            cases j with
            | zero => simp [evC] at hstep
            | succ j => exact ⟨(j, s1, bs ++ bs0), ⟨by omega, hstep, B', Y', Mo', hbs', k1', k2', g3.trans k3, g4.trans k4⟩, Nat.lt_succ_self j⟩
          | x id => simp only [hx, seqE, Option.some.injEq, Prod.mk.injEq] at hstep; obtain ⟨rfl, rfl⟩ := hstep; exact hA a' w' B' Y' Mo' (bs ++ bs0) (fun e => hbs' (by simpa [noR] using e)) k1' k2' (g3.trans k3) (g4.trans k4)
          | r => simp only [hx, seqE, Option.some.injEq, Prod.mk.injEq] at hstep; obtain ⟨rfl, rfl⟩ := hstep; exact hA a' w' B' Y' Mo' (bs ++ bs0) (fun e => hbs' (by simpa [noR] using e)) k1' k2' (g3.trans k3) (g4.trans k4)
          | p t => simp only [hx, seqE, Option.some.injEq, Prod.mk.injEq] at hstep; obtain ⟨rfl, rfl⟩ := hstep; exact hA a' w' B' Y' Mo' (bs ++ bs0) (fun e => hbs' (by simpa [noR] using e)) k1' k2' (g3.trans k3) (g4.trans k4)
      | region id ops draw =>
        cases draw with
        | false =>
          simp only [stepE] at h
          cases hok : okOps ops with
          | false => simp [hok] at h
          | true =>
            simp only [hok, cond_true] at h
            refine wpIn_region_list ?_
            exact opsX_ok hcl hyd hpc _ _ _ h hok hW hF (BLe.refl B) (Le.refl _) fun a' w' B' Y' Mo' k1 k2 k3 k4 => hA.one k1 k2 k3 k4
        | true =>
          simp only [stepE] at h
          cases hok : okOps ops with
          | false => simp [hok, regE] at h
          | true =>
            simp only [hok, cond_true] at h
            cases ho : drE P (O (evC P SO O k)) (evC P SO O k) (callE P SO (O (evC P SO O k)) (evC P SO O k)) (yieldE (evC P SO O k)) ops s with
            | none => simp [ho, regE] at h
            | some s1 =>
              simp only [ho, regE, Option.some.injEq, Prod.mk.injEq] at h
              obtain ⟨rfl, rfl⟩ := h
              exact draw_ok hm (hO _ hk) hk hcl hyd hok ho hW hF fun a' w' B' Y' Mo' k1 k2 k3 k4 => hA.one k1 k2 k3 k4
      | rangeFunc g ps c1 c2 =>
        simp only [stepE] at h
        cases hn : noR c1 && noR c2 with
        | false => simp [hn] at h
        | true =>
          simp only [hn, cond_true] at h
          simp only [Bool.and_eq_true] at hn
          rcases hr with rfl | hr
          · exact rng_ok hcl hW hF hn.1 hn.2 h hA
          · simp [noR] at hr
      | goto l => simp [stepE] at h
      | refuse why => simp [stepE] at h
/-- A function that the interpreter has reckoned. -/
theorem ev_call {SO : Oo} {O : Rn → Po} (hm : P.follows .mixedOrders = true) (hS : SoOk P SO) (hO : ∀ rn, RunOk P rn → PureOk P (O rn)) {k f m : Nat} {az : List T} {tv : T} {nw : Bool} (h : freshE P (evC P SO O k) m f az = some (tv, nw)) : KnP P m f az tv nw :=
  fresh_ok (enter_ok hm (evC_ok hm hS hO k)) h
end
end Go.Ev
/- Programs read by an interpreter whose values are trees: what is known of functions over numbers, az an oracle. By an AI agent; over any program. -/
namespace Go.Ev
open Go Go.Gv Go.RowKit
/-- Arguments and results: a rational number az it lies, an int, a truth value, a text. -/
inductive Ar where
  | r (a : Raw)
  | i (n : Int)
  | b (b : Bool)
  | s (s : ByteArray)
inductive Rs where
  | one (a : Ar)
  | tup (l : List Ar)
noncomputable def limT : Nat → List T → Option (List Nat)
  | 0, _ => some []
  | _ + 1, [] => none
  | n + 1, t :: l => match t with
    | .v (.int .u32 (.ofNat x)) => bif Nat.blt x 4294967296 then (match limT n l with | some r => some (x :: r) | none => none) else none
    | _ => none
noncomputable def limS : T → Option (List Nat)
  | .v (.slice none 0 0) => some []
  | .sl cs n => limT n cs
  | .st cs n => bif Nat.ble n 9223372036854775807 then limT n cs else none
  | _ => none
noncomputable def arT : T → Option Ar
  | .v (.int .i64 n) => some (.i n)
  | .v (.bool b) => some (.b b)
  | .v (.string s) => some (.s s)
  | .ag [.v (.bool b), x, y] => (match limS x, limS y with
    | some l, some l2 => some (.r ⟨b, l, l2⟩)
    | _, _ => none)
  | _ => none
noncomputable def arTs : List T → Option (List Ar)
  | [] => some []
  | t :: l => match arT t, arTs l with
    | some a, some r => some (a :: r)
    | _, _ => none
noncomputable def unL (l : List Nat) : T := .sl (l.map fun (x : Nat) => T.v (.int .u32 (.ofNat x))) l.length
noncomputable def unA : Ar → T
  | .r a => .ag [.v (.bool a.neg), unL a.ln, unL a.ld]
  | .i n => .v (.int .i64 n)
  | .b b => .v (.bool b)
  | .s s => .v (.string s)
noncomputable def unR : Rs → T
  | .one a => unA a
  | .tup l => .tu (l.map unA)
/-- What a value says, read from what X shows of w. -/
def ArV (X : Hid) (w : World) : Ar → Value → Prop
  | .r a, v => RawX X w v a
  | .i n, v => v = .int .i64 n
  | .b b, v => v = .bool b
  | .s s, v => v = .string s
def ArVs (X : Hid) (w : World) : List Ar → List Value → Prop
  | [], [] => True
  | a :: az, v :: vs => ArV X w a v ∧ ArVs X w az vs
  | _, _ => False
def RsV (X : Hid) (w : World) : Rs → Value → Prop
  | .one a, v => ArV X w a v
  | .tup l, v => ∃ vs : List Value, v = .tuple vs.toArray ∧ ArVs X w l vs
/-- A contract over such values: p says what the call answers. -/
def KC (P : Program) (f : Nat) (p : List Ar → Option Rs) (nw : Bool) : Prop :=
  ∀ (w : World) (X : Hid) (_ : ∀ b o, X b o → b < w.heap.size) (az : List Ar) (vs : List Value) (_ : ArVs X w az vs) (y : Rs), p az = some y → Calls P f vs.toArray w (Ret E0 w fun w' v => RsV (bif nw then old w else X) w' y v)
section
variable {B : Bm} {X : Hid} {w : World}
theorem limT_len : ∀ {n : Nat} {cs : List T} {l : List Nat}, limT n cs = some l → l.length = n ∧ ∀ x ∈ l, x < 4294967296
  | 0, _, l, h => by simp [limT] at h; subst h; simp
  | n + 1, [], l, h => by simp [limT] at h
  | n + 1, t :: cs, l, h => by
    simp only [limT] at h
    split at h
    · rename_i x
      cases hb : Nat.blt x 4294967296 with
      | false => simp [hb] at h
      | true =>
        simp only [hb, cond_true] at h
        cases hr : limT n cs with
        | none => simp [hr] at h
        | some r =>
          simp only [hr, Option.some.injEq] at h
          subst h
          obtain ⟨h1, h2⟩ := limT_len hr
          rw [Nat.blt_eq] at hb
          refine ⟨by simp [h1], fun y hy => ?_⟩
          rcases List.mem_cons.1 hy with rfl | hy
          · exact hb
          · exact h2 y hy
    · cases h
theorem limT_get : ∀ {n : Nat} {cs : List T} {l : List Nat}, limT n cs = some l → ∀ (j x : Nat), l[j]? = some x → cs[j]? = some (.v (.int .u32 (.ofNat x)))
  | 0, _, l, h, j, x, hx => by simp [limT] at h; subst h; simp at hx
  | n + 1, [], l, h, j, x, hx => by simp [limT] at h
  | n + 1, t :: cs, l, h, j, x, hx => by
    simp only [limT] at h
    split at h
    · rename_i y
      cases hb : Nat.blt y 4294967296 with
      | false => simp [hb] at h
      | true =>
        simp only [hb, cond_true] at h
        cases hr : limT n cs with
        | none => simp [hr] at h
        | some r =>
          simp only [hr, Option.some.injEq] at h
          subst h
          cases j with
          | zero => simp at hx; subst hx; rfl
          | succ j => exact limT_get hr j x (by simpa using hx)
    · cases h
theorem at_lim {r : Rd} {b o n : Nat} {cs : List T} {l : List Nat} (h : limT n cs = some l) (hc : Cls B r b o cs) : At r ⟨b, o, none⟩ (U32 l) := by
  intro j v hv
  simp only [U32, List.getElem?_map] at hv
  cases hx : l[j]? with
  | none => rw [hx] at hv; cases hv
  | some x =>
    rw [hx] at hv
    cases hv
    obtain ⟨v, h1, h2⟩ := hc j _ (limT_get h j x hx)
    obtain ⟨rfl, _⟩ := h2.vI
    rw [add_mk]; exact h1
theorem limS_ok {t : T} {l : List Nat} {v : Value} (h : limS t = some l) (hR : Rep B (rd w X) t v) : ∃ ad n c, v = .slice ad n c ∧ Limbs (rd w X) ad n c l := by
  unfold limS at h
  split at h
  · cases h
    obtain ⟨rfl, _⟩ := hR.vI
    exact ⟨none, 0, 0, rfl, Limbs.nil none (by omega)⟩
  · rename_i cs n
    have hR2 := hR
    obtain ⟨ad, c, rfl, hn, hh⟩ := hR.slI
    obtain ⟨h1, h2⟩ := limT_len h
    refine ⟨ad, n, c, rfl, h1.symm, hn, hR2.slB, h2, ?_⟩
    rcases hh with ⟨rfl, rfl⟩ | ⟨b, o, rfl, hc⟩
    · left; exact List.length_eq_zero_iff.1 h1
    · exact .inr ⟨b, o, rfl, at_lim h hc⟩
  · rename_i cs n
    cases hb : Nat.ble n 9223372036854775807 with
    | false => simp [hb] at h
    | true =>
      simp only [hb, cond_true] at h
      rw [Nat.ble_eq] at hb
      obtain ⟨ad, rfl, hh⟩ := hR.stI
      obtain ⟨h1, h2⟩ := limT_len h
      refine ⟨ad, n, n, rfl, h1.symm, Nat.le_refl _, hb, h2, ?_⟩
      rcases hh with ⟨rfl, rfl⟩ | ⟨b, o, rfl, hc⟩
      · left; exact List.length_eq_zero_iff.1 h1
      · exact .inr ⟨b, o, rfl, at_lim h hc⟩
  · cases h
theorem arT_ok {t : T} {a : Ar} {v : Value} (h : arT t = some a) (hR : Rep B (rd w X) t v) : ArV X w a v := by
  unfold arT at h
  split at h
  · cases h; exact hR.vI.1
  · cases h; exact hR.vI.1
  · cases h; exact hR.vI.1
  · rename_i b x y
    cases h1 : limS x with
    | none => simp [h1] at h
    | some l =>
      cases h2 : limS y with
      | none => simp [h1, h2] at h
      | some l2 =>
        simp only [h1, h2, Option.some.injEq] at h
        subst h
        obtain ⟨vs, rfl, hvs⟩ := hR.agI
        match vs, hvs with
        | [v1, v2, v3], ⟨g1, g2, g3, _⟩ =>
          obtain ⟨rfl, _⟩ := g1.vI
          obtain ⟨a1, n1, c1, rfl, k1⟩ := limS_ok h1 g2
          obtain ⟨a2, n2, c2, rfl, k2⟩ := limS_ok h2 g3
          exact ⟨_, _, _, _, _, _, rfl, k1, k2⟩
  · cases h
theorem arTs_ok : ∀ {ts : List T} {az : List Ar} {vs : List Value}, arTs ts = some az → Reps B (rd w X) ts vs → ArVs X w az vs
  | [], az, [], h, _ => by simp [arTs] at h; subst h; trivial
  | t :: ts, az, v :: vs, h, hR => by
    simp only [arTs] at h
    cases h1 : arT t with
    | none => simp [h1] at h
    | some a =>
      cases h2 : arTs ts with
      | none => simp [h1, h2] at h
      | some r =>
        simp only [h1, h2, Option.some.injEq] at h
        subst h
        exact ⟨arT_ok h1 hR.1, arTs_ok h2 hR.2⟩
  | [], _, _ :: _, _, hR => hR.elim
  | _ :: _, _, [], _, hR => hR.elim
theorem unL_ok {ad : Option Addr} {n c : Nat} {l : List Nat} (h : Limbs (rd w X) ad n c l) : Rep B (rd w X) (unL l) (.slice ad n c) := by
  have e := h.hlen
  subst e
  unfold unL
  rcases h.hat with rfl | ⟨b, o, rfl, ha⟩
  · exact .sl0 h.hbig
  · have get : ∀ (j : Nat) (t : T), (l.map fun (x : Nat) => T.v (.int .u32 (.ofNat x)))[j]? = some t → ∃ x, l[j]? = some x ∧ t = .v (.int .u32 (.ofNat x)) ∧ l.getD j 0 = x := fun j t ht => by
      rw [List.getElem?_map] at ht
      cases hx : l[j]? with
      | none => rw [hx] at ht; cases ht
      | some x => rw [hx] at ht; cases ht; exact ⟨x, rfl, rfl, by simp [hx]⟩
    refine .sl h.hcap (fun j => .int .u32 (.ofNat (l.getD j 0))) (fun j t ht => ?_) (fun j t ht => ?_) h.hbig
    · obtain ⟨x, hx, rfl, hg⟩ := get j t ht
      have := ha j (.int .u32 (.ofNat x)) (by simp only [U32, List.getElem?_map, hx]; rfl)
      rw [add_mk] at this
      rw [hg]; exact this
    · obtain ⟨x, hx, rfl, hg⟩ := get j t ht
      rw [hg]; exact .v rfl
theorem unA_ok {a : Ar} {v : Value} (h : ArV X w a v) : Rep B (rd w X) (unA a) v := by
  cases a with
  | r a =>
    obtain ⟨_, _, _, _, _, _, rfl, h1, h2⟩ := h
    exact Rep.mkAg (vs := [.bool a.neg, _, _]) ⟨.v rfl, unL_ok h1, unL_ok h2, trivial⟩
  | i n => cases h; exact .v rfl
  | b b => cases h; exact .v rfl
  | s s => cases h; exact .v rfl
theorem unAs_ok : ∀ {az : List Ar} {vs : List Value}, ArVs X w az vs → Reps B (rd w X) (az.map unA) vs
  | [], [], _ => trivial
  | _ :: _, _ :: _, h => ⟨unA_ok h.1, unAs_ok h.2⟩
  | [], _ :: _, h => h.elim
  | _ :: _, [], h => h.elim
theorem unR_ok {y : Rs} {v : Value} (h : RsV X w y v) : Rep B (rd w X) (unR y) v := by
  cases y with
  | one a => exact unA_ok h
  | tup l =>
    obtain ⟨vs, rfl, h⟩ := h
    exact Rep.mkTu (unAs_ok h)
end
/-- The oracle's row. -/
noncomputable def kcE (p : List Ar → Option Rs) (nw : Bool) (az : List T) : Option (T × Bool) := match arTs az with
  | some az => (match p az with
    | some y => some (unR y, nw)
    | none => none)
  | none => none
theorem kc_kn {P : Program} {f : Nat} {p : List Ar → Option Rs} {nw nw' : Bool} (hc : KC P f p nw) {az : List T} {tv : T} (h : kcE p nw az = some (tv, nw')) (k : Nat) : KnP P k f az tv nw' := by
  unfold kcE at h
  cases h1 : arTs az with
  | none => simp [h1] at h
  | some az2 =>
    cases h2 : p az2 with
    | none => simp [h1, h2] at h
    | some y =>
      simp only [h1, h2, Option.some.injEq, Prod.mk.injEq] at h
      obtain ⟨rfl, rfl⟩ := h
      intro B w X vals R _ _ hX hR hk
      refine (hc w X hX az2 vals (arTs_ok h1 hR) y h2).mono ?_
      rintro e w' ⟨hu, v, rfl, hv⟩
      exact hk v w' hu (unR_ok hv)
/-- Rows in a list: function, what it answers. -/
noncomputable def elsO (r d : Option (T × Bool)) : Option (T × Bool) := match r with
  | some x => some x
  | none => d
noncomputable def tabO : List (Nat × (List T → Option (T × Bool))) → Po
  | [], _, _ => none
  | (g, p) :: l, f, az => bif Nat.beq g f then elsO (p (az.map (unN 12))) (tabO l f az) else tabO l f az
theorem tab_cons {P : Program} {l : List (Nat × (List T → Option (T × Bool)))} {g : Nat} {p : List T → Option (T × Bool)} (hp : ∀ az tv nw, p az = some (tv, nw) → ∀ k, KnP P k g az tv nw) (hl : PureOk P (tabO l)) : PureOk P (tabO ((g, p) :: l)) := by
  intro f az tv nw h k
  simp only [tabO] at h
  cases hb : Nat.beq g f with
  | true =>
    obtain rfl := beqN hb
    simp only [hb, cond_true] at h
    unfold elsO at h
    split at h
    · rename_i r hr
      cases h
      exact (hp _ tv nw hr k).unN
    · exact hl _ az tv nw h k
  | false =>
    simp only [hb, cond_false] at h
    exact hl f az tv nw h k
theorem tab_ok {P : Program} : ∀ {l : List (Nat × (List T → Option (T × Bool)))}, (∀ g p, (g, p) ∈ l → ∀ az tv nw, p az = some (tv, nw) → ∀ k, KnP P k g az tv nw) → PureOk P (tabO l)
  | [], _ => fun f az tv nw h => by simp [tabO] at h
  | (g, p) :: l, hl => tab_cons (hl g p List.mem_cons_self) (tab_ok fun g p hm => hl g p (List.mem_cons_of_mem _ hm))
end Go.Ev
/- Programs read by an interpreter whose values are trees: closed calls that were reckoned are rows of an oracle. By an AI agent; over any program. -/
namespace Go.Ev
open Go Go.Gv Go.RowKit
noncomputable def eqT : Nat → T → T → Bool
  | 0, _, _ => false
  | k + 1, a, b => match a, b with
    | .v x, .v y => eqV x y
    | .sl cs n, .sl ds m => Nat.beq n m && eqLs (eqT k) cs ds
    | .st cs n, .st ds m => Nat.beq n m && eqLs (eqT k) cs ds
    | .fp cs, .fp ds => eqLs (eqT k) cs ds
    | .ag cs, .ag ds => eqLs (eqT k) cs ds
    | .tu cs, .tu ds => eqLs (eqT k) cs ds
    | .fn f cs, .fn g ds => Nat.beq f g && eqLs (eqT k) cs ds
    | _, _ => false
/-- One row: this call answers that. -/
noncomputable def rowE (az : List T) (r : T × Bool) (bs : List T) : Option (T × Bool) := bif eqLs (eqT 12) az bs then some r else none
theorem eqT_ok : ∀ (k : Nat) (a b : T), eqT k a b = true → a = b
  | 0, a, b, h => by cases h
  | k + 1, a, b, h => by
    simp only [eqT] at h
    split at h
    · rw [eqV_ok h]
    · simp only [Bool.and_eq_true] at h
      rw [beqN h.1, eqLs_ok (eqT_ok k) h.2]
    · simp only [Bool.and_eq_true] at h
      rw [beqN h.1, eqLs_ok (eqT_ok k) h.2]
    · rw [eqLs_ok (eqT_ok k) h]
    · rw [eqLs_ok (eqT_ok k) h]
    · rw [eqLs_ok (eqT_ok k) h]
    · simp only [Bool.and_eq_true] at h
      rw [beqN h.1, eqLs_ok (eqT_ok k) h.2]
    · cases h
section
variable {P : Program} {f : Nat} {az bs : List T} {tv : T} {nw : Bool}
theorem cleans_ok {B B2 : Bm} {r : Rd} : ∀ {az : List T} {vs : List Value}, az.all (clean 12) = true → Reps B r az vs → Reps B2 r az vs
  | [], [], _, _ => trivial
  | a :: az, v :: vs, h, hR => by
    simp only [List.all_cons, Bool.and_eq_true] at h
    exact ⟨clean_ok 12 h.1 hR.1, cleans_ok h.2 hR.2⟩
  | [], _ :: _, _, hR => hR.elim
  | _ :: _, [], _, hR => hR.elim
/-- Nothing own in it: own numbers do not matter. -/
theorem KnP.clean (h : KnP P 0 f az tv nw) (ha : az.all (clean 12) = true) (ht : clean 12 tv = true) (k : Nat) : KnP P k f az tv nw := by
  intro B w X vals R hI _ hX hR hk
  exact h ⟨fun _ => none, 0⟩ w X vals R hI (fun _ _ => rfl) hX (cleans_ok ha hR) fun v w' hu hv => hk v w' hu (clean_ok 12 ht hv)
theorem row_kn (h : KnP P 0 f az tv nw) (hc : (az.all (Ev.clean 12) && Ev.clean 12 tv) = true) {tv' : T} {nw' : Bool} (hr : rowE az (tv, nw) bs = some (tv', nw')) (k : Nat) : KnP P k f bs tv' nw' := by
  unfold rowE at hr
  cases hb : eqLs (eqT 12) az bs with
  | false => simp [hb] at hr
  | true =>
    obtain rfl := eqLs_ok (eqT_ok 12) hb
    simp only [hb, cond_true, Option.some.injEq, Prod.mk.injEq] at hr
    obtain ⟨rfl, rfl⟩ := hr
    simp only [Bool.and_eq_true] at hc
    exact h.clean hc.1 hc.2 k
/-- Calls with a memory of their own. -/
theorem orF_ok {O : Po} (hm : P.follows .mixedOrders = true) (hO : PureOk P O) (fs : List Nat) {rn : Rn} (hrn : RunOk P rn) : PureOk P (orF P O fs rn) := by
  intro f az tv nw h k
  unfold orF at h
  cases ho : O f az with
  | some r => simp only [ho, Option.some.injEq] at h; subst h; exact hO f az tv nw ho k
  | none =>
    simp only [ho] at h
    cases hc : hasN f fs && (az.map (unN 12)).all (Ev.clean 12) with
    | false => rw [hc] at h; cases h
    | true =>
      simp only [hc, cond_true] at h
      simp only [Bool.and_eq_true] at hc
      cases hf : freshE P rn 0 f (az.map (unN 12)) with
      | none => simp [hf, cleanR] at h
      | some r =>
        obtain ⟨t, b⟩ := r
        simp only [hf, cleanR] at h
        cases hct : Ev.clean 12 t with
        | false => simp [hct] at h
        | true =>
          simp only [hct, cond_true, Option.some.injEq, Prod.mk.injEq] at h
          obtain ⟨rfl, rfl⟩ := h
          exact ((fresh_ok (enter_ok hm hrn) hf).clean hc.2 hct k).unN
/-- A closed call, reckoned. -/
theorem ev_row {SO : Oo} {O : Po} (hm : P.follows .mixedOrders = true) (hS : SoOk P SO) (hO : PureOk P O) (fs : List Nat) {n : Nat} (h : freshE P (evC P SO (orF P O fs) n) 0 f az = some (tv, nw)) : KnP P 0 f az tv nw :=
  ev_call hm hS (fun _ hrn => orF_ok hm hO fs hrn) h
/-- A table, with one row more. -/
theorem PureOk.cons {l : List (Nat × (List T → Option (T × Bool)))} (hl : PureOk P (tabO l)) (h : KnP P 0 f az tv nw) (hc : (az.all (Ev.clean 12) && Ev.clean 12 tv) = true) : PureOk P (tabO ((f, rowE az (tv, nw)) :: l)) :=
  tab_cons (fun _ _ _ hr k => row_kn h hc hr k) hl
end
end Go.Ev
/- Programs read by an interpreter whose values are trees: oracles over rational numbers. By an AI agent; over any program. -/
namespace Go.Ev
open Go Go.Gv Go.RowKit
noncomputable def pRR (g : Raw → Raw → Option (Raw × Int)) : List Ar → Option Rs
  | [.r a, .r b] => (match g a b with | some (c, e) => some (.tup [.r c, .i e]) | none => none)
  | _ => none
noncomputable def pRI (g : Raw → Raw → Int × Int) : List Ar → Option Rs
  | [.r a, .r b] => some (.tup [.i (g a b).1, .i (g a b).2])
  | _ => none
noncomputable def pR (g : Raw → Int) : List Ar → Option Rs
  | [.r a] => some (.one (.i (g a)))
  | _ => none
noncomputable def pB (g : Raw → Raw → Bool) : List Ar → Option Rs
  | [.r a, .r b] => some (.one (.b (g a b)))
  | _ => none
noncomputable def i64B : Int → Bool
  | .ofNat n => Nat.ble n 9223372036854775807
  | .negSucc n => Nat.ble n 9223372036854775807
noncomputable def nz : Int → Bool
  | .ofNat n => !Nat.beq n 0
  | .negSucc _ => true
noncomputable def pI (g : Int → Raw) : List Ar → Option Rs
  | [.i n] => bif i64B n then some (.one (.r (g n))) else none
  | _ => none
noncomputable def pII (g : Int → Int → Raw) : List Ar → Option Rs
  | [.i n, .i m] => bif (i64B n && i64B m) && nz m then some (.tup [.r (g n m), .i 0]) else none
  | _ => none
theorem i64B_ok {n : Int} (h : i64B n = true) : -9223372036854775808 ≤ n ∧ n ≤ 9223372036854775807 := by
  cases n with
  | ofNat n => simp only [i64B, Nat.ble_eq] at h; exact ⟨by rw [Int.ofNat_eq_natCast]; omega, by rw [Int.ofNat_eq_natCast]; omega⟩
  | negSucc n => simp only [i64B, Nat.ble_eq] at h; rw [Int.negSucc_eq]; omega
theorem nz_ok {n : Int} (h : nz n = true) : n ≠ 0 := by
  cases n with
  | ofNat n => simp only [nz] at h; intro e; cases n with
    | zero => simp at h
    | succ n => cases e
  | negSucc n => simp
section
variable {P : Program} {f : Nat}
theorem kc_rr {g : Raw → Raw → Option (Raw × Int)} (h : ∀ (w : World) (X : Hid) (_ : ∀ b o, X b o → b < w.heap.size) (a : Raw) (va : Value) (_ : RawX X w va a) (b : Raw) (vb : Value) (_ : RawX X w vb b) (y : Raw × Int), g a b = some y →
    Calls P f #[va, vb] w (Ret E0 w fun w' v => ∃ u, v = .tuple #[u, .int .i64 y.2] ∧ RawX (old w) w' u y.1)) : KC P f (pRR g) true := by
  intro w X hX az vs hv y hp
  unfold pRR at hp
  split at hp
  · rename_i a b
    match vs, hv with
    | [va, vb], ⟨ha, hb, _⟩ =>
      cases hg : g a b with
      | none => simp [hg] at hp
      | some z =>
        obtain ⟨c, e⟩ := z
        simp only [hg, Option.some.injEq] at hp
        subst hp
        refine (h w X hX a va ha b vb hb (c, e) hg).mono ?_
        rintro e' w' ⟨hu, v, rfl, u, rfl, hr⟩
        exact ⟨hu, _, rfl, [u, .int .i64 e], rfl, hr, rfl, trivial⟩
  · cases hp
theorem kc_ri {g : Raw → Raw → Int × Int} (h : ∀ (w : World) (X : Hid) (_ : ∀ b o, X b o → b < w.heap.size) (a : Raw) (va : Value) (_ : RawX X w va a) (b : Raw) (vb : Value) (_ : RawX X w vb b),
    Calls P f #[va, vb] w (Ret E0 w fun _ v => v = .tuple #[.int .i64 (g a b).1, .int .i64 (g a b).2])) : KC P f (pRI g) true := by
  intro w X hX az vs hv y hp
  unfold pRI at hp
  split at hp
  · rename_i a b
    match vs, hv with
    | [va, vb], ⟨ha, hb, _⟩ =>
      cases hp
      refine (h w X hX a va ha b vb hb).mono ?_
      rintro e' w' ⟨hu, v, rfl, rfl⟩
      exact ⟨hu, _, rfl, [.int .i64 (g a b).1, .int .i64 (g a b).2], rfl, rfl, rfl, trivial⟩
  · cases hp
theorem kc_r {g : Raw → Int} (h : ∀ (w : World) (X : Hid) (_ : ∀ b o, X b o → b < w.heap.size) (a : Raw) (va : Value) (_ : RawX X w va a), Calls P f #[va] w (Ret E0 w fun _ v => v = .int .i64 (g a))) : KC P f (pR g) true := by
  intro w X hX az vs hv y hp
  unfold pR at hp
  split at hp
  · rename_i a
    match vs, hv with
    | [va], ⟨ha, _⟩ =>
      cases hp
      refine (h w X hX a va ha).mono ?_
      rintro e' w' ⟨hu, v, rfl, rfl⟩
      exact ⟨hu, _, rfl, rfl⟩
  · cases hp
theorem kc_b {g : Raw → Raw → Bool} (h : ∀ (w : World) (X : Hid) (_ : ∀ b o, X b o → b < w.heap.size) (a : Raw) (va : Value) (_ : RawX X w va a) (b : Raw) (vb : Value) (_ : RawX X w vb b),
    Calls P f #[va, vb] w (Ret E0 w fun _ v => v = .bool (g a b))) : KC P f (pB g) true := by
  intro w X hX az vs hv y hp
  unfold pB at hp
  split at hp
  · rename_i a b
    match vs, hv with
    | [va, vb], ⟨ha, hb, _⟩ =>
      cases hp
      refine (h w X hX a va ha b vb hb).mono ?_
      rintro e' w' ⟨hu, v, rfl, rfl⟩
      exact ⟨hu, _, rfl, rfl⟩
  · cases hp
theorem kc_i {g : Int → Raw} (h : ∀ (w : World) (n : Int), -9223372036854775808 ≤ n → n ≤ 9223372036854775807 → Calls P f #[.int .i64 n] w (Ret E0 w fun w' v => RawX (old w) w' v (g n))) : KC P f (pI g) true := by
  intro w X hX az vs hv y hp
  unfold pI at hp
  split at hp
  · rename_i n
    match vs, hv with
    | [va], ⟨hv1, _⟩ =>
      have hv1 : va = .int .i64 n := hv1
      subst hv1
      cases hb : i64B n with
      | false => simp [hb] at hp
      | true =>
        simp only [hb, cond_true, Option.some.injEq] at hp
        subst hp
        refine (h w n (i64B_ok hb).1 (i64B_ok hb).2).mono ?_
        rintro e' w' ⟨hu, v, rfl, hr⟩
        exact ⟨hu, _, rfl, hr⟩
  · cases hp
theorem kc_ii {g : Int → Int → Raw} (h : ∀ (w : World) (n m : Int), -9223372036854775808 ≤ n → n ≤ 9223372036854775807 → -9223372036854775808 ≤ m → m ≤ 9223372036854775807 → m ≠ 0 →
    Calls P f #[.int .i64 n, .int .i64 m] w (Ret E0 w fun w' v => ∃ u, v = .tuple #[u, .int .i64 0] ∧ RawX (old w) w' u (g n m))) : KC P f (pII g) true := by
  intro w X hX az vs hv y hp
  unfold pII at hp
  split at hp
  · rename_i n m
    match vs, hv with
    | [va, vb], ⟨hv1, hv2, _⟩ =>
      have hv1 : va = .int .i64 n := hv1
      have hv2 : vb = .int .i64 m := hv2
      subst hv1; subst hv2
      cases hb : (i64B n && i64B m) && nz m with
      | false => simp [hb] at hp
      | true =>
        simp only [hb, cond_true, Option.some.injEq] at hp
        subst hp
        simp only [Bool.and_eq_true] at hb
        refine (h w n m (i64B_ok hb.1.1).1 (i64B_ok hb.1.1).2 (i64B_ok hb.1.2).1 (i64B_ok hb.1.2).2 (nz_ok hb.2)).mono ?_
        rintro e' w' ⟨hu, v, rfl, u, rfl, hr⟩
        exact ⟨hu, _, rfl, [u, .int .i64 0], rfl, hr, rfl, trivial⟩
  · cases hp
end
end Go.Ev
/- The oracle for numbers; printed by a program of this repo. By an AI agent. -/
namespace Go.Proofs.YtdfmdiakjdggbaaGreatDoor
open Go Go.Gv Go.Ev Go.RowKit
theorem kAdd : KC Tryz.prog 34 (pRR fun a b => some (opR a b (a.rat + b.rat), opE a b (a.rat + b.rat))) true := kc_rr fun w X hX a va ha b vb hb y hy => by
  obtain ⟨_, _, _, _, _, _, rfl, h1, h2⟩ := ha
  obtain ⟨_, _, _, _, _, _, rfl, h3, h4⟩ := hb
  cases hy
  exact rAdd_c w X hX a _ _ _ h1 _ _ _ h2 b _ _ _ h3 _ _ _ h4
theorem kMul : KC Tryz.prog 49 (pRR fun a b => some (opR a b (a.rat * b.rat), opE a b (a.rat * b.rat))) true := kc_rr fun w X hX a va ha b vb hb y hy => by
  obtain ⟨_, _, _, _, _, _, rfl, h1, h2⟩ := ha
  obtain ⟨_, _, _, _, _, _, rfl, h3, h4⟩ := hb
  cases hy
  exact rMul_c w X hX a _ _ _ h1 _ _ _ h2 b _ _ _ h3 _ _ _ h4
theorem kSub : KC Tryz.prog 48 (pRR fun a b => some (opR a b (a.rat - b.rat), opE a b (a.rat - b.rat))) true := kc_rr fun w X hX a va ha b vb hb y hy => by
  obtain ⟨_, _, _, _, _, _, rfl, h1, h2⟩ := ha
  obtain ⟨_, _, _, _, _, _, rfl, h3, h4⟩ := hb
  cases hy
  exact rSub_c w X hX a _ _ _ h1 _ _ _ h2 b _ _ _ h3 _ _ _ h4
theorem kDiv : KC Tryz.prog 80 (pRR fun a b => bif Nat.beq (val b.ln) 0 then none else some (opR a b (a.rat / b.rat), opE a b (a.rat / b.rat))) true := kc_rr fun w X hX a va ha b vb hb y hy => by
  obtain ⟨_, _, _, _, _, _, rfl, h1, h2⟩ := ha
  obtain ⟨_, _, _, _, _, _, rfl, h3, h4⟩ := hb
  cases h0 : Nat.beq (val b.ln) 0 with
  | true => simp [h0] at hy
  | false =>
    simp only [h0, cond_false] at hy
    cases hy
    exact rDiv_c w X hX a _ _ _ h1 _ _ _ h2 b _ _ _ h3 _ _ _ h4 (fun e => by rw [e] at h0; cases h0)
theorem kCmp : KC Tryz.prog 33 (pRI fun a b => (cmpR a b, cmpE a b)) true := kc_ri fun w X hX a va ha b vb hb => by
  obtain ⟨_, _, _, _, _, _, rfl, h1, h2⟩ := ha
  obtain ⟨_, _, _, _, _, _, rfl, h3, h4⟩ := hb
  exact rCmp_c w X hX a _ _ _ h1 _ _ _ h2 b _ _ _ h3 _ _ _ h4
theorem kChk : KC Tryz.prog 75 (pR Raw.chk) true := kc_r fun w X hX a va ha => by
  obtain ⟨_, _, _, _, _, _, rfl, h1, h2⟩ := ha
  exact rcheck_c w X hX a _ _ _ h1 _ _ _ h2
theorem kChk6 : KC Tryz.prog 73 (pR Raw.chk) true := kc_r fun w X hX a va ha => by
  obtain ⟨_, _, _, _, _, _, rfl, h1, h2⟩ := ha
  exact rcheck6_c w X hX a _ _ _ h1 _ _ _ h2
theorem kFrom : KC Tryz.prog 47 (pI fun n => Raw.of (n : Rat)) true := kc_i fun w n h1 h2 => rFrom_c w (old w) (fun k _ h => h) n h1 h2
theorem kFrom6 : KC Tryz.prog 51 (pI fun n => Raw.of (n : Rat)) true := kc_i fun w n h1 h2 => rFrom6_c w (old w) (fun k _ h => h) n h1 h2
theorem kOf : KC Tryz.prog 126 (pII fun n m => Raw.of (mkRat (sgn (!(decide (n < 0) == decide (m < 0))) n.natAbs) m.natAbs)) true := kc_ii fun w n m h1 h2 h3 h4 h5 => rOf_c w (old w) (fun k _ h => h) n m h1 h2 h3 h4 h5
theorem kOf6 : KC Tryz.prog 53 (pII fun n m => Raw.of (mkRat (sgn (decide (n < 0) != decide (m < 0)) n.natAbs) m.natAbs)) true := kc_ii fun w n m h1 h2 h3 h4 h5 => rOf6_c w (old w) (fun k _ h => h) n m h1 h2 h3 h4 h5
theorem kEq : KC Tryz.prog 37 (pB fun a b => decide (a = b)) true := kc_b fun w X hX a va ha b vb hb => by
  obtain ⟨_, _, _, _, _, _, rfl, h1, h2⟩ := ha
  obtain ⟨_, _, _, _, _, _, rfl, h3, h4⟩ := hb
  exact EqualRat_c w X hX a _ _ _ h1 _ _ _ h2 b _ _ _ h3 _ _ _ h4
noncomputable def numTab : List (Nat × (List T → Option (T × Bool))) := [(34, kcE (pRR fun a b => some (opR a b (a.rat + b.rat), opE a b (a.rat + b.rat))) true), (49, kcE (pRR fun a b => some (opR a b (a.rat * b.rat), opE a b (a.rat * b.rat))) true), (48, kcE (pRR fun a b => some (opR a b (a.rat - b.rat), opE a b (a.rat - b.rat))) true), (80, kcE (pRR fun a b => bif Nat.beq (val b.ln) 0 then none else some (opR a b (a.rat / b.rat), opE a b (a.rat / b.rat))) true), (33, kcE (pRI fun a b => (cmpR a b, cmpE a b)) true), (75, kcE (pR Raw.chk) true), (73, kcE (pR Raw.chk) true), (47, kcE (pI fun n => Raw.of (n : Rat)) true), (51, kcE (pI fun n => Raw.of (n : Rat)) true), (126, kcE (pII fun n m => Raw.of (mkRat (sgn (!(decide (n < 0) == decide (m < 0))) n.natAbs) m.natAbs)) true), (53, kcE (pII fun n m => Raw.of (mkRat (sgn (decide (n < 0) != decide (m < 0)) n.natAbs) m.natAbs)) true), (37, kcE (pB fun a b => decide (a = b)) true)]
theorem num_ok : PureOk Tryz.prog (tabO numTab) := tab_ok fun g p hm ts tv nw h k => by
  simp only [numTab, List.mem_cons, List.not_mem_nil, or_false, Prod.mk.injEq] at hm
  rcases hm with ⟨rfl, rfl⟩ | ⟨rfl, rfl⟩ | ⟨rfl, rfl⟩ | ⟨rfl, rfl⟩ | ⟨rfl, rfl⟩ | ⟨rfl, rfl⟩ | ⟨rfl, rfl⟩ | ⟨rfl, rfl⟩ | ⟨rfl, rfl⟩ | ⟨rfl, rfl⟩ | ⟨rfl, rfl⟩ | ⟨rfl, rfl⟩
  · exact kc_kn kAdd h k
  · exact kc_kn kMul h k
  · exact kc_kn kSub h k
  · exact kc_kn kDiv h k
  · exact kc_kn kCmp h k
  · exact kc_kn kChk h k
  · exact kc_kn kChk6 h k
  · exact kc_kn kFrom h k
  · exact kc_kn kFrom6 h k
  · exact kc_kn kOf h k
  · exact kc_kn kOf6 h k
  · exact kc_kn kEq h k
end Go.Proofs.YtdfmdiakjdggbaaGreatDoor
/- strings.Builder and strconv.Itoa at this program, by the library's contracts. By an AI agent. -/
namespace Go.Proofs.YtdfmdiakjdggbaaGreatDoor
open Go Go.RowKit Go.Shelf
set_option maxRecDepth 100000
set_option maxHeartbeats 1000000
def bSRen : Go.Shelf.Ren := ⟨fun | 166 => 201 | 240 => 257 | 276 => 276 | n => n, fun | 0 => 0 | 3 => 3 | 4 => 4 | 5 => 5 | 9 => 9 | 20 => 20 | 37 => 99 | 70 => 257 | 72 => 259 | 75 => 261 | 80 => 266 | 164 => 329 | n => n, fun n => n⟩
theorem bSLays : Go.Proofs.Lays.n166 Tryz.prog bSRen := { mixed := by kernel_rfl, f166 := Tryz.func201.trans (congrArg some (by kernel_rfl)), f240 := Tryz.func257.trans (congrArg some (by kernel_rfl)), f276 := Tryz.func276.trans (congrArg some (by kernel_rfl)), t0 := Tryz.underlying0, a0 := Tryz.isAgg0, z0 := Tryz.sizeOf0, v0 := Tryz.zeroValue0, t3 := Tryz.underlying3, a3 := Tryz.isAgg3, z3 := Tryz.sizeOf3, v3 := Tryz.zeroValue3, t4 := Tryz.underlying4, a4 := Tryz.isAgg4, z4 := Tryz.sizeOf4, v4 := Tryz.zeroValue4, t9 := Tryz.underlying9, a9 := Tryz.isAgg9, z9 := Tryz.sizeOf9, v9 := Tryz.zeroValue9, t20 := Tryz.underlying20, a20 := Tryz.isAgg20, z20 := Tryz.sizeOf20, v20 := Tryz.zeroValue20, t37 := Tryz.underlying99, a37 := Tryz.isAgg99, z37 := Tryz.sizeOf99, v37 := Tryz.zeroValue99, t70 := Tryz.underlying257, a70 := Tryz.isAgg257, z70 := Tryz.sizeOf257, v70 := Tryz.zeroValue257, t72 := Tryz.underlying259, a72 := Tryz.isAgg259, z72 := Tryz.sizeOf259, v72 := Tryz.zeroValue259, t75 := Tryz.underlying261, a75 := Tryz.isAgg261, z75 := Tryz.sizeOf261, v75 := Tryz.zeroValue261, t164 := Tryz.underlying329, a164 := Tryz.isAgg329, z164 := Tryz.sizeOf329, v164 := Tryz.zeroValue329 }
def bBRen : Go.Shelf.Ren := ⟨fun | 167 => 203 | 240 => 257 | 276 => 276 | n => n, fun | 0 => 0 | 3 => 3 | 4 => 4 | 5 => 5 | 9 => 9 | 20 => 20 | 37 => 99 | 70 => 257 | 72 => 259 | 75 => 261 | 80 => 266 | 164 => 329 | n => n, fun n => n⟩
theorem bBLays : Go.Proofs.Lays.n167 Tryz.prog bBRen := { mixed := by kernel_rfl, f167 := Tryz.func203.trans (congrArg some (by kernel_rfl)), f240 := Tryz.func257.trans (congrArg some (by kernel_rfl)), f276 := Tryz.func276.trans (congrArg some (by kernel_rfl)), t0 := Tryz.underlying0, a0 := Tryz.isAgg0, z0 := Tryz.sizeOf0, v0 := Tryz.zeroValue0, t4 := Tryz.underlying4, a4 := Tryz.isAgg4, z4 := Tryz.sizeOf4, v4 := Tryz.zeroValue4, t5 := Tryz.underlying5, a5 := Tryz.isAgg5, z5 := Tryz.sizeOf5, v5 := Tryz.zeroValue5, t9 := Tryz.underlying9, a9 := Tryz.isAgg9, z9 := Tryz.sizeOf9, v9 := Tryz.zeroValue9, t20 := Tryz.underlying20, a20 := Tryz.isAgg20, z20 := Tryz.sizeOf20, v20 := Tryz.zeroValue20, t37 := Tryz.underlying99, a37 := Tryz.isAgg99, z37 := Tryz.sizeOf99, v37 := Tryz.zeroValue99, t70 := Tryz.underlying257, a70 := Tryz.isAgg257, z70 := Tryz.sizeOf257, v70 := Tryz.zeroValue257, t72 := Tryz.underlying259, a72 := Tryz.isAgg259, z72 := Tryz.sizeOf259, v72 := Tryz.zeroValue259, t75 := Tryz.underlying261, a75 := Tryz.isAgg261, z75 := Tryz.sizeOf261, v75 := Tryz.zeroValue261, t164 := Tryz.underlying329, a164 := Tryz.isAgg329, z164 := Tryz.sizeOf329, v164 := Tryz.zeroValue329 }
def bTRen : Go.Shelf.Ren := ⟨fun | 169 => 204 | n => n, fun | 70 => 257 | 9 => 9 | 0 => 0 | 72 => 259 | 37 => 99 | 127 => 313 | 3 => 3 | 5 => 5 | n => n, fun n => n⟩
theorem bTLays : Go.Proofs.Lays.n169 Tryz.prog bTRen := { mixed := by kernel_rfl, f169 := Tryz.func204.trans (congrArg some (by kernel_rfl)), t0 := Tryz.underlying0, a0 := Tryz.isAgg0, z0 := Tryz.sizeOf0, v0 := Tryz.zeroValue0, t3 := Tryz.underlying3, a3 := Tryz.isAgg3, z3 := Tryz.sizeOf3, v3 := Tryz.zeroValue3, t9 := Tryz.underlying9, a9 := Tryz.isAgg9, z9 := Tryz.sizeOf9, v9 := Tryz.zeroValue9, t37 := Tryz.underlying99, a37 := Tryz.isAgg99, z37 := Tryz.sizeOf99, v37 := Tryz.zeroValue99, t70 := Tryz.underlying257, a70 := Tryz.isAgg257, z70 := Tryz.sizeOf257, v70 := Tryz.zeroValue257, t72 := Tryz.underlying259, a72 := Tryz.isAgg259, z72 := Tryz.sizeOf259, v72 := Tryz.zeroValue259, t127 := Tryz.underlying313, a127 := Tryz.isAgg313, z127 := Tryz.sizeOf313, v127 := Tryz.zeroValue313 }
def bIRen : Go.Shelf.Ren := ⟨fun | 171 => 202 | 243 => 258 | 246 => 277 | 283 => 290 | 284 => 291 | 285 => 292 | 286 => 293 | 129 => 310 | 317 => 311 | 318 => 312 | 319 => 313 | 320 => 314 | 337 => 320 | 338 => 321 | n => n, fun | 3 => 3 | 9 => 9 | 2 => 2 | 4 => 4 | 171 => 341 | 0 => 0 | 53 => 226 | 37 => 99 | 5 => 5 | 173 => 344 | 212 => 358 | 51 => 214 | 20 => 20 | 213 => 359 | 46 => 185 | 232 => 369 | 233 => 370 | n => n, fun | 17 => 0 | 18 => 1 | 19 => 2 | n => n⟩
theorem bILays : Go.Proofs.LaysM.n171 Tryz.prog bIRen := { mixed := by kernel_rfl, f129 := Tryz.func310.trans (congrArg some (by kernel_rfl)), f171 := Tryz.func202.trans (congrArg some (by kernel_rfl)), f243 := Tryz.func258.trans (congrArg some (by kernel_rfl)), f246 := Tryz.func277.trans (congrArg some (by kernel_rfl)), f283 := Tryz.func290.trans (congrArg some (by kernel_rfl)), f284 := Tryz.func291.trans (congrArg some (by kernel_rfl)), f285 := Tryz.func292.trans (congrArg some (by kernel_rfl)), f286 := Tryz.func293.trans (congrArg some (by kernel_rfl)), f317 := Tryz.func311.trans (congrArg some (by kernel_rfl)), f318 := Tryz.func312.trans (congrArg some (by kernel_rfl)), f319 := Tryz.func313.trans (congrArg some (by kernel_rfl)), f320 := Tryz.func314.trans (congrArg some (by kernel_rfl)), f337 := Tryz.func320.trans (congrArg some (by kernel_rfl)), f338 := Tryz.func321.trans (congrArg some (by kernel_rfl)), t0 := Tryz.underlying0, a0 := Tryz.isAgg0, z0 := Tryz.sizeOf0, v0 := Tryz.zeroValue0, t2 := Tryz.underlying2, a2 := Tryz.isAgg2, z2 := Tryz.sizeOf2, v2 := Tryz.zeroValue2, t3 := Tryz.underlying3, a3 := Tryz.isAgg3, z3 := Tryz.sizeOf3, v3 := Tryz.zeroValue3, t4 := Tryz.underlying4, a4 := Tryz.isAgg4, z4 := Tryz.sizeOf4, v4 := Tryz.zeroValue4, t5 := Tryz.underlying5, a5 := Tryz.isAgg5, z5 := Tryz.sizeOf5, v5 := Tryz.zeroValue5, t9 := Tryz.underlying9, a9 := Tryz.isAgg9, z9 := Tryz.sizeOf9, v9 := Tryz.zeroValue9, t20 := Tryz.underlying20, a20 := Tryz.isAgg20, z20 := Tryz.sizeOf20, v20 := Tryz.zeroValue20, t37 := Tryz.underlying99, a37 := Tryz.isAgg99, z37 := Tryz.sizeOf99, v37 := Tryz.zeroValue99, t46 := Tryz.underlying185, a46 := Tryz.isAgg185, z46 := Tryz.sizeOf185, v46 := Tryz.zeroValue185, t51 := Tryz.underlying214, a51 := Tryz.isAgg214, z51 := Tryz.sizeOf214, v51 := Tryz.zeroValue214, t53 := Tryz.underlying226, a53 := Tryz.isAgg226, z53 := Tryz.sizeOf226, v53 := Tryz.zeroValue226, t171 := Tryz.underlying341, a171 := Tryz.isAgg341, z171 := Tryz.sizeOf341, v171 := Tryz.zeroValue341, t173 := Tryz.underlying344, a173 := Tryz.isAgg344, z173 := Tryz.sizeOf344, v173 := Tryz.zeroValue344, t212 := Tryz.underlying358, a212 := Tryz.isAgg358, z212 := Tryz.sizeOf358, v212 := Tryz.zeroValue358, t213 := Tryz.underlying359, a213 := Tryz.isAgg359, z213 := Tryz.sizeOf359, t232 := Tryz.underlying369, a232 := Tryz.isAgg369, z232 := Tryz.sizeOf369, v232 := Tryz.zeroValue369, t233 := Tryz.underlying370, a233 := Tryz.isAgg370, z233 := Tryz.sizeOf370, v233 := Tryz.zeroValue370, g17 := by kernel_rfl, g18 := by kernel_rfl, g19 := by kernel_rfl, i0 := by kernel_rfl, i2 := by kernel_rfl, i3 := by kernel_rfl, i4 := by kernel_rfl, i5 := by kernel_rfl, i9 := by kernel_rfl, i20 := by kernel_rfl, i37 := by kernel_rfl, i46 := by kernel_rfl, i51 := by kernel_rfl, i53 := by kernel_rfl, i171 := by kernel_rfl, i173 := by kernel_rfl, i212 := by kernel_rfl, i232 := by kernel_rfl, i233 := by kernel_rfl, m17 := by kernel_rfl, m18 := by kernel_rfl, m19 := by kernel_rfl }
theorem bSX : Builder.Extra Tryz.prog bSRen := { sizeBuilder := by kernel_rfl, liesBuilder := by kernel_rfl, t5 := Tryz.underlying5, a5 := Tryz.isAgg5, z5 := Tryz.sizeOf5, v5 := Tryz.zeroValue5, infoByte := by kernel_rfl, cellsByte := by kernel_rfl, sizeByte := by kernel_rfl, neB5 := by decide }
theorem bBX : Builder.Extra Tryz.prog bBRen := { sizeBuilder := by kernel_rfl, liesBuilder := by kernel_rfl, t5 := Tryz.underlying5, a5 := Tryz.isAgg5, z5 := Tryz.sizeOf5, v5 := Tryz.zeroValue5, infoByte := by kernel_rfl, cellsByte := by kernel_rfl, sizeByte := by kernel_rfl, neB5 := by decide }
theorem bTX : Builder.Extra Tryz.prog bTRen := { sizeBuilder := by kernel_rfl, liesBuilder := by kernel_rfl, t5 := Tryz.underlying5, a5 := Tryz.isAgg5, z5 := Tryz.sizeOf5, v5 := Tryz.zeroValue5, infoByte := by kernel_rfl, cellsByte := by kernel_rfl, sizeByte := by kernel_rfl, neB5 := by decide }

theorem writeString_k (B b : Nat) (bs : List Value) (s : ByteArray) (w : World) (h : Lib.IsBuilder 259 5 B b bs w) (hlen : bs.length + s.size ≤ 140737488355328) (hBw : B ≤ w.heap.size) :
    Calls Tryz.prog 201 #[.pointer (some ⟨b, 0, none⟩), .string s] w fun e w' => e = .returned (.tuple #[.int .i64 s.size, .nilIface]) ∧ (Lib.BuilderAt 259 5 B b (.pointer (some ⟨b, 0, none⟩)) (bs ++ Lib.strCells s) w' ∧ Below B w w') := Any.Builder_WriteString bSLays bSX B b bs s w h hlen hBw
theorem writeByte_k (B b : Nat) (bs : List Value) (c : Int) (w : World) (h : Lib.IsBuilder 259 5 B b bs w) (hlen : bs.length + 1 ≤ 140737488355328) (hBw : B ≤ w.heap.size) :
    Calls Tryz.prog 203 #[.pointer (some ⟨b, 0, none⟩), .int .u8 c] w fun e w' => e = .returned .nilIface ∧ (Lib.BuilderAt 259 5 B b (.pointer (some ⟨b, 0, none⟩)) (bs ++ [.int .u8 c]) w' ∧ Below B w w') := Any.Builder_WriteByte bBLays bBX B b bs c w h hlen hBw
theorem string_k (B b : Nat) (l : List UInt8) (w : World) (h : Lib.IsBuilder 259 5 B b (Lib.byteCells l) w) (hBw : B ≤ w.heap.size) :
    Calls Tryz.prog 204 #[.pointer (some ⟨b, 0, none⟩)] w fun e w' => e = .returned (.string ⟨l.toArray⟩) ∧ Below B w w' := Any.Builder_String_any bTLays bTX B b l w h hBw
theorem itoa_k (i : Int) (h0 : -9223372036854775808 ≤ i) (h1 : i ≤ 9223372036854775807) (w : World) (ht : Lib.TabIs Tryz.prog w "internal/strconv.uint64pow10" .u64 Lib.pow10Tab) : Calls Tryz.prog 202 #[.int .i64 i] w fun e w' => e = .returned (.string ⟨(Lib.itoa i).toArray⟩) ∧ ∃ k os, w' = Sort.grow (w.drewN k) os := Any.strconv_Itoa bILays i h0 h1 w ht
theorem pow_g : Tryz.prog.globalNamed "internal/strconv.uint64pow10" = some 0 := by kernel_rfl
theorem pow_tab {l : List (String × DataW Unit)} {W : World} (h : laidMetH Tryz.prog l W) (hf : l.filter (fun x => x.1 == "internal/strconv.uint64pow10") = [("internal/strconv.uint64pow10", Lib.tabData .u64 Lib.pow10Tab)]) : Lib.TabIs Tryz.prog W "internal/strconv.uint64pow10" .u64 Lib.pow10Tab := by
  have h1 := h.filter fun x => x.1 == "internal/strconv.uint64pow10"
  rw [hf, MakeChecks.laidMetH_plain _ _ _ (by kernel_rfl)] at h1
  exact Lib.tabIs_of_head (rest := []) pow_g (by kernel_rfl) Tryz.underlying358 Tryz.underlying185 (by kernel_rfl) (by kernel_rfl) h1
end Go.Proofs.YtdfmdiakjdggbaaGreatDoor
/- pack.key: the text of a row of small numbers. By an AI agent. -/
namespace Go.Proofs.YtdfmdiakjdggbaaGreatDoor
open Go Go.RowKit
def digF : Nat → Nat → List UInt8
  | 0, _ => []
  | n + 1, x => bif Nat.blt x 10 then [UInt8.ofNat (48 + x)] else digF n (x / 10) ++ [UInt8.ofNat (48 + x % 10)]
theorem digF_eq : ∀ {n x : Nat}, x < 10 ^ n → 0 < n → digF n x = Lib.decDigits x
  | 0, _, _, h => absurd h (by omega)
  | n + 1, x, h, _ => by
    rw [Lib.decDigits, digF]
    by_cases h1 : x < 10
    · have : Nat.blt x 10 = true := by simpa [Nat.blt_eq] using h1
      simp [h1, this]
    · have : Nat.blt x 10 = false := by
        cases hb : Nat.blt x 10
        · rfl
        · rw [Nat.blt_eq] at hb; exact absurd hb h1
      rw [Nat.pow_succ] at h
      have hn : 0 < n := by
        rcases Nat.eq_zero_or_pos n with rfl | h'
        · simp at h; omega
        · exact h'
      rw [digF_eq (n := n) (x := x / 10) (by omega) hn]
      simp [h1, this]
def digs (x : Nat) : List UInt8 := digF 20 x
theorem digs_eq {x : Nat} (h : x ≤ 9223372036854775807) : Lib.itoa (x : Int) = digs x := by
  rw [Lib.itoa_nonneg]
  exact (digF_eq (by omega) (by omega)).symm
theorem digs_len {x : Nat} (h : x ≤ 9223372036854775807) : (digs x).length ≤ 21 := by
  rw [← digs_eq h]
  exact Lib.itoa_length_le _ (by omega) (by omega)
def keyB : List Nat → List UInt8
  | [] => []
  | x :: l => digs x ++ (32 :: keyB l)
theorem keyB_snoc : ∀ (l : List Nat) (x : Nat), keyB (l ++ [x]) = (keyB l ++ digs x) ++ [32]
  | [], x => by simp [keyB]
  | y :: l, x => by simp [keyB, keyB_snoc l x, List.append_assoc]
theorem kept_B {T e : TypeId} {B b : Nat} {bs : List Value} {w : World} (h : Lib.IsBuilder T e B b bs w) (k : Nat) (os : Array Obj) : Lib.IsBuilder T e B b bs (Sort.grow (w.drewN k) os) := by
  have q : ∀ p, Lib.BuilderAt T e B b p bs w → Lib.BuilderAt T e B b p bs (Sort.grow (w.drewN k) os) := fun p h => by
    have hl := h.lt
    obtain ⟨h1, v, h2, h3, h4⟩ := h
    exact ⟨h1, v, by rw [Lib.heap_grow_old w k os b hl]; exact h2, Lib.ownsRow_grow h3 k os, h4⟩
  exact h.elim (fun h => .inl (q _ h)) fun h => .inr (q _ h)
set_option maxHeartbeats 4000000 in
set_option maxRecDepth 1000000 in
theorem key_walk (b off c : Nat) (l : List Nat) (w : World) (hl : l.length * 22 ≤ 140737488355328) (hx : ∀ x ∈ l, x ≤ 9223372036854775807) (ht : Lib.TabIs Tryz.prog w "internal/strconv.uint64pow10" .u64 Lib.pow10Tab) (hc : ∀ (k x : Nat), l[k]? = some x → w.cell? ⟨b, off + k, none⟩ = some (.int .i64 x)) :
    Calls Tryz.prog 130 #[.slice (some ⟨b, off, none⟩) l.length c] w fun e w' => e = .returned (.string ⟨(keyB l).toArray⟩) ∧ Below w.heap.size w w' := by
  go_enter Tryz.func130, Tryz.ntmps130
  go_wp2
  go_loopw [8] (fun i wr => ∃ k : Nat, k ≤ l.length ∧ i = .int .i64 k ∧ Lib.IsBuilder 259 5 w.heap.size w.heap.size (Lib.byteCells (keyB (l.take k))) wr ∧ Below w.heap.size w wr ∧ (keyB (l.take k)).length ≤ 22 * k) (fun i _ => l.length - (intOf i).toNat)
  case atStart => exact ⟨0, Nat.zero_le _, rfl, Lib.fresh_isBuilder 259 5 w, (Below.refl _ w).alloc (Nat.le_refl _) _, by simp [keyB]⟩
  case round =>
    obtain ⟨k, hk, rfl, hI, hbw, hle⟩ := hrel
    have hsz := hbw.size
    by_cases hlt : k < l.length
    · obtain ⟨x, hx1⟩ : ∃ x, l[k]? = some x := ⟨l[k], by simp [hlt]⟩
      have hxl := hx x (List.mem_of_getElem? hx1)
      have hcw := hc k x hx1
      have hcx : wr.cell? ⟨b, off + k, none⟩ = some (.int .i64 x) := (hbw.cell (p := ⟨b, off + k, none⟩) (World.block_lt_of_cell? _ _ hcw)).trans hcw
      go_wp2_with (go_at_call 202; refine (itoa_k x (by omega) (by omega) _ (Lib.tabBelow_of_tabIs ht _ hbw)).mono ?_; rintro e w1 ⟨rfl, kk, os, rfl⟩)
      rw [digs_eq hxl]
      have hI' := kept_B hI kk os
      have hbw' := hbw.trans (Lib.below_grow w.heap.size _ hsz kk os)
      have hsz' := hbw'.size
      have hdl := digs_len hxl
      go_wp2_with (go_at_call 201; refine (writeString_k w.heap.size w.heap.size _ _ _ hI' (by rw [Lib.byteCells_length]; show _ + (digs x).toArray.size ≤ _; simp; omega) hsz').mono ?_)
      rintro e w2 ⟨rfl, h2, b2⟩
      have hI2 : Lib.IsBuilder 259 5 w.heap.size w.heap.size (Lib.byteCells (keyB (l.take k) ++ digs x)) w2 := by
        rw [Lib.byteCells_append]
        exact Or.inr h2
      have hsz2 : w.heap.size ≤ w2.heap.size := Nat.le_trans hsz' b2.size
      go_wp2_with (go_at_call 203; refine (writeByte_k w.heap.size w.heap.size _ 32 _ hI2 (by rw [Lib.byteCells_length]; simp; omega) hsz2).mono ?_)
      rintro e w3 ⟨rfl, h3, b3⟩
      go_wp2
      go_roundw
      case rel =>
        have ht : l.take (k + 1) = l.take k ++ [x] := by rw [List.take_add_one, hx1]; rfl
        refine ⟨k + 1, by omega, by go_num, ?_, (hbw'.trans b2).trans b3, ?_⟩
        · rw [ht, keyB_snoc, Lib.byteCells_append]
          exact Or.inr h3
        · rw [ht, keyB_snoc]
          simp only [List.length_append, List.length_cons, List.length_nil]
          omega
      case measure => simp [intOf]; omega
    · have : k = l.length := by omega
      subst this
      rw [List.take_length] at hI
      go_wp2_with (go_at_call 204; refine (string_k w.heap.size w.heap.size (keyB l) _ hI hsz).mono ?_)
      rintro e w1 ⟨rfl, b1⟩
      go_wp2
      go_ret
      exact ⟨rfl, hbw.trans b1⟩
end Go.Proofs.YtdfmdiakjdggbaaGreatDoor
/- Oracles of this program: numbers, and pack.key at rows of small numbers. By an AI agent. -/
namespace Go.Proofs.YtdfmdiakjdggbaaGreatDoor
open Go Go.Gv Go.Ev
noncomputable def keyT : List T → Option (List Nat)
  | [] => some []
  | t :: l => match t with
    | .v (.int .i64 (.ofNat x)) => bif Nat.blt x 9223372036854775808 then (match keyT l with | some r => some (x :: r) | none => none) else none
    | _ => none
noncomputable def keyE : List T → Option (T × Bool)
  | [.sl (t :: cs) n] => bif Nat.beq (ln (t :: cs)) n && Nat.blt n 1000 then (match keyT (t :: cs) with | some l => some (.v (.string ⟨(keyB l).toArray⟩), true) | none => none) else none
  | _ => none
theorem keyT_ok {B : Bm} {r : Rd} : ∀ {cs : List T} {l : List Nat}, keyT cs = some l → l.length = cs.length ∧ (∀ x ∈ l, x ≤ 9223372036854775807) ∧ ∀ (k x : Nat), l[k]? = some x → ∃ t, cs[k]? = some t ∧ ∀ v, Rep B r t v → v = .int .i64 x
  | [], l, h => by simp only [keyT, Option.some.injEq] at h; subst h; simp
  | t :: cs, l, h => by
    simp only [keyT] at h
    split at h
    · rename_i x
      cases hb : Nat.blt x 9223372036854775808 with
      | false => simp [hb] at h
      | true =>
        simp only [hb, cond_true] at h
        cases hr : keyT cs with
        | none => simp [hr] at h
        | some q =>
          simp only [hr, Option.some.injEq] at h
          subst h
          obtain ⟨h1, h2, h3⟩ := keyT_ok (B := B) (r := r) hr
          rw [Nat.blt_eq] at hb
          have hb := Nat.le_of_lt_succ hb
          refine ⟨by simp [h1], fun y hy => ?_, fun k y hk => ?_⟩
          · rcases List.mem_cons.1 hy with rfl | hy
            · exact hb
            · exact h2 y hy
          · cases k with
            | zero => simp at hk; subst hk; exact ⟨_, rfl, fun v hv => hv.vI.1⟩
            | succ k => simpa using h3 k y (by simpa using hk)
    · cases h
theorem key_kn {ts : List T} {tv : T} {nw : Bool} (h : keyE ts = some (tv, nw)) (k : Nat) : KnP Tryz.prog k 130 ts tv nw := by
  unfold keyE at h
  split at h
  · rename_i t cs n
    cases hb : Nat.beq (ln (t :: cs)) n && Nat.blt n 1000 with
    | false => simp [hb] at h
    | true =>
      simp only [hb, cond_true] at h
      simp only [Bool.and_eq_true, Nat.blt_eq] at hb
      have hn := beqN hb.1
      rw [ln_eq] at hn
      cases hk : keyT (t :: cs) with
      | none => simp [hk] at h
      | some l =>
        simp only [hk, Option.some.injEq, Prod.mk.injEq] at h
        obtain ⟨rfl, rfl⟩ := h
        intro B w X vals R hI _ hX hR hK
        obtain ⟨h1, h2, h3⟩ := keyT_ok (B := B) (r := rd w X) hk
        match vals, hR with
        | [v], ⟨hv, _⟩ =>
          cases hv with
          | @sl _ _ b o c hnc f hf hg hm =>
            have hlen : l.length = n := by rw [h1, ← hn]
            subst hlen
            refine (key_walk b o c l w (by omega) h2 (hI (by rw [pow_g]; exact fun h => by cases h)) fun j x hj => ?_).mono ?_
            · obtain ⟨t', ht, hv⟩ := h3 j x hj
              rw [← hv _ (hg j t' ht)]
              exact rd_cell (hf j t' ht)
            · rintro e w' ⟨rfl, hb⟩
              exact hK _ w' (Upd.of_below hb) (.v rfl)
  · cases h
noncomputable def tb0 : List (Nat × (List T → Option (T × Bool))) := (130, keyE) :: numTab
theorem tb0_ok : PureOk Tryz.prog (tabO tb0) := tab_cons (fun _ _ _ h k => key_kn h k) num_ok
end Go.Proofs.YtdfmdiakjdggbaaGreatDoor
/- slices.Sorted(maps.Keys(m)), by the library's contracts, az an oracle. By an AI agent. -/
namespace Go.Proofs.YtdfmdiakjdggbaaGreatDoor
open Go Go.Gv Go.RowKit Go.Sort Go.Maps Go.Shelf
set_option maxRecDepth 100000
set_option maxHeartbeats 1000000
def keysARen : Go.Shelf.Ren := ⟨fun | 7 => 249 | 10 => 274 | n => n, fun | 23 => 296 | 26 => 3 | 3 => 28 | 28 => 304 | 0 => 0 | 27 => 303 | 33 => 159 | 4 => 4 | n => n, fun n => n⟩
theorem keysALays : Go.Proofs.SlLaysZI.n7 Tryz.prog keysARen := { mixed := by kernel_rfl, f7 := ⟨"maps.Keys[map[int]clearway/api.Rat,int,clearway/api.Rat]", by decide, Tryz.func249.trans (congrArg some (by kernel_rfl))⟩, f10 := ⟨"maps.Keys[map[int]clearway/api.Rat,int,clearway/api.Rat]$1", by decide, Tryz.func274.trans (congrArg some (by kernel_rfl))⟩, t0 := Tryz.underlying0, a0 := Tryz.isAgg0, z0 := Tryz.sizeOf0, v0 := Tryz.zeroValue0, t4 := Tryz.underlying4, a4 := Tryz.isAgg4, z4 := Tryz.sizeOf4, v4 := Tryz.zeroValue4, t23 := Tryz.underlying296, a23 := Tryz.isAgg296, z23 := Tryz.sizeOf296, v23 := Tryz.zeroValue296, t26 := Tryz.underlying3, a26 := Tryz.isAgg3, z26 := Tryz.sizeOf3, v26 := Tryz.zeroValue3, t27 := Tryz.underlying303, a27 := Tryz.isAgg303, z27 := Tryz.sizeOf303, v27 := Tryz.zeroValue303, t28 := Tryz.underlying304, a28 := Tryz.isAgg304, z28 := Tryz.sizeOf304, v28 := Tryz.zeroValue304, t33 := Tryz.underlying159, a33 := Tryz.isAgg159, z33 := Tryz.sizeOf159, v33 := Tryz.zeroValue159 }
def sortedARen : Go.Shelf.Ren := ⟨fun | 6 => 248 | 8 => 272 | 9 => 273 | 11 => 287 | 13 => 289 | 12 => 288 | 23 => 309 | 24 => 310 | 14 => 300 | 15 => 301 | 16 => 302 | 17 => 303 | 18 => 304 | 19 => 305 | 20 => 306 | 21 => 307 | 22 => 308 | 25 => 315 | 26 => 316 | 27 => 317 | 28 => 318 | 29 => 319 | 30 => 234 | 31 => 322 | n => n, fun | 26 => 3 | 28 => 304 | 24 => 22 | 0 => 0 | 3 => 3 | 37 => 185 | 48 => 214 | 50 => 226 | 4 => 4 | 40 => 350 | 39 => 349 | 45 => 182 | 5 => 5 | 9 => 9 | 51 => 360 | 55 => 364 | 57 => 366 | 58 => 367 | 33 => 159 | n => n, fun n => n⟩
theorem sortedALays : Go.Proofs.SlLaysZI.n6 Tryz.prog sortedARen := { mixed := by kernel_rfl, f6 := ⟨"slices.Sorted[int]", by decide, Tryz.func248.trans (congrArg some (by kernel_rfl))⟩, f8 := ⟨"slices.Collect[int]", by decide, Tryz.func272.trans (congrArg some (by kernel_rfl))⟩, f11 := ⟨"slices.AppendSeq[[]int,int]", by decide, Tryz.func287.trans (congrArg some (by kernel_rfl))⟩, t0 := Tryz.underlying0, a0 := Tryz.isAgg0, z0 := Tryz.sizeOf0, v0 := Tryz.zeroValue0, t24 := Tryz.underlying22, a24 := Tryz.isAgg22, z24 := Tryz.sizeOf22, v24 := Tryz.zeroValue22, t26 := Tryz.underlying3, a26 := Tryz.isAgg3, z26 := Tryz.sizeOf3, v26 := Tryz.zeroValue3, t28 := Tryz.underlying304, a28 := Tryz.isAgg304, z28 := Tryz.sizeOf304, v28 := Tryz.zeroValue304, i26 := by kernel_rfl }
def sortARen : Go.Shelf.Ren := ⟨fun | 5 => 273 | 8 => 289 | 7 => 288 | 19 => 309 | 20 => 310 | 10 => 300 | 11 => 301 | 12 => 302 | 13 => 303 | 14 => 304 | 15 => 305 | 16 => 306 | 17 => 307 | 18 => 308 | 30 => 315 | 31 => 316 | 32 => 317 | 33 => 318 | 34 => 319 | 35 => 234 | 40 => 322 | n => n, fun | 23 => 22 | 25 => 3 | 3 => 3 | 32 => 185 | 22 => 22 | 0 => 0 | 44 => 214 | 46 => 226 | 4 => 4 | 36 => 350 | 35 => 349 | 41 => 182 | 5 => 5 | 9 => 9 | 53 => 360 | 57 => 364 | 63 => 366 | 64 => 367 | n => n, fun n => n⟩
theorem sortALays : Go.Proofs.SlLaysM.n5 Tryz.prog sortARen := { mixed := by kernel_rfl, f5 := ⟨"slices.Sort[[]int,int]", by decide, Tryz.func273.trans (congrArg some (by kernel_rfl))⟩, f7 := ⟨"slices.pdqsortOrdered[int]", by decide, Tryz.func288.trans (congrArg some (by kernel_rfl))⟩, f8 := Tryz.func289.trans (congrArg some (by kernel_rfl)), f10 := ⟨"slices.insertionSortOrdered[int]", by decide, Tryz.func300.trans (congrArg some (by kernel_rfl))⟩, f11 := ⟨"slices.heapSortOrdered[int]", by decide, Tryz.func301.trans (congrArg some (by kernel_rfl))⟩, f12 := ⟨"slices.breakPatternsOrdered[int]", by decide, Tryz.func302.trans (congrArg some (by kernel_rfl))⟩, f13 := ⟨"slices.choosePivotOrdered[int]", by decide, Tryz.func303.trans (congrArg some (by kernel_rfl))⟩, f14 := ⟨"slices.reverseRangeOrdered[int]", by decide, Tryz.func304.trans (congrArg some (by kernel_rfl))⟩, f15 := ⟨"slices.partialInsertionSortOrdered[int]", by decide, Tryz.func305.trans (congrArg some (by kernel_rfl))⟩, f16 := ⟨"cmp.Less[int]", by decide, Tryz.func306.trans (congrArg some (by kernel_rfl))⟩, f17 := ⟨"slices.partitionEqualOrdered[int]", by decide, Tryz.func307.trans (congrArg some (by kernel_rfl))⟩, f18 := ⟨"slices.partitionOrdered[int]", by decide, Tryz.func308.trans (congrArg some (by kernel_rfl))⟩, f19 := Tryz.func309.trans (congrArg some (by kernel_rfl)), f20 := Tryz.func310.trans (congrArg some (by kernel_rfl)), f30 := ⟨"slices.siftDownOrdered[int]", by decide, Tryz.func315.trans (congrArg some (by kernel_rfl))⟩, f31 := Tryz.func316.trans (congrArg some (by kernel_rfl)), f32 := Tryz.func317.trans (congrArg some (by kernel_rfl)), f33 := ⟨"slices.medianAdjacentOrdered[int]", by decide, Tryz.func318.trans (congrArg some (by kernel_rfl))⟩, f34 := ⟨"slices.medianOrdered[int]", by decide, Tryz.func319.trans (congrArg some (by kernel_rfl))⟩, f35 := ⟨"cmp.isNaN[int]", by decide, Tryz.func234.trans (congrArg some (by kernel_rfl))⟩, f40 := ⟨"slices.order2Ordered[int]", by decide, Tryz.func322.trans (congrArg some (by kernel_rfl))⟩, t0 := Tryz.underlying0, a0 := Tryz.isAgg0, z0 := Tryz.sizeOf0, v0 := Tryz.zeroValue0, t3 := Tryz.underlying3, a3 := Tryz.isAgg3, z3 := Tryz.sizeOf3, v3 := Tryz.zeroValue3, t4 := Tryz.underlying4, a4 := Tryz.isAgg4, z4 := Tryz.sizeOf4, v4 := Tryz.zeroValue4, t5 := Tryz.underlying5, a5 := Tryz.isAgg5, z5 := Tryz.sizeOf5, v5 := Tryz.zeroValue5, t9 := Tryz.underlying9, a9 := Tryz.isAgg9, z9 := Tryz.sizeOf9, v9 := Tryz.zeroValue9, t22 := Tryz.underlying22, a22 := Tryz.isAgg22, z22 := Tryz.sizeOf22, v22 := Tryz.zeroValue22, t23 := Tryz.underlying22, a23 := Tryz.isAgg22, z23 := Tryz.sizeOf22, v23 := Tryz.zeroValue22, t25 := Tryz.underlying3, a25 := Tryz.isAgg3, z25 := Tryz.sizeOf3, v25 := Tryz.zeroValue3, t32 := Tryz.underlying185, a32 := Tryz.isAgg185, z32 := Tryz.sizeOf185, v32 := Tryz.zeroValue185, t35 := Tryz.underlying349, a35 := Tryz.isAgg349, z35 := Tryz.sizeOf349, v35 := Tryz.zeroValue349, t36 := Tryz.underlying350, a36 := Tryz.isAgg350, z36 := Tryz.sizeOf350, v36 := Tryz.zeroValue350, t41 := Tryz.underlying182, a41 := Tryz.isAgg182, z41 := Tryz.sizeOf182, v41 := Tryz.zeroValue182, t44 := Tryz.underlying214, a44 := Tryz.isAgg214, z44 := Tryz.sizeOf214, v44 := Tryz.zeroValue214, t46 := Tryz.underlying226, a46 := Tryz.isAgg226, z46 := Tryz.sizeOf226, v46 := Tryz.zeroValue226, t53 := Tryz.underlying360, a53 := Tryz.isAgg360, z53 := Tryz.sizeOf360, v53 := Tryz.zeroValue360, t57 := Tryz.underlying364, a57 := Tryz.isAgg364, z57 := Tryz.sizeOf364, v57 := Tryz.zeroValue364, t63 := Tryz.underlying366, a63 := Tryz.isAgg366, z63 := Tryz.sizeOf366, v63 := Tryz.zeroValue366, t64 := Tryz.underlying367, a64 := Tryz.isAgg367, z64 := Tryz.sizeOf367, v64 := Tryz.zeroValue367 }

/-- Ascending. -/
def insZ (x : Int) : List Int → List Int
  | [] => [x]
  | y :: l => if x ≤ y then x :: y :: l else y :: insZ x l
def sortZ : List Int → List Int
  | [] => []
  | x :: l => insZ x (sortZ l)
theorem insZ_perm (x : Int) : ∀ l : List Int, (insZ x l).Perm (x :: l)
  | [] => .refl _
  | y :: l => by
    unfold insZ
    split
    · exact .refl _
    · exact ((insZ_perm x l).cons y).trans (.swap x y l)
theorem sortZ_perm : ∀ l : List Int, (sortZ l).Perm l
  | [] => .refl _
  | x :: l => (insZ_perm x (sortZ l)).trans ((sortZ_perm l).cons x)
theorem insZ_sorted (x : Int) : ∀ l : List Int, l.Pairwise (· ≤ ·) → (insZ x l).Pairwise (· ≤ ·)
  | [], _ => by simp [insZ]
  | y :: l, h => by
    have h1 := List.pairwise_cons.1 h
    unfold insZ
    split
    · rename_i hxy
      exact .cons (fun a ha => by
        rcases List.mem_cons.1 ha with rfl | ha
        · exact hxy
        · exact Int.le_trans hxy (h1.1 a ha)) h
    · rename_i hxy
      refine .cons (fun a ha => ?_) (insZ_sorted x l h1.2)
      rcases List.mem_cons.1 ((insZ_perm x l).mem_iff.1 ha) with rfl | ha
      · omega
      · exact h1.1 a ha
theorem sortZ_sorted : ∀ l : List Int, (sortZ l).Pairwise (· ≤ ·)
  | [] => .nil
  | x :: l => insZ_sorted x _ (sortZ_sorted l)
theorem sorted_unique {l m : List Int} (h : l.Perm m) (hl : l.Pairwise (· ≤ ·)) (hm : m.Pairwise (· ≤ ·)) : l = m :=
  List.Perm.eq_of_pairwise (le := (· ≤ ·)) (fun _ _ _ _ h1 h2 => Int.le_antisymm h1 h2) hl hm h
theorem sortsIn (m : Nat) : AnyZI.SortsIn Tryz.prog sortedARen Fence.wide m :=
  ⟨fun blk off cap ss W hH hblk hsz => callsIn_wide.2 (AnyM.slices_Sort_int sortALays blk off cap ss W hH hblk hsz), fun p cap W => callsIn_wide.2 (AnyM.slices_Sort_int_none sortALays p cap W)⟩
abbrev R0 : Value → Option (DataW Unit × List MemPlace) := fun _ => some (.lit (.bool true), [])
theorem ents_key : ∀ (l : List (Int × Value)) (b : Nat), (ents l b).map (·.key) = l.map fun p => Value.int .i64 p.1
  | [], _ => rfl
  | _ :: l, b => by simp [ents, ents_key l]
theorem ents_born : ∀ (l : List (Int × Value)) (b : Nat), (ents l b).map (·.born) = List.range' b l.length
  | [], _ => rfl
  | _ :: l, b => by simp [ents, ents_born l, List.range'_succ]
theorem rd_ent {P : Program} {k : TypeId} (hk : P.underlying k = some (.int .i64)) {z : Int} {v : Value} {b : Nat} (hz : -9223372036854775808 ≤ z ∧ z ≤ 9223372036854775807) : Go.WideElems.rd P k R0 ⟨.int .i64 z, v, b⟩ = some (.int .i64 z, .lit (.bool true)) :=
  Go.WideElems.rd_mk (R := R0) (val := v) (born := b) (yv := (.lit (.bool true), [])) (keyOf_int_mk (a := z) hk (by simp [Lit.wf, IntKind.min, IntKind.max, hz, IntKind.bits, IntKind.signed])) rfl
theorem ents_reads {P : Program} {k : TypeId} (hk : P.underlying k = some (.int .i64)) : ∀ (l : List (Int × Value)) (b : Nat), (∀ x ∈ l, -9223372036854775808 ≤ x.1 ∧ x.1 ≤ 9223372036854775807) → ∀ x ∈ ents l b, ∃ z, Go.WideElems.rd P k R0 x = some (.int .i64 z, .lit (.bool true))
  | [], _, _, x, hx => by cases hx
  | p :: l, b, h, x, hx => by
    rcases List.mem_cons.1 hx with rfl | hx
    · exact ⟨p.1, rd_ent hk (h p List.mem_cons_self)⟩
    · exact ents_reads hk l (b + 1) (fun x hx => h x (List.mem_cons_of_mem _ hx)) x hx
theorem ents_rg {P : Program} {k : TypeId} (hk : P.underlying k = some (.int .i64)) : ∀ (l : List (Int × Value)) (b : Nat), (∀ x ∈ l, -9223372036854775808 ≤ x.1 ∧ x.1 ≤ 9223372036854775807) → ((ents l b).map (Go.WideElems.rg P k R0)).map (fun p => Go.intOf p.1) = l.map Prod.fst
  | [], _, _ => rfl
  | p :: l, b, h => by
    rw [ents, List.map_cons, List.map_cons, List.map_cons, ents_rg hk l (b + 1) (fun x hx => h x (List.mem_cons_of_mem _ hx)), Go.WideElems.rg_of (rd_ent hk (h p List.mem_cons_self))]
    rfl
theorem owns_mapO {P : Program} {k : TypeId} {w : World} {b : Nat} {es : List (Int × Value)} (hk : P.underlying k = some (.int .i64)) (hb : w.heap[b]? = some (mapO es)) (hnd : (es.map Prod.fst).Nodup)
    (hr : ∀ x ∈ es, -9223372036854775808 ≤ x.1 ∧ x.1 ≤ 9223372036854775807) (hl : es.length ≤ maxLen) : w.ownsMap P k R0 b es.length (.map (((ents es 0).map (Go.WideElems.rg P k R0)).foldr DataW.insert [])) := by
  refine ⟨(ents es 0).toArray, es.length, hb, ⟨by simpa [ents_length] using hl, ⟨fun x hx => ?_, ?_, ?_⟩, fun x hx => ?_⟩, by simp [ents_length], rfl⟩
  · have h1 : x.born ∈ (ents es 0).map (·.born) := List.mem_map_of_mem (by simpa using hx)
    rw [ents_born] at h1
    have := List.mem_range'.1 h1
    omega
  · show ((ents es 0).map (·.born)).Nodup
    rw [ents_born]
    exact List.nodup_range'
  · show ((ents es 0).map (·.key)).Nodup
    rw [ents_key]
    have h2 : es.map (fun p => Value.int .i64 p.1) = (es.map Prod.fst).map (Value.int .i64) := by simp
    rw [h2]
    exact List.Pairwise.map _ (fun a b h e => h (by simpa using e)) hnd
  · obtain ⟨z, hz⟩ := ents_reads hk es 0 hr x (by simpa using hx)
    exact ⟨_, hz⟩
theorem keys_perm {P : Program} {k : TypeId} {es : List (Int × Value)} (hk : P.underlying k = some (.int .i64)) (hr : ∀ x ∈ es, -9223372036854775808 ≤ x.1 ∧ x.1 ≤ 9223372036854775807) :
    (intKeys (DataW.map (((ents es 0).map (Go.WideElems.rg P k R0)).foldr DataW.insert []))).Perm (es.map Prod.fst) := by
  show ((((ents es 0).map (Go.WideElems.rg P k R0)).foldr DataW.insert []).map fun p => Go.intOf p.1).Perm _
  rw [← ents_rg hk es 0 hr]
  exact (Go.WideShapes.sorted_perm _).map _
theorem size_mapO {P : Program} {k : TypeId} (es : List (Int × Value)) : Maps.size (DataW.map (((ents es 0).map (Go.WideElems.rg P k R0)).foldr DataW.insert [])) = es.length := by
  show (((ents es 0).map (Go.WideElems.rg P k R0)).foldr DataW.insert []).length = es.length
  rw [length_sorted]
  simp [ents_length]

/-- slices.Sorted(maps.Keys(m)): the keys, ascending, in a new row. -/
theorem sortedKeys_e (w : World) {b b2 : Nat} {es : List (Int × Value)} (hb : w.heap[b]? = some (mapO es)) (hb2 : w.heap[b2]? = some (.cells #[.map (some b)] 296 (0, 0))) (hnd : (es.map Prod.fst).Nodup)
    (hr : ∀ x ∈ es, -9223372036854775808 ≤ x.1 ∧ x.1 ≤ 9223372036854775807) (hl : es.length * 8 ≤ 140737488355328) :
    Calls Tryz.prog 248 #[.func (.func 274) #[] #[.pointer (some ⟨b2, 0, none⟩)]] w (Ret E0 w fun w' v => ∃ ad cap, v = .slice ad es.length cap ∧ es.length ≤ cap ∧ cap ≤ maxLen ∧ ((es = [] ∧ ad = none) ∨ ∃ g, ad = some ⟨g, 0, none⟩ ∧ ∀ (i : Nat) (x : Int), (sortZ (es.map Prod.fst))[i]? = some x → rd w' (old w) ⟨g, i, none⟩ = some (.int .i64 x))) := by
  have hk : Tryz.prog.underlying 3 = some (.int .i64) := by kernel_rfl
  have hown := owns_mapO hk hb hnd hr (by simp only [maxLen]; omega)
  have hlt2 : b2 < w.heap.size := by
    rcases Nat.lt_or_ge b2 w.heap.size with h | h
    · exact h
    · rw [Array.getElem?_eq_none h] at hb2; cases hb2
  have hseq : SeqGives Fence.wide 2 Tryz.prog 274 #[.pointer (some ⟨b2, 0, none⟩)] encZ (fun ss => ss.Perm (intKeys _)) (Maps.size _) w :=
    AnyZI.keys_gives (ρ := keysARen) { keysALays with } Fence.wide _ trivial rfl (by omega) b2 b es.length _ _ hlt2 (by simp [World.cell?, hb2]) hown
  have cS := AnyZI.sorted_in sortedALays Fence.wide 5 trivial trivial trivial trivial rfl (by omega) (sortsIn _) (enters_of Tryz.func273 (by kernel_rfl) rfl) 274 #[.pointer (some ⟨b2, 0, none⟩)] trivial (enters_of Tryz.func274 (by kernel_rfl) rfl) _ _ (by rw [size_mapO]; simp only [maxLen]; omega) (by rw [size_mapO]; omega) _ hseq
  refine ((callsIn_wide (n := 5)).1 cS).mono ?_
  rintro e w' ⟨v, ss, rfl, hperm, hrow, hnil, hbel⟩
  refine ⟨Upd.of_below hbel, v, rfl, ?_⟩
  have hs : ss.mergeSort (fun x y => decide (x ≤ y)) = sortZ (es.map Prod.fst) := by
    refine sorted_unique (((List.mergeSort_perm _ _).trans hperm).trans ((keys_perm hk hr).trans (sortZ_perm _).symm)) ?_ (sortZ_sorted _)
    have h1 := List.pairwise_mergeSort (le := fun x y : Int => decide (x ≤ y)) (fun a b c h1 h2 => by simp only [decide_eq_true_eq] at *; omega) (fun a b => by simp only [Bool.or_eq_true, decide_eq_true_eq]; omega) ss
    exact h1.imp fun h => by simpa using h
  rw [hs] at hrow
  have hzl : (sortZ (es.map Prod.fst)).length = es.length := by rw [(sortZ_perm _).length_eq, List.length_map]
  obtain ⟨hxl, hrow⟩ := hrow
  rcases hrow with ⟨rfl, h0⟩ | ⟨g, cap, cur, rfl, hbase, hg, hn, hcap, hsz, hxs⟩
  · have h1 : es = [] := List.eq_nil_of_length_eq_zero (by rw [← hzl]; simpa [h0] using hxl)
    subst h1
    exact ⟨none, 0, rfl, Nat.le_refl _, Nat.zero_le _, .inl ⟨rfl, rfl⟩⟩
  · have hle : ss.length = es.length := by rw [← hzl]; simpa using hxl.symm
    rw [hle]
    refine ⟨_, cap, rfl, by omega, by simp only [maxLen] at hcap ⊢; omega, .inr ⟨g, rfl, fun i x hi => ?_⟩⟩
    have hil := (List.getElem?_eq_some_iff.1 hi).1
    have hc : cur[i]? = some (.int .i64 x) := by
      have h3 : (cur.toList.take (ss.length * 1))[i]? = some (.int .i64 x) := by
        rw [hxs]
        simp [hi]
      rw [List.getElem?_take] at h3
      split at h3
      · simpa using h3
      · cases h3
    refine rd_of ((cell_of_row w' g _ cur _ _ hg).trans (by simpa using hc)) (Nat.not_lt.2 hbase) (frozen_of_row w' g _ cur _ hg)
end Go.Proofs.YtdfmdiakjdggbaaGreatDoor
namespace Go.Proofs.YtdfmdiakjdggbaaGreatDoor
open Go Go.Gv Go.Ev
noncomputable def keysZ : List (Value × T) → Option (List Int)
  | [] => some []
  | p :: l => match p.1 with
    | .int .i64 z => bif i64B z then (match keysZ l with | some r => some (z :: r) | none => none) else none
    | _ => none
noncomputable def memZ (z : Int) : List Int → Bool
  | [] => false
  | y :: l => ieq z y || memZ z l
noncomputable def nodZ : List Int → Bool
  | [] => true
  | z :: l => !memZ z l && nodZ l
noncomputable def skE : Oo := fun H f az => bif Nat.beq f 248 then (match az with
  | [.fn g [.op i o]] => bif Nat.beq g 274 && Nat.beq o 0 then (match nth .gone H i with
    | .row [.om j] e => bif Nat.beq e 296 then (match nth .gone H j with
      | .map l => (match keysZ l with
        | some zs => bif nodZ zs && Nat.blt (ln zs) 1000000 then some (.sn ((sortZ zs).map fun z => T.v (.int .i64 z)) (ln zs)) else none
        | none => none)
      | _ => none) else none
    | _ => none) else none
  | _ => none) else none
theorem memZ_ok {z : Int} : ∀ {l : List Int}, memZ z l = false → z ∉ l
  | [], _ => by simp
  | y :: l, h => by
    simp only [memZ, Bool.or_eq_false_iff] at h
    intro hm
    rcases List.mem_cons.1 hm with rfl | hm
    · have := h.1
      rw [ieq_eq] at this
      simp at this
    · exact memZ_ok h.2 hm
theorem nodZ_ok : ∀ {l : List Int}, nodZ l = true → l.Nodup
  | [], _ => .nil
  | z :: l, h => by
    simp only [nodZ, Bool.and_eq_true, Bool.not_eq_true'] at h
    exact List.nodup_cons.2 ⟨memZ_ok h.1, nodZ_ok h.2⟩
theorem keysZ_ok {B : Bm} {r : Rd} : ∀ {l : List (Value × T)} {es : List MapEntry} {zs : List Int} {k : Nat}, keysZ l = some zs → MRep B r l es → es.map (·.born) = List.range' k es.length →
    ∃ es' : List (Int × Value), es = ents es' k ∧ es'.map Prod.fst = zs ∧ es'.length = es.length ∧ ∀ x ∈ es', -9223372036854775808 ≤ x.1 ∧ x.1 ≤ 9223372036854775807
  | [], [], zs, k, h, _, _ => by
    simp only [keysZ, Option.some.injEq] at h
    subst h
    exact ⟨[], rfl, rfl, rfl, by simp⟩
  | p :: l, f :: es, zs, k, h, hR, hb => by
    simp only [keysZ] at h
    split at h
    · rename_i z hz
      cases hi : i64B z with
      | false => simp [hi] at h
      | true =>
        simp only [hi, cond_true] at h
        cases hr : keysZ l with
        | none => simp [hr] at h
        | some q =>
          simp only [hr, Option.some.injEq] at h
          subst h
          simp only [List.map_cons, List.length_cons, List.range'_succ, List.cons.injEq] at hb
          obtain ⟨es', e1, e2, e3, e4⟩ := keysZ_ok hr hR.2.2 hb.2
          refine ⟨(z, f.val) :: es', ?_, by simp [e2], by simp [e3], fun x hx => ?_⟩
          · simp only [ents, ← e1]
            congr 1
            cases f
            simp only [MapEntry.mk.injEq]
            exact ⟨hR.1.trans hz, trivial, hb.1⟩
          · rcases List.mem_cons.1 hx with rfl | hx
            · exact i64B_ok hi
            · exact e4 x hx
    · cases h
  | [], _ :: _, _, _, _, hR, _ => hR.elim
  | _ :: _, [], _, _, _, hR, _ => hR.elim
theorem nth_some {H : List TO} {i : Nat} {x : TO} (h : nth .gone H i = x) (hx : x ≠ .gone) : H[i]? = some x := by
  rw [nth_eq, List.getD_eq_getElem?_getD] at h
  cases hi : H[i]? with
  | none => rw [hi] at h; exact absurd h.symm hx
  | some y => rw [hi] at h; simp at h; rw [h]
theorem sk_ok : SoOk Tryz.prog skE := by
  intro H f az tv h E w0 X F B w Y Mo vals R hW hA hk
  unfold skE at h
  cases hf : Nat.beq f 248 with
  | false => simp [hf] at h
  | true =>
    obtain rfl := beqN hf
    simp only [hf, cond_true] at h
    split at h
    · rename_i g i o
      cases hc : Nat.beq g 274 && Nat.beq o 0 with
      | false => simp [hc] at h
      | true =>
        simp only [hc, cond_true] at h
        simp only [Bool.and_eq_true] at hc
        obtain rfl := beqN hc.1
        obtain rfl := beqN hc.2
        split at h
        · rename_i j e hi
          cases he : Nat.beq e 296 with
          | false => simp [he] at h
          | true =>
            obtain rfl := beqN he
            simp only [he, cond_true] at h
            split at h
            · rename_i l hj
              cases hz : keysZ l with
              | none => simp [hz] at h
              | some zs =>
                simp only [hz] at h
                cases hd : nodZ zs && Nat.blt (ln zs) 1000000 with
                | false => simp [hd] at h
                | true =>
                  simp only [hd, cond_true, Option.some.injEq] at h
                  subst h
                  simp only [Bool.and_eq_true, Nat.blt_eq, ln_eq] at hd
                  match vals, hA with
                  | [v], ⟨hv, _⟩ =>
                    obtain ⟨caps, rfl, hcs⟩ := hv.fnI
                    match caps, hcs with
                    | [pv], ⟨hp, _⟩ =>
                      obtain ⟨b2, C2, rfl, hB2⟩ := hp.opI
                      have hi := nth_some hi (by simp)
                      have hj := nth_some hj (by simp)
                      obtain ⟨b2', C', ob, g1, g2, g3⟩ := hW.ob i _ hi rfl
                      rw [hB2] at g1; cases g1
                      cases g3 with
                      | @row _ _ c hR =>
                        have hc0 : ∃ b C, B j = some (b, C) ∧ c = #[.map (some b)] := by
                          match hcl : c.toList, hR with
                          | [mv], hR =>
                            obtain ⟨b, C, rfl, hB⟩ := hR.1.omI
                            exact ⟨b, C, hB, Array.ext' (by simpa using hcl)⟩
                          | [], hR => exact hR.elim
                          | _ :: _ :: _, hR => exact hR.2.elim
                        obtain ⟨b, C, hB, rfl⟩ := hc0
                        obtain ⟨b', C'', ob', q1, q2, q3⟩ := hW.ob j _ hj rfl
                        rw [hB] at q1; cases q1
                        cases q3 with
                        | @map _ es clk hm hclk hborn =>
                          obtain ⟨es', e1, e2, e3, e4⟩ := keysZ_ok (k := 0) hz hm (by rw [hborn, List.range_eq_range']; simp)
                          have hmO : w.heap[b]? = some (Gv.mapO es') := by
                            rw [hW.heap q2, Gv.mapO, ← e1, e3, hclk]
                            simp
                          have hlen : es'.length = zs.length := by rw [← e2]; simp
                          refine (sortedKeys_e w hmO (hW.heap g2) (by rw [e2]; exact nodZ_ok hd.1) e4 (by rw [hlen]; have := hd.2; omega)).mono ?_
                          rintro ee w' ⟨hu, vv, rfl, ad, cap, rfl, hcap1, hcap2, hcells⟩
                          refine hk _ w' B Y Mo (hW.call hu) ?_ (BLe.refl B) (hu.le Y)
                          rw [e2] at hcells
                          rw [ln_eq, ← hlen]
                          rcases hcells with ⟨rfl, rfl⟩ | ⟨g, rfl, hcells⟩
                          · obtain rfl : zs = [] := by simpa using e2.symm
                            exact .sn0 hcap2
                          · refine .sn hcap1 (fun n => .int .i64 ((sortZ zs).getD n 0)) (fun n t ht => ?_) (fun n t ht => ?_) hcap2 (fun n t ht => ?_)
                            all_goals rw [List.getElem?_map] at ht; obtain ⟨z, hz1, rfl⟩ := Option.map_eq_some_iff.1 ht
                            · have := Le.new (Y := Y) hW.st.lt _ _ (hcells n z hz1)
                              rw [Nat.zero_add, this]
                              simp [hz1]
                            · have : (sortZ zs).getD n 0 = z := by simp [hz1]
                              rw [this]; exact .v rfl
                            · exact Nat.le_trans hW.bNle (Nat.not_lt.1 (rd_vis (hcells n z hz1)))
            · cases h
        · cases h
    · cases h
end Go.Proofs.YtdfmdiakjdggbaaGreatDoor
/- Oracles of this program: quotients, copies of nothing. By an AI agent. -/
namespace Go.Proofs.YtdfmdiakjdggbaaGreatDoor
open Go Go.RowKit
set_option maxHeartbeats 2000000 in
set_option maxRecDepth 100000 in
theorem cl0_nil (n c : Nat) (w : World) : Calls Tryz.prog 223 #[.slice none n c] w fun e w' => e = .returned (.slice none 0 0) ∧ w' = w := by
  have q26 : ∀ (w : World) (a : Option Addr) (n c n' c' : Nat), (binOp .eql 26 (.slice a n c) (.slice none n' c')).run Tryz.prog w = .ok (.bool a.isNone) w := fun w a n c n' c' => Lib.run_eql_slice_nil w _ _ a n c n' c' Tryz.underlying26
  go_enter Tryz.func223, Tryz.ntmps223
  go_wp2
  go_ret
  exact ⟨rfl, rfl⟩
theorem info214 : (Tryz.prog.info? 214).map (fun i => (i.zero, i.size, i.bytes)) = some (some (.int .u32 0), 1, 4) := by kernel_rfl
set_option maxHeartbeats 2000000 in
set_option maxRecDepth 100000 in
theorem cl0_zero (a : Addr) (c : Nat) (w : World) : Calls Tryz.prog 223 #[.slice (some a) 0 c] w fun e w' => ∃ v', e = .returned v' ∧ w'.ownsRow w.heap.size 214 1 v' 0 [] ∧ Below w.heap.size w w' := by
  obtain ⟨i0, hi, hz0, hz1, hz2⟩ := info_parts info214
  have q26 : ∀ (w : World) (a : Option Addr) (n c n' c' : Nat), (binOp .eql 26 (.slice a n c) (.slice none n' c')).run Tryz.prog w = .ok (.bool a.isNone) w := fun w a n c n' c' => Lib.run_eql_slice_nil w _ _ a n c n' c' Tryz.underlying26
  go_enter Tryz.func223, Tryz.ntmps223
  go_wp2_with (at_builtin; refine wpList_append_own _ rfl _ _ 26 rfl w.heap.size 214 i0 (.int .u32 0) 1 4 Tryz.underlying26 hi hz0 hz1 hz2 rfl (by decide) _ _ _ rfl (World.ownsRow_made w #[] 0 (Nat.le_refl _) (Nat.zero_le _) rfl) a 0 c [] rfl rfl (by intro j u hj; simp at hj) (by intro u hu; cases hu) (by unfold maxLen; omega) (by omega) (by simp) ?_)
  intro v' w1 hown hgrow hnil
  go_wp2
  go_ret
  refine ⟨v', rfl, by simpa using hown, ?_⟩
  exact ((Below.refl _ w).alloc (Nat.le_refl _) _).grown hgrow (by simp) (by intro k hk; simp [Value.ownBlock] at hk; omega)
end Go.Proofs.YtdfmdiakjdggbaaGreatDoor
namespace Go.Proofs.YtdfmdiakjdggbaaGreatDoor
open Go Go.Gv Go.Ev
noncomputable def cloE0 : List T → Option (T × Bool)
  | [.sl [] 0] => some (.sl [] 0, true)
  | _ => none
theorem clo_kn {ts : List T} {tv : T} {nw : Bool} (h : cloE0 ts = some (tv, nw)) (k : Nat) : KnP Tryz.prog k 223 ts tv nw := by
  unfold cloE0 at h
  split at h
  · simp only [Option.some.injEq, Prod.mk.injEq] at h
    obtain ⟨rfl, rfl⟩ := h
    intro B w X vals R _ _ hX hR hK
    match vals, hR with
    | [v], ⟨hv, _⟩ =>
      obtain ⟨ad, c, rfl, _, _⟩ := hv.slI
      cases ad with
      | none =>
        refine (cl0_nil 0 c w).mono ?_
        rintro e w' ⟨rfl, rfl⟩
        exact hK _ w' (Upd.refl _ _) (.sl0 (by simp [maxLen]))
      | some a =>
        refine (cl0_zero a c w).mono ?_
        rintro e w' ⟨v', rfl, ⟨_, hrow⟩, hb⟩
        refine hK _ w' (Upd.of_below hb) ?_
        rcases hrow with ⟨rfl, _⟩ | ⟨g, cap, cur, rfl, _, _, _, hcap, _⟩
        · exact .sl0 (by simp [maxLen])
        · exact .sl0 hcap
  · cases h
noncomputable def dmE : List T → Option (T × Bool)
  | [x, y] => (match limS x, limS y with
    | some l, some l2 => bif ieq (or2 (chk2 l l2) (zeroE (val l2))) 0 then some (.tu [unL (nlimbs (val l / val l2)), unL (nlimbs (val l % val l2)), .v (.int .i64 0)], true) else none
    | _, _ => none)
  | _ => none
theorem dm_kn {ts : List T} {tv : T} {nw : Bool} (h : dmE ts = some (tv, nw)) (k : Nat) : KnP Tryz.prog k 233 ts tv nw := by
  unfold dmE at h
  split at h
  · rename_i x y
    split at h
    · rename_i l l2 e1 e2
      cases hb : ieq (or2 (chk2 l l2) (zeroE (val l2))) 0 with
      | false => simp [hb] at h
      | true =>
        simp only [hb, cond_true, Option.some.injEq, Prod.mk.injEq] at h
        obtain ⟨rfl, rfl⟩ := h
        intro B w X vals R _ _ hX hR hK
        match vals, hR with
        | [vx, vy], ⟨hx, hy, _⟩ =>
          obtain ⟨ad, n, c, rfl, h1⟩ := limS_ok e1 hx
          obtain ⟨ad2, n2, c2, rfl, h2⟩ := limS_ok e2 hy
          have h0 : or2 (chk2 l l2) (zeroE (val l2)) = 0 := by rw [ieq_eq] at hb; simpa using hb
          refine (DivMod_c w X hX ad n c l h1 ad2 n2 c2 l2 h2).mono ?_
          rintro e w' ⟨hu, v, rfl, hv⟩
          rcases hv with ⟨hne, _⟩ | ⟨_, u, u2, q1, q2, a1, b1, c1, a2, b2, c3, rfl, hq, _, hr, _⟩
          · exact absurd h0 hne
          · obtain ⟨_, _, _, rfl, f1⟩ := hq.natV
            obtain ⟨_, _, _, rfl, f2⟩ := hr.natV
            refine hK _ w' hu ?_
            exact Rep.mkTu (vs := [_, _, _]) ⟨unL_ok (f1 (old w) fun _ _ h => h).lim, unL_ok (f2 (old w) fun _ _ h => h).lim, .v rfl, trivial⟩
    · cases h
  · cases h
noncomputable def tb1 : List (Nat × (List T → Option (T × Bool))) := (223, cloE0) :: (233, dmE) :: tb0
theorem tb1_ok : PureOk Tryz.prog (tabO tb1) := tab_cons (fun _ _ _ h k => clo_kn h k) (tab_cons (fun _ _ _ h k => dm_kn h k) tb0_ok)
end Go.Proofs.YtdfmdiakjdggbaaGreatDoor

/- Parts of the proof: HxB HxC HxD T1 A1 A2 A3. By an AI agent. -/
import Derived.Test.YtppalofalmieaaaGreatBaseA
import Derived.Test.YtppalofalmieaaaGreatBaseB
import Derived.Test.YtppalofalmieaaaGreatBaseC
import Derived.Test.YtppalofalmieaaaGreatBaseD
set_option linter.unusedVariables false
set_option linter.unusedSimpArgs false
set_option linter.unnecessarySimpa false
/- Closures and iterators walked into where they are called. By an AI agent; over any program. -/
namespace Go.Gv
open Go.RowKit
attribute [local semireducible] Go
section
variable {r : Option Nat} {m : Nat} {P : Program} {Q : Exit → Act → World → Prop} {n : Nat} {D : List Deferred} {w : World} {c : Cf} {E : Nat → Prop} {w0 : World} {X Y : Hid} {M : List (Nat × Obj)}
/-- The call in hand, its body walked here. -/
theorem zci {f : FuncId} {vs : Array Value} {fn : Func} (hfn : P.funcs[f]? = some fn) (h : ∀ R : Ending → World → Prop, (∀ v w1, Go r m P Q n D w1 (nv c v) → R (.returned v) w1) → Go none 0 P (bodyPost P fn R) fn.ntmps [] w ⟨.code (bd fn), [], argsL 0 vs.toList⟩)
    (hb : fn.body = some (bd fn) := by rfl) (hle : Nat.ble vs.toList.length fn.ntmps = true := by kernel_rfl) (hv : clV c = some (f, vs) := by kernel_rfl) (hc : isv n c = true := by kernel_rfl) (ho : (cop c).op = .call { callee := .value (clF (cop c)), args := clA (cop c), argTypes := clT (cop c) } := by kernel_rfl)
    (hcall : ∀ w, (callFunc f vs).run P w = .ok (.enter f vs) w := by intro w; kernel_rfl) : Go r m P Q n D w c := by
  obtain ⟨cap, hf, ha⟩ := clV_spec hv
  refine z_op (isv_spec hc).1 fun _ hF => op_callF (Φ := fun w1 v => Go r m P Q n D w1 (nv c v)) hF (isv_spec hc).2 ho hf ha hcall (zen hfn (h _ fun v w1 hg => ⟨v, rfl, hg⟩) hb hle) fun v w1 h1 a1 G1 => (nv_eq c v ▸ h1 : Go r m P Q n D w1 (nv0 c v)) a1 G1
theorem zenM {f : FuncId} {args : Array Value} {R : Ending → World → Prop} {fn : Func} (hf : P.funcs[f]? = some fn) (h : Go none 0 P (bodyPostM (FF none) 0 P fn R) fn.ntmps [] w ⟨.code (bd fn), [], argsL 0 args.toList⟩) (hb : fn.body = some (bd fn) := by rfl) (hle : Nat.ble args.toList.length fn.ntmps = true := by kernel_rfl) : Calls P f args w R :=
  m_enter hf hb rfl rfl hle fun a hF => h a hF
theorem zciM {f : FuncId} {vs : Array Value} {fn : Func} (hfn : P.funcs[f]? = some fn) (h : ∀ R : Ending → World → Prop, (∀ v w1, Go r m P Q n D w1 (nv c v) → R (.returned v) w1) → Go none 0 P (bodyPostM (FF none) 0 P fn R) fn.ntmps [] w ⟨.code (bd fn), [], argsL 0 vs.toList⟩)
    (hb : fn.body = some (bd fn) := by rfl) (hle : Nat.ble vs.toList.length fn.ntmps = true := by kernel_rfl) (hv : clV c = some (f, vs) := by kernel_rfl) (hc : isv n c = true := by kernel_rfl) (ho : (cop c).op = .call { callee := .value (clF (cop c)), args := clA (cop c), argTypes := clT (cop c) } := by kernel_rfl)
    (hcall : ∀ w, (callFunc f vs).run P w = .ok (.enter f vs) w := by intro w; kernel_rfl) : Go r m P Q n D w c := by
  obtain ⟨cap, hf, ha⟩ := clV_spec hv
  refine z_op (isv_spec hc).1 fun _ hF => op_callF (Φ := fun w1 v => Go r m P Q n D w1 (nv c v)) hF (isv_spec hc).2 ho hf ha hcall (zenM hfn (h _ fun v w1 hg => ⟨v, rfl, hg⟩) hb hle) fun v w1 h1 a1 G1 => (nv_eq c v ▸ h1 : Go r m P Q n D w1 (nv0 c v)) a1 G1
/-! ### Yield -/
/-- The call in hand is a yield. -/
theorem zyld {l : Nat} {vs : Array Value} (h : ∀ R : Ending → World → Prop, (∀ v w1, Go none 0 P Q n D w1 (nv c v) → R (.returned v) w1) → YieldAt (FF none) 0 P l vs w R)
    (hf : evL c.L (clF (cop c)) = .func (.yield l) #[] #[] := by kernel_rfl) (hargs : (clA (cop c)).map (evL c.L) = vs := by kernel_rfl) (hc : isv n c = true := by kernel_rfl) (ho : (cop c).op = .call { callee := .value (clF (cop c)), args := clA (cop c), argTypes := clT (cop c) } := by kernel_rfl) : Go none 0 P Q n D w c := by
  intro a hF
  have hc0 := isv_spec hc
  obtain ⟨cu, k, L⟩ := c
  match cu, hc, hF, h, hf, hargs, ho, hc0 with
  | .ops o (x :: l'), hc, hF, h, hf, hargs, ho, hc0 =>
    have hck : chk o L x (cd ⟨.ops o (x :: l'), k, L⟩) n = true := by
      have h1 := hc0.1
      simp only [isop, cops, cop, Bool.and_eq_true] at h1
      have h2 := hc0.2
      simp only [opk, Bool.and_eq_true] at h2
      simp only [chk, Bool.and_eq_true]
      exact ⟨h1.2.1, h2.1, h2.2⟩
    exact wpl_yield (R := fun e w1 => ∃ v, e = .returned v ∧ Go none 0 P Q n D w1 (nv ⟨.ops o (x :: l'), k, L⟩ v)) hF hck ho hf hargs (h _ fun v w1 hg => ⟨v, rfl, hg⟩) (fun _ _ h => h.elim fun v h => ⟨v, h.1⟩) (fun v w1 h1 a1 G1 => by
      obtain ⟨v', e, hg⟩ := h1
      cases e
      exact (nv_eq (⟨.ops o (x :: l'), k, L⟩ : Cf) v ▸ hg : Go none 0 P Q n D w1 (nv0 _ v)) a1 G1)
  | .ops o [], hc, _, _, _, _, _, _ => simp [isv, isop] at hc
  | .code _, hc, _, _, _, _, _, _ => simp [isv, isop] at hc
  | .ex _, hc, _, _, _, _, _, _ => simp [isv, isop] at hc
end
section
variable {r : Option Nat} {m : Nat} {P : Program} {Q : Exit → Act → World → Prop} {n : Nat} {D : List Deferred} {w : World} {c : Cf} {E : Nat → Prop} {w0 : World} {X Y : Hid} {M : List (Nat × Obj)}
theorem zqq {e : Exit} {k : List Fm} {L : List (Nat × Value)} {a : Act} (hF : Fr n a L D) (h : Go r m P Q n D w ⟨.ex e, k, L⟩) : QQ r m P Q k e a w := h a hF
def rgX : Code → Operand
  | .rangeFunc x _ _ _ => x
  | _ => .tmp 0
def rgP : Code → Array Tmp
  | .rangeFunc _ ps _ _ => ps
  | _ => #[]
def rgA : Code → Code
  | .rangeFunc _ _ x _ => x
  | c => c
def rgB : Code → Code
  | .rangeFunc _ _ _ x => x
  | c => c
/-- A range over a function: its iterator is walked, with the round's code in the frame a. -/
theorem zrng {f : FuncId} {caps : Array Value} (hS : St E w0 X w Y M)
    (k : ∀ (a : Act) (rec : Loop) l b w1 Y1, Fr n a c.L D → RecOk rec a.tmps (rgP (cuC c)) (rgA (cuC c)) (rgB (cuC c)) → St E w0 X w1 Y1 ((l, .loop rec) :: (b, .deferred (some [])) :: M) → Le (rd w Y) (rd w1 Y1) → Upd E0 w w1 →
      Calls P f (#[.func (.yield l) #[] #[]] ++ caps) w1 (fun e w3 => (∃ v, e = .returned v) ∧ RangeEnd P (QQ none 0 P Q c.k) (Act.marked a b) l w3))
    (hg : evL c.L (rgX (cuC c)) = .func (.func f) #[] caps := by kernel_rfl) (hcov : cov c.L (rgX (cuC c)) = true := by kernel_rfl) (hx : c.cu = .code (cuC c) := by kernel_rfl) (hr : cuC c = .rangeFunc (rgX (cuC c)) (rgP (cuC c)) (rgA (cuC c)) (rgB (cuC c)) := by kernel_rfl)
    (hcall : ∀ args w, (callFunc f args).run P w = .ok (.enter f args) w) : Go none 0 P Q n D w c := by
  intro a hF
  rw [hx, hr]
  exact i_range2 hF hS hcov hg hcall fun rec l b w1 Y1 h1 h2 h3 h4 => k a rec l b w1 Y1 hF h1 h2 h3 h4
section
variable {rec : Loop} {tm : Array Value} {ps : Array Tmp} {assign body : Code} {l : Nat} {R : Ending → World → Prop} {L : List (Nat × Value)} {a : Act}
def rpost (P : Program) (l : Nat) (R : Ending → World → Prop) (body : Code) : Exit → Act → World → Prop :=
  Exit.then (fun a₁ w₁ => ∃ w₂, (Instr.beginRound l).run P w₁ = .ok () w₂ ∧ body.wpIn (FF (some l)) 0 P (roundPost P l R) a₁ w₂) (fun _ _ _ => False)
/-- A round begins: the variables are set. -/
theorem zround2 (i : Nat) {p q : Nat} {v u : Value} (hr : RecOk rec a.tmps #[p, q] assign body) (hF : Fr n a L D) (hS : St E w0 X w Y M) (h : Go (some l) 0 P (rpost P l R body) n [] w ⟨.code assign, [], (q, u) :: (p, v) :: L⟩)
    (hi : M[i]? = some (l, .loop rec) := by rfl) (hp : Nat.blt p n = true := by kernel_rfl) (hq : Nat.blt q n = true := by kernel_rfl) : YieldAt (FF none) 0 P l #[v, u] w R := by
  refine y_round i hS hi (by rw [hr.hps]; rfl) ?_
  rw [hr.ha, hr.hb, hr.hps, hr.ht]
  exact h _ (fr_round2 hF (by simpa [Nat.blt_eq] using hp) (by simpa [Nat.blt_eq] using hq))
theorem fr_round1 {p : Nat} {v : Value} (hF : Fr n a L D) (hp : p < n) : Fr n { tmps := ((#[p] : Array Tmp).zip #[v]).foldl (fun tmps (t, a) => tmps.setIfInBounds t a) a.tmps, defers := [] } ((p, v) :: L) := by
  have h0 : Fr n { a with defers := [] } L := ⟨hF.size, rfl, hF.get⟩
  have := h0.put hp v
  simpa [Act.put] using this
theorem zround1 (i : Nat) {p : Nat} {v : Value} (hr : RecOk rec a.tmps #[p] assign body) (hF : Fr n a L D) (hS : St E w0 X w Y M) (h : Go (some l) 0 P (rpost P l R body) n [] w ⟨.code assign, [], (p, v) :: L⟩)
    (hi : M[i]? = some (l, .loop rec) := by rfl) (hp : Nat.blt p n = true := by kernel_rfl) : YieldAt (FF none) 0 P l #[v] w R := by
  refine y_round i hS hi (by rw [hr.hps]; rfl) ?_
  rw [hr.ha, hr.hb, hr.hps, hr.ht]
  exact h _ (fr_round1 hF (by simpa [Nat.blt_eq] using hp))
/-- .. its body. -/
theorem zbody (i : Nat) (hr : RecOk rec tm ps assign body) (hS : St E w0 X w Y M) (h : ∀ w1, St E w0 X w1 Y (M.set i (l, .loop (busyL rec))) → Le (rd w Y) (rd w1 Y) → Go (some l) 0 P (roundPost P l R) n D w1 ⟨.code body, [], c.L⟩)
    (hi : M[i]? = some (l, .loop rec) := by rfl) (hx : c.cu = .ex .normal := by kernel_rfl) (hk : c.k = [] := by kernel_rfl) : Go (some l) 0 P (rpost P l R body) n D w c := by
  intro a hF
  rw [hx, hk]
  exact y_begin i hS hi hr.hs fun w1 h1 h2 => h w1 h1 h2 a hF
theorem busy_rec (hr : RecOk rec tm ps assign body) : ({ busyL rec with state := .ready, pending := none } : Loop) = rec := by
  obtain ⟨h1, h2, _, _, _, _⟩ := hr
  cases rec; simp only at h1 h2; subst h1; subst h2; rfl
/-- .. its end: the next one. -/
theorem zrnext (i : Nat) (hr : RecOk rec tm ps assign body) (hS : St E w0 X w Y M) (h : ∀ w1, St E w0 X w1 Y (M.set i (l, .loop rec)) → Le (rd w Y) (rd w1 Y) → R (.returned (.bool true)) w1)
    (hi : M[i]? = some (l, .loop (busyL rec)) := by rfl) (hx : c.cu = .ex .normal := by kernel_rfl) (hk : c.k = [] := by kernel_rfl) : Go (some l) 0 P (roundPost P l R) n D w c := by
  intro a hF
  rw [hx, hk]
  show roundPost P l R .normal a w
  refine y_next i hS hi fun w1 h1 h2 => h w1 ?_ h2
  rw [busy_rec hr] at h1
  exact h1
/-- .. a return out of it. -/
theorem zrret (i : Nat) (hS : St E w0 X w Y M) (h : ∀ w1, St E w0 X w1 Y (M.set i (l, .loop (retL rec))) → Le (rd w Y) (rd w1 Y) → R (.returned (.bool false)) w1)
    (hi : M[i]? = some (l, .loop (busyL rec)) := by rfl) (hx : c.cu = .ex .ret := by kernel_rfl) (hk : c.k = [] := by kernel_rfl) : Go (some l) 0 P (roundPost P l R) n D w c := by
  intro a hF
  rw [hx, hk]
  show roundPost P l R .ret a w
  exact y_ret i hS hi fun w1 h1 h2 => h w1 h1 h2
/-- The range's end: behind it. -/
theorem zrend (i b : Nat) {k : List Fm} (hr : RecOk rec tm ps assign body) (hF : Fr n a L D) (hS : St E w0 X w Y M) (h : ∀ w1, St E w0 X w1 Y (M.set i (l, .loop (exhL rec))) → Le (rd w Y) (rd w1 Y) → Go none 0 P Q n (mark b :: D) w1 ⟨.ex .normal, k, L⟩)
    (hi : M[i]? = some (l, .loop rec) := by rfl) : RangeEnd P (QQ none 0 P Q k) (Act.marked a b) l w := by
  refine ⟨rec, hS.get i hi, by rw [hr.hs]; simp, ?_⟩
  split
  · exact zqq (fr_marked b hF) (h _ (hS.putObj i hi).1 (hS.putObj (o' := .loop (exhL rec)) i hi).2)
  · rename_i c hc; rw [hr.hp] at hc; cases hc
theorem zrendR (i b : Nat) {k : List Fm} (hF : Fr n a L D) (hS : St E w0 X w Y M) (h : ∀ w1, St E w0 X w1 Y (M.set i (l, .loop (exhL (retL rec)))) → Le (rd w Y) (rd w1 Y) → Go none 0 P Q n (mark b :: D) w1 ⟨.ex .ret, k, L⟩)
    (hi : M[i]? = some (l, .loop (retL rec)) := by rfl) : RangeEnd P (QQ none 0 P Q k) (Act.marked a b) l w := by
  refine ⟨retL rec, hS.get i hi, by simp [retL], ?_⟩
  exact i_ret (zqq (fr_marked b hF) (h _ (hS.putObj i hi).1 (hS.putObj (o' := .loop (exhL (retL rec))) i hi).2))
end
/-! ### Returns -/
def finR (c : Cf) : Bool := (match c.cu with
  | .ex .ret => true
  | .ex .normal => true
  | _ => false) && c.k.isEmpty
theorem bodyM_norm {fn : Func} {R : Ending → World → Prop} {a : Act} (h : bodyPostM (FF none) 0 P fn R .ret a w) : bodyPostM (FF none) 0 P fn R .normal a w := h
/-- .. of a function that may range over functions, and has not. -/
theorem zrM0 (rs : List ResultVar) {v : Value} {fn : Func} {R : Ending → World → Prop} (h : Res P c.L w rs (unp rs.length v)) (hR : R (.returned v) w) (hr : fn.results = rs.toArray := by kernel_rfl) (hv : pack (unp rs.length v) = v := by kernel_rfl) (hf : finR c = true := by kernel_rfl) : Go none 0 P (bodyPostM (FF none) 0 P fn R) n [] w c := by
  intro a hF
  simp only [finR, Bool.and_eq_true] at hf
  obtain ⟨cu, k, L⟩ := c
  match cu, k, hf with
  | .ex .ret, [], _ => exact m_ret0 hF hr h hv hR
  | .ex .normal, [], _ => exact bodyM_norm (m_ret0 hF hr h hv hR)
/-- .. and has once. -/
theorem zrM1 (i : Nat) (rs : List ResultVar) {b : Nat} {v : Value} {fn : Func} {R : Ending → World → Prop} (hS : St E w0 X w Y M) (h : ∀ w1, St E w0 X w1 Y (M.set i (b, .deferred none)) → Le (rd w Y) (rd w1 Y) → Res P c.L w1 rs (unp rs.length v) ∧ R (.returned v) w1)
    (hi : M[i]? = some (b, .deferred (some [])) := by rfl) (hr : fn.results = rs.toArray := by kernel_rfl) (hv : pack (unp rs.length v) = v := by kernel_rfl) (hf : finR c = true := by kernel_rfl) : Go none 0 P (bodyPostM (FF none) 0 P fn R) n [mark b] w c := by
  intro a hF
  simp only [finR, Bool.and_eq_true] at hf
  obtain ⟨cu, k, L⟩ := c
  match cu, k, hf with
  | .ex .ret, [], _ => exact m_ret1 i hF hS hi hr hv h
  | .ex .normal, [], _ => exact bodyM_norm (m_ret1 i hF hS hi hr hv h)
end
/-! ### In a region that draws its order -/
theorem gci {R : Rg} {c : Array Bool × List (Nat × Value)} {M : List (Nat × Obj)} {r : Rd} (i : Nat) {f : FuncId} {vs : Array Value} {fn : Func} (hfn : R.P.funcs[f]? = some fn)
    (h : ∀ w Y, St R.E R.w0 R.X w Y M → Le r (rd w Y) → ∀ R' : Ending → World → Prop, (∀ v w1 Y1 M1, St R.E R.w0 R.X w1 Y1 M1 → Le r (rd w1 Y1) → (begun R.T (c.1.setIfInBounds i true) = true ∨ ((∀ p ∈ R.M0, p ∈ M) → ∀ p ∈ R.M0, p ∈ M1)) → Gt R [] (c.1.setIfInBounds i true, ((opAt R.ops i).dst.getD 0, v) :: c.2) M1 (rd w1 Y1) → R' (.returned v) w1) →
      Go none 0 R.P (bodyPost R.P fn R') fn.ntmps [] w ⟨.code (bd fn), [], argsL 0 vs.toList⟩)
    (hv : gV R c i = some (f, vs) := by kernel_rfl) (hb : fn.body = some (bd fn) := by rfl) (hle : Nat.ble vs.toList.length fn.ntmps = true := by kernel_rfl) (hi : R.ops[i]? = some (opAt R.ops i) := by kernel_rfl) (hr : Region.ready .any R.ops c.1 = [i] := by kernel_rfl)
    (hc : opk c.2 (opAt R.ops i) ((opAt R.ops i).dst.getD 0) R.n = true := by kernel_rfl) (hw : wantL R.ops c.2 (opAt R.ops i) true = true := by kernel_rfl)
    (ho : (opAt R.ops i).op = .call { callee := .value (clF (opAt R.ops i)), args := clA (opAt R.ops i), argTypes := clT (opAt R.ops i) } := by kernel_rfl)
    (hcall : ∀ w, (callFunc f vs).run R.P w = .ok (.enter f vs) w := by intro w; kernel_rfl) : Gt R [] c M r := by
  obtain ⟨cap, hf, ha⟩ := gV_spec hv
  refine gO i (fun a w Y hF hS hle' => ?_) hi hr hw
  refine op_callF (Φ := fun w1 v => ∃ Y1 M1, St R.E R.w0 R.X w1 Y1 M1 ∧ Le r (rd w1 Y1) ∧ (begun R.T (c.1.setIfInBounds i true) = true ∨ ((∀ p ∈ R.M0, p ∈ M) → ∀ p ∈ R.M0, p ∈ M1)) ∧ Gt R [] (c.1.setIfInBounds i true, ((opAt R.ops i).dst.getD 0, v) :: c.2) M1 (rd w1 Y1)) hF hc ho hf ha hcall (zen hfn (h w Y hS hle' _ fun v w1 Y1 M1 h1 h2 h3 h4 => ⟨v, rfl, Y1, M1, h1, h2, h3, h4⟩) hb hle) ?_
  rintro v w1 ⟨Y1, M1, h1, h2, h3, h4⟩ a1 G1
  exact ⟨_, M1, rd w1 Y1, Y1, G1, h1, Le.refl _, h3.imp id fun h3 => ⟨h3, h2⟩, h4⟩
end Go.Gv
/- Comparisons of structs; rows that are written into. By an AI agent; over any program. -/
namespace Go.Gv
open Go.RowKit
theorem eqIn_int {P : Program} {w : World} {d : Nat} {t : TypeId} {k k' : IntKind} {a b : Int} (ht : P.underlying t = some (.int k')) : (Op.equalIn (d + 1) t (.int k a) (.int k b)).run P w = .ok (a == b) w := by
  unfold Op.equalIn
  simp only [underlying, ht, Sem.run_bind, Sem.run_pure, run_program, Result.andThen_ok]
  simp
theorem part_int {P : Program} {w : World} {t : TypeId} {k' : IntKind} {cs : Array Value} {i : Nat} {v : Value} (ht : P.underlying t = some (.int k')) (h : cs[i]? = some v) : (part t cs i).run P w = .ok v w := by
  unfold part isAgg
  simp only [underlying, ht, Sem.run_bind, Sem.run_pure, run_program, Result.andThen_ok]
  simp [h]
theorem eqIn_3 {P : Program} {w : World} {d : Nat} {t : TypeId} {f1 f2 f3 : Field} {k1 k2 k3 q1 q2 q3 : IntKind} {a1 a2 a3 b1 b2 b3 : Int} (ht : P.underlying t = some (.struct #[f1, f2, f3])) (hs : P.stoodInHeld t = false) (h1 : P.underlying f1.type = some (.int q1)) (h2 : P.underlying f2.type = some (.int q2)) (h3 : P.underlying f3.type = some (.int q3))
  (n1 : f1.name ≠ "_") (n2 : f2.name ≠ "_") (n3 : f3.name ≠ "_") (p1 : f1.offset = 0) (p2 : f2.offset = 1) (p3 : f3.offset = 2)  :
  (Op.equalIn (d + 1 + 1) t (.agg #[.int k1 a1, .int k2 a2, .int k3 a3]) (.agg #[.int k1 b1, .int k2 b2, .int k3 b3])).run P w = .ok (a1 == b1 && (a2 == b2 && a3 == b3)) w := by
  unfold Op.equalIn
  simp only [underlying, ht, Sem.run_bind, Sem.run_pure, run_program, Result.andThen_ok, hs]
  simp [n1, n2, n3, p1, p2, p3]
  simp only [part_int (cs := #[Value.int k1 a1, .int k2 a2, .int k3 a3]) (i := 0) h1 rfl, part_int (cs := #[Value.int k1 b1, .int k2 b2, .int k3 b3]) (i := 0) h1 rfl, part_int (cs := #[Value.int k1 a1, .int k2 a2, .int k3 a3]) (i := 1) h2 rfl, part_int (cs := #[Value.int k1 b1, .int k2 b2, .int k3 b3]) (i := 1) h2 rfl, part_int (cs := #[Value.int k1 a1, .int k2 a2, .int k3 a3]) (i := 2) h3 rfl, part_int (cs := #[Value.int k1 b1, .int k2 b2, .int k3 b3]) (i := 2) h3 rfl, Result.andThen_ok]
  simp only [List.getElem_toArray, List.getElem_cons_succ, List.getElem_cons_zero]
  have e1 := eqIn_int (P := P) (w := w) (d := d) (a := a1) (b := b1) (k := k1) h1
  have e2 := eqIn_int (P := P) (w := w) (d := d) (a := a2) (b := b2) (k := k2) h2
  have e3 := eqIn_int (P := P) (w := w) (d := d) (a := a3) (b := b3) (k := k3) h3
  rw [e1]
  cases a1 == b1
  · simp
  simp only [Result.andThen_ok]
  rw [if_neg (by simp), e2]
  cases a2 == b2
  · simp
  simp only [Result.andThen_ok]
  rw [if_neg (by simp), e3]
  cases a3 == b3
  · simp
  simp
theorem run_neq3 {P : Program} {w : World} {ρ : Operand → Value} {o : Oper} {t t2 : TypeId} {xa xb : Operand} {f1 f2 f3 : Field} {k1 k2 k3 q1 q2 q3 : IntKind} {a1 a2 a3 b1 b2 b3 : Int} (ho : o.op = .binOp .neq t xa xb t2) (hx : ρ xa = .agg #[.int k1 a1, .int k2 a2, .int k3 a3]) (hy : ρ xb = .agg #[.int k1 b1, .int k2 b2, .int k3 b3])
    (ht : P.underlying t = some (.struct #[f1, f2, f3])) (hs : P.stoodInHeld t = false) (h1 : P.underlying f1.type = some (.int q1)) (h2 : P.underlying f2.type = some (.int q2)) (h3 : P.underlying f3.type = some (.int q3))
    (n1 : f1.name ≠ "_") (n2 : f2.name ≠ "_") (n3 : f3.name ≠ "_") (p1 : f1.offset = 0) (p2 : f2.offset = 1) (p3 : f3.offset = 2) (hg : P.eqGuardType P.depth t = false) :
    (execOp ρ o).run P w = .ok (.value (.bool (!(a1 == b1 && (a2 == b2 && a3 == b3))))) w := by
  unfold execOp
  simp only [ho, hx, hy, binOp, Op.equal, Op.maxDepth, eqGuard, Sem.run_pure, Sem.run_bind, eqIn_3 (d := 9998) ht hs h1 h2 h3 n1 n2 n3 p1 p2 p3, Result.andThen_ok]
  simp [hg, run_program, Sem.run_bind, Sem.run_pure]
theorem run_eql3 {P : Program} {w : World} {ρ : Operand → Value} {o : Oper} {t t2 : TypeId} {xa xb : Operand} {f1 f2 f3 : Field} {k1 k2 k3 q1 q2 q3 : IntKind} {a1 a2 a3 b1 b2 b3 : Int} (ho : o.op = .binOp .eql t xa xb t2) (hx : ρ xa = .agg #[.int k1 a1, .int k2 a2, .int k3 a3]) (hy : ρ xb = .agg #[.int k1 b1, .int k2 b2, .int k3 b3])
    (ht : P.underlying t = some (.struct #[f1, f2, f3])) (hs : P.stoodInHeld t = false) (h1 : P.underlying f1.type = some (.int q1)) (h2 : P.underlying f2.type = some (.int q2)) (h3 : P.underlying f3.type = some (.int q3))
    (n1 : f1.name ≠ "_") (n2 : f2.name ≠ "_") (n3 : f3.name ≠ "_") (p1 : f1.offset = 0) (p2 : f2.offset = 1) (p3 : f3.offset = 2) (hg : P.eqGuardType P.depth t = false) :
    (execOp ρ o).run P w = .ok (.value (.bool (a1 == b1 && (a2 == b2 && a3 == b3)))) w := by
  unfold execOp
  simp only [ho, hx, hy, binOp, Op.equal, Op.maxDepth, eqGuard, Sem.run_pure, Sem.run_bind, eqIn_3 (d := 9998) ht hs h1 h2 h3 n1 n2 n3 p1 p2 p3, Result.andThen_ok]
  simp [hg, run_program, Sem.run_bind, Sem.run_pure]
def fl (P : Program) (t : TypeId) (i : Nat) : Field := match P.underlying t with
  | some (.struct fs) => (fs[i]?).getD default
  | _ => default
def ikO (P : Program) (t : TypeId) : IntKind := match P.underlying t with
  | some (.int k) => k
  | _ => .i64
def cmpX (o : Oper) : Operand := match o.op with
  | .binOp _ _ x _ _ => x
  | _ => .tmp 0
def cmpY (o : Oper) : Operand := match o.op with
  | .binOp _ _ _ y _ => y
  | _ => .tmp 0
theorem ne_of_beq {s t : String} (h : (s == t) = false) : s ≠ t := by simpa using h
theorem run_neq3Z {P : Program} {w : World} {ρ : Operand → Value} {o : Oper} (t t2 : TypeId) {k1 k2 k3 : IntKind} {a1 a2 a3 b1 b2 b3 : Int} (ho : o.op = .binOp .neq t (cmpX o) (cmpY o) t2 := by kernel_rfl) (hx : ρ (cmpX o) = .agg #[.int k1 a1, .int k2 a2, .int k3 a3] := by kernel_rfl) (hy : ρ (cmpY o) = .agg #[.int k1 b1, .int k2 b2, .int k3 b3] := by kernel_rfl)
    (ht : P.underlying t = some (.struct #[fl P t 0, fl P t 1, fl P t 2]) := by kernel_rfl) (hs : P.stoodInHeld t = false := by kernel_rfl) (h1 : P.underlying (fl P t 0).type = some (.int (ikO P (fl P t 0).type)) := by kernel_rfl) (h2 : P.underlying (fl P t 1).type = some (.int (ikO P (fl P t 1).type)) := by kernel_rfl) (h3 : P.underlying (fl P t 2).type = some (.int (ikO P (fl P t 2).type)) := by kernel_rfl)
    (n1 : ((fl P t 0).name == "_") = false := by kernel_rfl) (n2 : ((fl P t 1).name == "_") = false := by kernel_rfl) (n3 : ((fl P t 2).name == "_") = false := by kernel_rfl) (p1 : (fl P t 0).offset = 0 := by kernel_rfl) (p2 : (fl P t 1).offset = 1 := by kernel_rfl) (p3 : (fl P t 2).offset = 2 := by kernel_rfl) (hg : P.eqGuardType P.depth t = false := by kernel_rfl) :
    (execOp ρ o).run P w = .ok (.value (.bool (!(a1 == b1 && (a2 == b2 && a3 == b3))))) w := run_neq3 ho hx hy ht hs h1 h2 h3 (ne_of_beq n1) (ne_of_beq n2) (ne_of_beq n3) p1 p2 p3 hg
theorem run_eql3Z {P : Program} {w : World} {ρ : Operand → Value} {o : Oper} (t t2 : TypeId) {k1 k2 k3 : IntKind} {a1 a2 a3 b1 b2 b3 : Int} (ho : o.op = .binOp .eql t (cmpX o) (cmpY o) t2 := by kernel_rfl) (hx : ρ (cmpX o) = .agg #[.int k1 a1, .int k2 a2, .int k3 a3] := by kernel_rfl) (hy : ρ (cmpY o) = .agg #[.int k1 b1, .int k2 b2, .int k3 b3] := by kernel_rfl)
    (ht : P.underlying t = some (.struct #[fl P t 0, fl P t 1, fl P t 2]) := by kernel_rfl) (hs : P.stoodInHeld t = false := by kernel_rfl) (h1 : P.underlying (fl P t 0).type = some (.int (ikO P (fl P t 0).type)) := by kernel_rfl) (h2 : P.underlying (fl P t 1).type = some (.int (ikO P (fl P t 1).type)) := by kernel_rfl) (h3 : P.underlying (fl P t 2).type = some (.int (ikO P (fl P t 2).type)) := by kernel_rfl)
    (n1 : ((fl P t 0).name == "_") = false := by kernel_rfl) (n2 : ((fl P t 1).name == "_") = false := by kernel_rfl) (n3 : ((fl P t 2).name == "_") = false := by kernel_rfl) (p1 : (fl P t 0).offset = 0 := by kernel_rfl) (p2 : (fl P t 1).offset = 1 := by kernel_rfl) (p3 : (fl P t 2).offset = 2 := by kernel_rfl) (hg : P.eqGuardType P.depth t = false := by kernel_rfl) :
    (execOp ρ o).run P w = .ok (.value (.bool (a1 == b1 && (a2 == b2 && a3 == b3)))) w := run_eql3 ho hx hy ht hs h1 h2 h3 (ne_of_beq n1) (ne_of_beq n2) (ne_of_beq n3) p1 p2 p3 hg
/-! ### Rows that are written into -/
theorem getElem?_setCells : ∀ (vs : List Value) (c : Array Value) (o p : Nat), o + vs.length ≤ c.size → (setCells c o vs)[p]? = if o ≤ p ∧ p < o + vs.length then vs[p - o]? else c[p]?
  | [], c, o, p, _ => by simp [setCells]; intro h; omega
  | v :: vs, c, o, p, h => by
    rw [setCells, getElem?_setCells vs _ (o + 1) p (by simp at h ⊢; omega)]
    simp only [List.length_cons] at h ⊢
    by_cases h1 : o = p
    · subst h1
      rw [if_neg (by omega), if_pos (by omega), Nat.sub_self]
      have hlt : o < c.size := by omega
      simp [hlt]
    · by_cases h2 : o + 1 ≤ p ∧ p < o + 1 + vs.length
      · rw [if_pos h2, if_pos (by omega)]
        have : p - o = (p - (o + 1)) + 1 := by omega
        rw [this, List.getElem?_cons_succ]
      · rw [if_neg h2, if_neg (by omega), Array.getElem?_setIfInBounds_ne h1]
section
variable {α : Type} {Cl : Rd → List Value → α → Prop} {T : TypeId} {size : Nat} {r : Rd} {rb : List (Nat × Obj)} {ad : Option Addr} {m cap : Nat} {L : List α} {x : α} {i : Nat}
theorem flatG_len {es : List (GE α)} (h : ∀ e ∈ es, e.cs.length = size) : (flatG es).length = es.length * size := by
  induction es with
  | nil => simp [flatG]
  | cons e es ih => rw [flatG, List.length_append, ih fun e he => h e (List.mem_cons_of_mem _ he), h e List.mem_cons_self, List.length_cons, Nat.add_mul]; omega
/-- An element of a row of the call's own. -/
theorem GRow.opn (h : GRow Cl T size r rb ad m cap L) (hx : L[i]? = some x) : ∃ g cur cs, rb = [(g, .cells cur T (0, 0))] ∧ ad = some ⟨g, 0, none⟩ ∧ i < m ∧ (cs.length = size ∧ ∀ r', Le r r' → Cl r' cs x) ∧ ∀ j v, cs[j]? = some v → cur[i * size + j]? = some v := by
  obtain ⟨es, h1, h2, h3, h4⟩ := h
  subst h2
  rw [List.getElem?_map] at hx
  cases he : es[i]? with
  | none => rw [he] at hx; cases hx
  | some e =>
    rw [he] at hx
    obtain rfl : e.x = x := by simpa using hx
    have hlt := (List.getElem?_eq_some_iff.1 he).1
    rcases h1 with ⟨_, _, h5, _, _⟩ | ⟨g, cur, rfl, rfl, hr⟩
    · omega
    · refine ⟨g, cur, e.cs, rfl, rfl, by omega, h3 e (List.mem_of_getElem? he), fun j v hj => ?_⟩
      have h5 := flatG_get es i e (fun e he => (h3 e he).1) he j v hj
      rw [← hr.hxs, List.getElem?_take] at h5
      split at h5
      · simpa using h5
      · cases h5
theorem GRow.set {g : Nat} {cur : Array Value} {cs : List Value} (h : GRow Cl T size r [(g, .cells cur T (0, 0))] (some ⟨g, 0, none⟩) m cap L) (hi : i < m) (hc : cs.length = size ∧ ∀ r', Le r r' → Cl r' cs x) :
    GRow Cl T size r [(g, .cells (setCells cur (i * size) cs) T (0, 0))] (some ⟨g, 0, none⟩) m cap (L.set i x) ∧ i * size + cs.length ≤ cur.size := by
  obtain ⟨es, h1, h2, h3, h4⟩ := h
  rcases h1 with ⟨h5, _⟩ | ⟨g', cur', e1, _, hr⟩
  · cases h5
  cases e1
  have hlt : i < es.length := by omega
  have hsz := hr.hsz
  have hn := hr.hn
  have hb : i * size + cs.length ≤ m * size := by
    rw [hc.1]
    calc i * size + size = (i + 1) * size := by rw [Nat.add_mul, Nat.one_mul]
      _ ≤ m * size := Nat.mul_le_mul_right _ (by omega)
  have hb2 : m * size ≤ cap * size := Nat.mul_le_mul_right _ hn
  have hb3 : i * size + cs.length ≤ cur.size := by omega
  refine ⟨⟨es.set i ⟨x, cs⟩, .inr ⟨g, _, rfl, rfl, ⟨hn, hr.hcap, by rw [size_setCells]; exact hsz, ?_⟩⟩, by rw [List.map_set, h2], fun e he => ?_, by rw [List.length_set]; exact h4⟩, hb3⟩
  · have hx := hr.hxs
    have hes : ∀ e ∈ es.set i ⟨x, cs⟩, e.cs.length = size := fun e he => by
      rcases List.mem_or_eq_of_mem_set he with h6 | h6
      · exact (h3 e h6).1
      · rw [h6]; exact hc.1
    apply List.ext_getElem?
    intro p
    by_cases hp : p < m * size
    · have hs0 : 0 < size := by
        rcases Nat.eq_zero_or_pos size with h0 | h0
        · rw [h0] at hp; simp at hp
        · exact h0
      have hq : p / size < m := Nat.div_lt_of_lt_mul (by rw [Nat.mul_comm]; exact hp)
      have hpe : p / size * size + p % size = p := by rw [Nat.mul_comm]; exact Nat.div_add_mod p size
      have hmod : p % size < size := Nat.mod_lt _ hs0
      rw [List.getElem?_take, if_pos hp]
      rw [show (setCells cur (i * size) cs).toList[p]? = (setCells cur (i * size) cs)[p]? by simp, getElem?_setCells _ _ _ _ hb3]
      by_cases hqi : p / size = i
      · subst hqi
        have hj : p % size < cs.length := by rw [hc.1]; exact hmod
        rw [if_pos (by rw [hc.1]; omega)]
        have h7 := flatG_get (es.set (p / size) ⟨x, cs⟩) (p / size) ⟨x, cs⟩ hes (by rw [List.getElem?_set_self (by omega)]) (p % size) cs[p % size] (by simp [hj])
        rw [hpe] at h7
        rw [h7, show p - p / size * size = p % size by omega]
        simp [hj]
      · have hne : ¬ (i * size ≤ p ∧ p < i * size + cs.length) := by
          rintro ⟨h8, h9⟩
          rw [hc.1] at h9
          refine hqi (Nat.div_eq_of_lt_le h8 ?_)
          rw [Nat.add_mul, Nat.one_mul]; exact h9
        rw [if_neg hne]
        obtain ⟨e, he⟩ : ∃ e, es[p / size]? = some e := ⟨es[p / size]'(by omega), by simp⟩
        have hj : p % size < e.cs.length := by rw [(h3 e (List.mem_of_getElem? he)).1]; exact hmod
        have h7 := flatG_get es (p / size) e (fun e he => (h3 e he).1) he (p % size) e.cs[p % size] (by simp [hj])
        have h8 := flatG_get (es.set i ⟨x, cs⟩) (p / size) e hes (by rw [List.getElem?_set_ne (by omega)]; exact he) (p % size) e.cs[p % size] (by simp [hj])
        rw [hpe] at h7 h8
        rw [h8, ← h7, ← hx, List.getElem?_take, if_pos hp]
        simp
    · rw [List.getElem?_take, if_neg hp, List.getElem?_eq_none]
      rw [flatG_len hes, List.length_set, ← h4]; omega
  · rcases List.mem_or_eq_of_mem_set he with h6 | h6
    · exact h3 e h6
    · rw [h6]; exact hc
end
section
variable {P : Program} {Q : Exit → Act → World → Prop} {K : Act → World → Prop} {a : Act} {o : Oper} {n d : Nat} {L : List (Nat × Value)} {D : List Deferred} {E : Nat → Prop} {w0 w : World} {X Y : Hid}
theorem St.getMem {M : List (Nat × Obj)} (h : St E w0 X w Y M) {b : Nat} {ob : Obj} (hm : (b, ob) ∈ M) : w.heap[b]? = some ob := (h.own _ hm).1
theorem cells_row {g i size : Nat} {cur : Array Value} {T : TypeId} {f : Nat × Nat} {cs : List Value} (hb : w.heap[g]? = some (.cells cur T f)) (h : ∀ j v, cs[j]? = some v → cur[i * size + j]? = some v) : CellsAt w ⟨g, 0 + i * size, none⟩ cs := fun j v hj => by
  rw [add_mk, Nat.zero_add, cell_of_row w g _ cur T f hb]
  exact h j v hj
/-- A store into a row of the call's own. -/
theorem op_storeG {t T : TypeId} {xa xv : Operand} {g k k' : Nat} {cur : Array Value} {vs : List Value} {q : Bool} {A B : List (Nat × Obj)} (F : List (Nat × Obj) → List (Nat × Obj)) (hF : Fr n a L D) (hc : (okOp L o && o.dst.isNone) = true) (hS : St E w0 X w Y (F [(g, .cells cur T (0, 0))])) (hM : ∀ rb, F rb = A ++ (rb ++ B))
    (ho : o.op = .store t xa xv) (ha : evL L xa = .pointer (some ⟨g, k, none⟩)) (hv : (evL L xv).cells.toList = vs) (ht : ldT P t = some (q, vs.length)) (h1 : vs.all Value.oneCell' = true) (hk : k = k') (hle : k' + vs.length ≤ cur.size)
    (kont : ∀ w1, St E w0 X w1 Y (F [(g, .cells (setCells cur k' vs) T (0, 0))]) → Le (rd w Y) (rd w1 Y) → K a w1) : o.wp P a w K Q := by
  subst hk hv
  have hS' := hS
  rw [hM] at hS'
  have hi' : (A ++ ([(g, Obj.cells cur T (0, 0))] ++ B))[A.length]? = some (g, .cells cur T (0, 0)) := by simp
  refine zE A.length _ hF hc hS' ho ha rfl ht (by simp) h1 hi' (by simpa using hle) rfl rfl (fun w1 h2 h3 => kont w1 ?_ h3)
  rw [hM]
  simpa [List.set_append] using h2
theorem madeCells_size (z : Array Value) (n : Nat) : (madeCells z n).size = n := by simp [madeCells]
theorem made_get (z : Array Value) (n p : Nat) (h : p < n) (hz : 0 < z.size) : (madeCells z n)[p]? = z[p % z.size]? := by
  have h1 : p % z.size < z.size := Nat.mod_lt _ hz
  simp [madeCells, h, h1]
theorem made_flat {α : Type} {z : Array Value} {size : Nat} {z0 : α} (hz : z.size = size) (m : Nat) : (madeCells z (m * size)).toList.take (m * size) = flatG (List.replicate m (⟨z0, z.toList⟩ : GE α)) := by
  subst hz
  have hes : ∀ e ∈ List.replicate m (⟨z0, z.toList⟩ : GE α), e.cs.length = z.size := fun e he => by rw [List.eq_of_mem_replicate he]; simp
  apply List.ext_getElem?
  intro p
  by_cases hp : p < m * z.size
  · have hs0 : 0 < z.size := by
      rcases Nat.eq_zero_or_pos z.size with h0 | h0
      · rw [h0] at hp; simp at hp
      · exact h0
    have hq : p / z.size < m := Nat.div_lt_of_lt_mul (by rw [Nat.mul_comm]; exact hp)
    have hpe : p / z.size * z.size + p % z.size = p := by rw [Nat.mul_comm]; exact Nat.div_add_mod p z.size
    have hmod : p % z.size < z.size := Nat.mod_lt _ hs0
    have h8 := flatG_get (List.replicate m (⟨z0, z.toList⟩ : GE α)) (p / z.size) ⟨z0, z.toList⟩ hes (by simp [hq]) (p % z.size) z[p % z.size] (by simp [hmod])
    rw [hpe] at h8
    rw [h8, List.getElem?_take, if_pos hp, show (madeCells z (m * z.size)).toList[p]? = (madeCells z (m * z.size))[p]? by simp, made_get z _ p hp hs0]
    simp [hmod]
  · rw [List.getElem?_take, if_neg hp, List.getElem?_eq_none]
    rw [flatG_len hes, List.length_replicate]; omega
/-- A new row. -/
theorem op_makeG {α : Type} {Cl : Rd → List Value → α → Prop} {t e : TypeId} {xl : Operand} {l : Int} {m size b : Nat} {i0 : TypeInfo} {z0 : α} {A B : List (Nat × Obj)} {r : World → Hid → Rd} (F : List (Nat × Obj) → List (Nat × Obj)) (hF : Fr n a L D) (hc : opk L o d n = true) (hS : St E w0 X w Y (F [])) (hM : ∀ rb, F rb = A ++ (rb ++ B))
    (ho : o.op = .makeSlice t xl xl) (hl : evL L xl = .int .i64 l) (hm : l = (m : Int)) (ht : P.underlying t = some (.slice e)) (hi : P.info? e = some i0) (hz : i0.zero = some (zI i0)) (hs : i0.size = size) (hzs : (zI i0).cells.size = size) (hb : i0.bytes = b) (hby : b * m ≤ 281474976710656) (h63 : m ≤ 140737488355328)
    (hz0 : ∀ r, Cl r (zI i0).cells.toList z0)
    (k : ∀ rb ad w1 Y1, GRow Cl e size (r w1 Y1) rb ad m m (List.replicate m z0) → St E w0 X w1 Y1 (F rb) → Le (rd w Y) (rd w1 Y1) → ∀ a1, Fr n a1 ((d, .slice ad m m) :: L) D → K a1 w1) : o.wp P a w K Q := by
  refine op_new (fun b => .slice (some ⟨b, 0, none⟩) m m) (.cells (madeCells (zI i0).cells (m * i0.size)) e (0, 0)) hF hc hS (fun w => ?_) (fun b w1 Y1 h1 h2 _ a1 G1 => ?_)
  · have hb' : (i0.bytes : Int) * (m : Int) ≤ 281474976710656 := by
      have h : ((i0.bytes * m : Nat) : Int) ≤ 281474976710656 := by rw [hb]; omega
      rwa [Int.natCast_mul] at h
    have hr := run_make (P := P) w t e i0 (zI i0) ht hi hz .i64 .i64 (m : Int) (m : Int) (by omega) (Int.le_refl _) hb' (by omega)
    simp only [Int.toNat_natCast] at hr
    unfold execOp
    simp only [ho, hl, hm, hr, Sem.run_bind, Sem.run_pure, Result.andThen_ok]
  · have C2 : St E w0 X w1 Y1 (F [(b, .cells (madeCells (zI i0).cells (m * i0.size)) e (0, 0))]) := by
      rw [hM] at h1 ⊢
      exact h1.perm (by simp)
    have hrow : Row m m size (madeCells (zI i0).cells (m * i0.size)) (flatG (List.replicate m (⟨z0, (zI i0).cells.toList⟩ : GE α))) := by
      rw [hs]
      exact ⟨Nat.le_refl _, by simp only [maxLen]; omega, madeCells_size _ _, made_flat hzs m⟩
    refine k _ _ w1 Y1 ⟨List.replicate m ⟨z0, (zI i0).cells.toList⟩, .inr ⟨b, _, rfl, rfl, hrow⟩, by simp, fun x hx => ?_, by simp⟩ C2 h2 a1 G1
    rw [List.eq_of_mem_replicate hx]
    exact ⟨by simpa using hzs, fun r' _ => hz0 r'⟩
end
theorem GRow.opn2 {α : Type} {Cl : Rd → List Value → α → Prop} {T : TypeId} {size : Nat} {r : Rd} {g m cap i : Nat} {cur : Array Value} {L : List α} {x : α} (h : GRow Cl T size r [(g, .cells cur T (0, 0))] (some ⟨g, 0, none⟩) m cap L) (hx : L[i]? = some x) : ∃ cs, i < m ∧ (cs.length = size ∧ ∀ r', Le r r' → Cl r' cs x) ∧ ∀ j v, cs[j]? = some v → cur[i * size + j]? = some v := by
  obtain ⟨g', cur', cs, e1, _, h1, h2, h3⟩ := h.opn hx
  cases e1
  exact ⟨cs, h1, h2, h3⟩
theorem CellsAt.sub {w : World} {b off : Nat} {vs : List Value} (h : CellsAt w ⟨b, off, none⟩ vs) (n m : Nat) : CellsAt w ⟨b, off + n, none⟩ ((vs.drop n).take m) := fun j v hj => by
  rw [List.getElem?_take] at hj
  split at hj
  · rw [List.getElem?_drop] at hj
    have := h (n + j) v hj
    rw [add_mk] at *
    rwa [← Nat.add_assoc] at this
  · cases hj
/-- A load, in a region that draws, from a row of the call's own that stands still. -/
theorem grG {R : Rg} {Pd : List Pn} {c : Array Bool × List (Nat × Value)} {M : List (Nat × Obj)} {r : Rd} (i j k size n m : Nat) {T : TypeId} {g : Nat} {cur : Array Value} {cs : List Value} (hcur : ∀ j v, cs[j]? = some v → cur[k * size + j]? = some v) (cont : Gt R Pd (gv R i (ldV (ldG R.P (opAt R.ops i)) ((cs.drop n).take m)) c) M r)
    (hj : R.M0[j]? = some (g, .cells cur T (0, 0)) := by kernel_rfl)
    (hi : R.ops[i]? = some (opAt R.ops i) := by kernel_rfl) (hc : gok R Pd c i = true := by kernel_rfl) (hT : (waits R.ops R.T i && !begun R.T c.1) = true := by kernel_rfl)
    (ho : (opAt R.ops i).op = .load (ldT' (opAt R.ops i)) (ldX (opAt R.ops i)) := by kernel_rfl) (hx : evL c.2 (ldX (opAt R.ops i)) = .pointer (some ⟨g, 0 + k * size + n, none⟩) := by kernel_rfl) (ht : ldT R.P (ldT' (opAt R.ops i)) = some (ldG R.P (opAt R.ops i), ((cs.drop n).take m).length) := by kernel_rfl) (hg : (ldG R.P (opAt R.ops i) || ((cs.drop n).take m).length == 1) = true := by kernel_rfl) : Gt R Pd c M r :=
  g_val i (.inr ⟨hT, fun w hS => zB ho hx ht (by simpa using hg) ((cells_row (hS.1 _ (List.mem_of_getElem? hj)) hcur).sub n m)⟩) cont hi hc
end Go.Gv
/- Maps from ints to data, that a call owns. By an AI agent; over any program. -/
namespace Go.Gv
open Go Go.Instr
inductive All2 {β γ : Type} (R : β → γ → Prop) : List β → List γ → Prop
  | nil : All2 R [] []
  | cons {a b l m} : R a b → All2 R l m → All2 R (a :: l) (b :: m)
theorem All2.imp {β γ : Type} {R S : β → γ → Prop} {l : List β} {m : List γ} (h : All2 R l m) (k : ∀ a b, R a b → S a b) : All2 S l m := by
  induction h with
  | nil => exact .nil
  | cons h _ ih => exact .cons (k _ _ h) ih
section
variable {α : Type} {V : Rd → Value → α → Prop} {r r' : Rd} {es : List (Int × Value)} {l : List (Int × α)} {z : Int} {zero : Value} {z0 : α}
def getP (z : Int) (z0 : α) : List (Int × α) → α
  | [] => z0
  | p :: l => bif z == p.1 then p.2 else getP z z0 l
def putP (z : Int) (v : α) : List (Int × α) → List (Int × α)
  | [] => [(z, v)]
  | p :: l => bif z == p.1 then (z, v) :: l else p :: putP z v l
/-- The entries say the datum. -/
structure MapR (V : Rd → Value → α → Prop) (r : Rd) (es : List (Int × Value)) (l : List (Int × α)) : Prop where
  all : All2 (fun e x => e.1 = x.1 ∧ V r e.2 x.2) es l
  nd : (es.map Prod.fst).Nodup
  rng : ∀ x ∈ es, -9223372036854775808 ≤ x.1 ∧ x.1 ≤ 9223372036854775807
theorem MapR.nil : MapR V r [] [] := ⟨.nil, List.nodup_nil, fun _ h => by cases h⟩
theorem MapR.mono (hV : ∀ {r r' : Rd} {v : Value} {x : α}, V r v x → Le r r' → V r' v x) (h : MapR V r es l) (k : Le r r') : MapR V r' es l :=
  ⟨h.all.imp fun _ _ h => ⟨h.1, hV h.2 k⟩, h.nd, h.rng⟩
theorem All2.len {β γ : Type} {R : β → γ → Prop} {l : List β} {m : List γ} (h : All2 R l m) : l.length = m.length := by
  induction h with
  | nil => rfl
  | cons _ _ ih => simp [ih]
theorem MapR.len (h : MapR V r es l) : es.length = l.length := All2.len h.all
theorem MapR.keys (h : MapR V r es l) : es.map Prod.fst = l.map Prod.fst := by
  have h1 := h.all
  clear h
  induction h1 with
  | nil => rfl
  | cons h _ ih => simp [h.1, ih]
theorem fnd_val (z : Int) : ∀ (l : List (Int × Value)) (i j : Nat), (fnd z l i).map Prod.snd = (fnd z l j).map Prod.snd
  | [], _, _ => rfl
  | p :: l, i, j => by
    simp only [fnd]
    cases z == p.1
    · exact fnd_val z l (i + 1) (j + 1)
    · rfl
theorem getM_eq (z : Int) (l : List (Int × Value)) (zero : Value) (i : Nat) : getM z l zero = ((fnd z l i).map Prod.snd).getD zero := by
  rw [fnd_val z l i 0]
  unfold getM
  cases fnd z l 0 <;> rfl
theorem getM_cons (z : Int) (p : Int × Value) (l : List (Int × Value)) (zero : Value) : getM z (p :: l) zero = bif z == p.1 then p.2 else getM z l zero := by
  rw [getM_eq z (p :: l) zero 0, getM_eq z l zero 1]
  simp only [fnd]
  cases z == p.1 <;> rfl
theorem MapR.get (h : MapR V r es l) (hz : V r zero z0) : V r (getM z es zero) (getP z z0 l) := by
  have h1 := h.all
  clear h
  induction h1 with
  | nil => exact hz
  | @cons e x es l h _ ih =>
    rw [getM_cons, getP, ← h.1]
    cases z == e.1
    · exact ih
    · exact h.2
theorem putM_keys (z : Int) (v : Value) : ∀ (es : List (Int × Value)), (putM z v es).map Prod.fst = if z ∈ es.map Prod.fst then es.map Prod.fst else es.map Prod.fst ++ [z]
  | [] => rfl
  | p :: es => by
    have ih := putM_keys z v es
    simp only [putM, List.map_cons, List.mem_cons]
    cases hz : z == p.1
    · have hne : z ≠ p.1 := by simpa using hz
      simp only [cond_false, List.map_cons, ih, hne, false_or]
      split <;> rfl
    · have he : z = p.1 := by simpa using hz
      simp [he]
theorem MapR.put {v : Value} {x : α} (h : MapR V r es l) (hz : -9223372036854775808 ≤ z ∧ z ≤ 9223372036854775807) (hv : V r v x) : MapR V r (putM z v es) (putP z x l) := by
  refine ⟨?_, ?_, ?_⟩
  · have h1 := h.all
    clear h
    induction h1 with
    | nil => exact .cons ⟨rfl, hv⟩ .nil
    | @cons e y es l h ht ih =>
      rw [putM, putP, ← h.1]
      cases z == e.1
      · exact .cons h ih
      · exact .cons ⟨rfl, hv⟩ ht
  · rw [putM_keys]
    split
    · exact h.nd
    · rename_i hn
      rw [List.nodup_append]
      exact ⟨h.nd, by simp, fun a ha b hb => by
        rw [List.mem_singleton] at hb
        rintro rfl
        exact hn (hb ▸ ha)⟩
  · intro y hy
    have hk : y.1 ∈ (putM z v es).map Prod.fst := List.mem_map_of_mem hy
    rw [putM_keys] at hk
    have hold : y.1 ∈ es.map Prod.fst → -9223372036854775808 ≤ y.1 ∧ y.1 ≤ 9223372036854775807 := fun hm => by
      obtain ⟨x, hx, e⟩ := List.mem_map.1 hm
      exact e ▸ h.rng x hx
    split at hk
    · exact hold hk
    · rcases List.mem_append.1 hk with hm | hm
      · exact hold hm
      · rw [List.mem_singleton] at hm; exact hm ▸ hz
/-- Ascending. -/
def insZ (x : Int) : List Int → List Int
  | [] => [x]
  | y :: l => if x ≤ y then x :: y :: l else y :: insZ x l
def sortZ : List Int → List Int
  | [] => []
  | x :: l => insZ x (sortZ l)
theorem insZ_perm (x : Int) : ∀ l : List Int, (insZ x l).Perm (x :: l)
  | [] => .refl _
  | y :: l => by
    unfold insZ
    split
    · exact .refl _
    · exact ((insZ_perm x l).cons y).trans (.swap x y l)
theorem sortZ_perm : ∀ l : List Int, (sortZ l).Perm l
  | [] => .refl _
  | x :: l => (insZ_perm x (sortZ l)).trans ((sortZ_perm l).cons x)
theorem insZ_sorted (x : Int) : ∀ l : List Int, l.Pairwise (· ≤ ·) → (insZ x l).Pairwise (· ≤ ·)
  | [], _ => by simp [insZ]
  | y :: l, h => by
    have h1 := List.pairwise_cons.1 h
    unfold insZ
    split
    · rename_i hxy
      exact .cons (fun a ha => by
        rcases List.mem_cons.1 ha with rfl | ha
        · exact hxy
        · exact Int.le_trans hxy (h1.1 a ha)) h
    · rename_i hxy
      refine .cons (fun a ha => ?_) (insZ_sorted x l h1.2)
      rcases List.mem_cons.1 ((insZ_perm x l).mem_iff.1 ha) with rfl | ha
      · omega
      · exact h1.1 a ha
theorem sortZ_sorted : ∀ l : List Int, (sortZ l).Pairwise (· ≤ ·)
  | [] => .nil
  | x :: l => insZ_sorted x _ (sortZ_sorted l)
theorem sorted_unique {l m : List Int} (h : l.Perm m) (hl : l.Pairwise (· ≤ ·)) (hm : m.Pairwise (· ≤ ·)) : l = m :=
  List.Perm.eq_of_pairwise (le := (· ≤ ·)) (fun _ _ _ _ h1 h2 => Int.le_antisymm h1 h2) hl hm h
end
section
variable {α : Type} {V : Rd → Value → α → Prop} {P : Program} {K : Act → World → Prop} {a : Act} {w w0 : World} {o : Oper} {n d : Nat} {L : List (Nat × Value)} {D : List Deferred} {E : Nat → Prop} {X Y : Hid} {M : List (Nat × Obj)} {Q : Exit → Act → World → Prop}
theorem op_lookR {T TK TV : TypeId} {xm xk : Operand} {b : Nat} {es : List (Int × Value)} {l : List (Int × α)} {z : Int} {zero : Value} {z0 : α} {r : Rd} (i : Nat) (hF : Fr n a L D) (hc : opk L o d n = true) (hS : St E w0 X w Y M)
    (ho : o.op = .lookup T xm xk false) (hm : evL L xm = .map (some b)) (hk : evL L xk = .int .i64 z) (hT : P.underlying T = some (.map TK TV)) (hK : P.underlying TK = some (.int .i64)) (hz : ∀ w, (zeroValue TV).run P w = .ok zero w)
    (hck : ∀ c w, (checkKey c 10000 TK (.int .i64 z)).run P w = .ok () w) (hM : M[i]? = some (b, mapO es)) (hR : MapR V r es l) (h0 : V r zero z0)
    (k : ∀ v, V r v (getP z z0 l) → ∀ a1, Fr n a1 ((d, v) :: L) D → K a1 w) : o.wp P a w K Q :=
  op_lookup i hF hc hS ho hm hk hT ⟨_, hK⟩ hz hck hM (k _ (hR.get h0))
theorem op_mapUpdR {T TK TV : TypeId} {xm xk xv : Operand} {b : Nat} {l : List (Int × Value)} {z : Int} {v : Value} (i : Nat) (hF : Fr n a L D) (hc : (okOp L o && o.dst.isNone) = true) (hS : St E w0 X w Y M)
    (ho : o.op = .mapUpdate T xm xk xv) (hm : evL L xm = .map (some b)) (hk : evL L xk = .int .i64 z) (hv : evL L xv = v) (hT : P.underlying T = some (.map TK TV)) (hK : P.underlying TK = some (.int .i64))
    (hck : ∀ c w, (checkKey c 10000 TK (.int .i64 z)).run P w = .ok () w) (hM : M[i]? = some (b, mapO l))
    (k : ∀ es', es' = putM z v l → ∀ w1, St E w0 X w1 Y (M.set i (b, mapO es')) → Le (rd w Y) (rd w1 Y) → K a w1) : o.wp P a w K Q :=
  op_mapUpd i hF hc hS ho hm hk hv hT ⟨_, hK⟩ hck hM (k _ rfl)
end
/-- The address of an element of an array behind a pointer. -/
theorem run_indexArr {P : Program} {w : World} {ρ : Operand → Value} {o : Oper} {t e : TypeId} {x ix : Operand} {b off nn : Nat} {kd : IntKind} {i : Int} {g : Bool} {m off' : Nat} (ho : o.op = .indexAddr t x ix) (ht : P.underlying t = some (.array nn e))
    (hx : ρ x = .pointer (some ⟨b, off, none⟩)) (hi : ρ ix = .int kd i) (he : ldT P e = some (g, m)) (h0 : 0 ≤ i) (h1 : i < nn) (hoff : off + i.toNat * m = off') :
    (execOp ρ o).run P w = .ok (.value (.pointer (some ⟨b, off', none⟩))) w := by
  unfold execOp
  simp only [ho, hx, hi, Instr.indexAt, asIntOf, underlying, sureAddr, ht, Sem.run_bind, Sem.run_pure, run_program, Result.andThen_ok, h0, h1, and_self, if_true, run_sizeOf he, add_mk, hoff]
/-! ### With the kernel's reckoning -/
def lkM (o : Oper) : Operand := match o.op with
  | .lookup _ x _ _ => x
  | .mapUpdate _ x _ _ => x
  | .call c => c.args.getD 0 (.tmp 0)
  | _ => .tmp 0
def lkK (o : Oper) : Operand := match o.op with
  | .lookup _ _ x _ => x
  | .mapUpdate _ _ x _ => x
  | _ => .tmp 0
def lkV (o : Oper) : Operand := match o.op with
  | .mapUpdate _ _ _ x => x
  | _ => .tmp 0
section
variable {α : Type} {V : Rd → Value → α → Prop} {P : Program} {K : Act → World → Prop} {a : Act} {w w0 : World} {o : Oper} {n d : Nat} {L : List (Nat × Value)} {D : List Deferred} {E : Nat → Prop} {X Y : Hid} {M : List (Nat × Obj)} {Q : Exit → Act → World → Prop}
theorem op_lookRZ (T TK TV : TypeId) {b : Nat} {es : List (Int × Value)} {l : List (Int × α)} (z : Int) (zero : Value) (z0 : α) {r : Rd} (i : Nat) (hF : Fr n a L D) (hc : opk L o d n = true) (hS : St E w0 X w Y M)
    (ho : o.op = .lookup T (lkM o) (lkK o) false) (hm : evL L (lkM o) = .map (some b)) (hk : evL L (lkK o) = .int .i64 z) (hT : P.underlying T = some (.map TK TV)) (hK : P.underlying TK = some (.int .i64)) (hz : ∀ w, (zeroValue TV).run P w = .ok zero w)
    (hck : ∀ c w, (checkKey c 10000 TK (.int .i64 z)).run P w = .ok () w) (hM : M[i]? = some (b, mapO es)) (hR : MapR V r es l) (h0 : V r zero z0)
    (k : ∀ v, V r v (getP z z0 l) → ∀ a1, Fr n a1 ((d, v) :: L) D → K a1 w) : o.wp P a w K Q :=
  op_lookR i hF hc hS ho hm hk hT hK hz hck hM hR h0 k
theorem op_mapUpdRZ (T TK TV : TypeId) {b : Nat} (l : List (Int × Value)) (z : Int) (v : Value) (i : Nat) (hF : Fr n a L D) (hc : (okOp L o && o.dst.isNone) = true) (hS : St E w0 X w Y M)
    (ho : o.op = .mapUpdate T (lkM o) (lkK o) (lkV o)) (hm : evL L (lkM o) = .map (some b)) (hk : evL L (lkK o) = .int .i64 z) (hv : evL L (lkV o) = v) (hT : P.underlying T = some (.map TK TV)) (hK : P.underlying TK = some (.int .i64))
    (hck : ∀ c w, (checkKey c 10000 TK (.int .i64 z)).run P w = .ok () w) (hM : M[i]? = some (b, mapO l))
    (k : ∀ es', es' = putM z v l → ∀ w1, St E w0 X w1 Y (M.set i (b, mapO es')) → Le (rd w Y) (rd w1 Y) → K a w1) : o.wp P a w K Q :=
  op_mapUpdR i hF hc hS ho hm hk hv hT hK hck hM k
theorem op_lenMZ (T TK TV : TypeId) {b : Nat} (l : List (Int × Value)) (i : Nat) (hF : Fr n a L D) (hc : opk L o d n = true) (hS : St E w0 X w Y M)
    (ho : o.op = .call { callee := .builtin .len, args := #[lkM o], argTypes := #[T] }) (hm : evL L (lkM o) = .map (some b)) (hT : P.underlying T = some (.map TK TV)) (hM : M[i]? = some (b, mapO l))
    (k : ∀ a1, Fr n a1 ((d, .int .i64 (l.length : Int)) :: L) D → K a1 w) : o.wp P a w K Q :=
  op_lenM i hF hc hS ho hm hT hM k
end
section
attribute [local semireducible] Go
/-- What is known, written out. -/
theorem zN {r : Option Nat} {m : Nat} {P : Program} {Q : Exit → Act → World → Prop} {n : Nat} {D : List Deferred} {w : World} {c : Cf} (c' : Cf) (h : Go r m P Q n D w c') (hcu : c.cu = c'.cu := by kernel_rfl) (hk : c.k = c'.k := by kernel_rfl)
    (hs : hasAll c.L (c'.L.map (·.1)) = true := by kernel_rfl) (hl : keep c.L (c'.L.map (·.1)) = c'.L := by kernel_rfl) : Go r m P Q n D w c := by
  intro a hF
  rw [hcu, hk]
  exact h a (hF.as _ hs hl)
end
end Go.Gv
/- Data as they are read, printed by a program of this repo. By an AI agent. -/
namespace Go.Gv
open Go.RowKit
def RawV (r : Rd) (v : Value) (x : Raw) : Prop := ∃ a1 a2 a3 a4 a5 a6, v = .agg #[.bool x.neg, .slice a1 a2 a3, .slice a4 a5 a6] ∧ Limbs r a1 a2 a3 x.ln ∧ Limbs r a4 a5 a6 x.ld
theorem RawV.mono {r r' : Rd} {v : Value} {x : Raw} (h : RawV r v x) (k : Le r r') : RawV r' v x := by
  obtain ⟨a1, a2, a3, a4, a5, a6, h0, h1, h2⟩ := h
  exact ⟨a1, a2, a3, a4, a5, a6, h0, h1.mono k, h2.mono k⟩
def IntsAt (r : Rd) (a : Addr) (x : List Int) : Prop := ∃ a1 a3, At r a [.slice a1 x.length a3] ∧ Ints r a1 x.length a3 x
theorem IntsAt.mono (r r' : Rd) (a : Addr) (x : List Int) (k : Le r r') (h : IntsAt r a x) : IntsAt r' a x := by
  obtain ⟨a1, a3, h1, h2⟩ := h
  exact ⟨a1, a3, h1.mono k, h2.mono k⟩
def IntsCs (r : Rd) (cs : List Value) (x : List Int) : Prop := ∃ a1 a3, cs = [.slice a1 x.length a3] ∧ Ints r a1 x.length a3 x
theorem IntsCs.at (r : Rd) (a : Addr) (cs : List Value) (x : List Int) (h : IntsCs r cs x) (k : At r a cs) : IntsAt r a x := by
  obtain ⟨a1, a3, rfl, h2⟩ := h
  exact ⟨a1, a3, k, h2⟩
def IntsS := SlR IntsAt 1
theorem IntsS.mono {r r' : Rd} {ad : Option Addr} {len cap : Nat} {xs : List (List Int)} (h : IntsS r ad len cap xs) (k : Le r r') : IntsS r' ad len cap xs := SlR.mono IntsAt.mono h k
structure BoundsD where
  sense : Int
  lo : Int
  hi : Int
deriving DecidableEq
def BoundsDAt (r : Rd) (a : Addr) (x : BoundsD) : Prop := At r a [.int .u8 x.sense, .int .i64 x.lo, .int .i64 x.hi]
theorem BoundsDAt.mono (r r' : Rd) (a : Addr) (x : BoundsD) (k : Le r r') (h : BoundsDAt r a x) : BoundsDAt r' a x := At.mono k h
def BoundsDV (r : Rd) (v : Value) (x : BoundsD) : Prop := v = .agg #[.int .u8 x.sense, .int .i64 x.lo, .int .i64 x.hi]
theorem BoundsDV.mono {r r' : Rd} {v : Value} {x : BoundsD} (h : BoundsDV r v x) (_ : Le r r') : BoundsDV r' v x := h
def BoundsDCs (r : Rd) (cs : List Value) (x : BoundsD) : Prop := cs = [.int .u8 x.sense, .int .i64 x.lo, .int .i64 x.hi]
theorem BoundsDCs.at (r : Rd) (a : Addr) (cs : List Value) (x : BoundsD) (h : BoundsDCs r cs x) (k : At r a cs) : BoundsDAt r a x := by subst h; exact k
def BoundsDS := SlR BoundsDAt 3
theorem BoundsDS.mono {r r' : Rd} {ad : Option Addr} {len cap : Nat} {xs : List BoundsD} (h : BoundsDS r ad len cap xs) (k : Le r r') : BoundsDS r' ad len cap xs := SlR.mono BoundsDAt.mono h k
structure NoiseD where
  delta : Int
  p : Raw
deriving DecidableEq
def NoiseDAt (r : Rd) (a : Addr) (x : NoiseD) : Prop := ∃ a1 a2 a3 a4, At r a [.int .i64 x.delta, .bool x.p.neg, .slice a1 x.p.ln.length a2, .slice a3 x.p.ld.length a4] ∧ Limbs r a1 x.p.ln.length a2 x.p.ln ∧ Limbs r a3 x.p.ld.length a4 x.p.ld
theorem NoiseDAt.mono (r r' : Rd) (a : Addr) (x : NoiseD) (k : Le r r') (h : NoiseDAt r a x) : NoiseDAt r' a x := by
  obtain ⟨a1, a2, a3, a4, h0, h1, h2⟩ := h
  exact ⟨a1, a2, a3, a4, h0.mono k, h1.mono k, h2.mono k⟩
def NoiseDV (r : Rd) (v : Value) (x : NoiseD) : Prop := ∃ a1 a2 a3 a4, v = .agg #[.int .i64 x.delta, .bool x.p.neg, .slice a1 x.p.ln.length a2, .slice a3 x.p.ld.length a4] ∧ Limbs r a1 x.p.ln.length a2 x.p.ln ∧ Limbs r a3 x.p.ld.length a4 x.p.ld
theorem NoiseDV.mono {r r' : Rd} {v : Value} {x : NoiseD} (h : NoiseDV r v x) (k : Le r r') : NoiseDV r' v x := by
  obtain ⟨a1, a2, a3, a4, h0, h1, h2⟩ := h
  exact ⟨a1, a2, a3, a4, h0, h1.mono k, h2.mono k⟩
def NoiseDCs (r : Rd) (cs : List Value) (x : NoiseD) : Prop := ∃ a1 a2 a3 a4, cs = [.int .i64 x.delta, .bool x.p.neg, .slice a1 x.p.ln.length a2, .slice a3 x.p.ld.length a4] ∧ Limbs r a1 x.p.ln.length a2 x.p.ln ∧ Limbs r a3 x.p.ld.length a4 x.p.ld
theorem NoiseDCs.at (r : Rd) (a : Addr) (cs : List Value) (x : NoiseD) (h : NoiseDCs r cs x) (k : At r a cs) : NoiseDAt r a x := by
  obtain ⟨a1, a2, a3, a4, rfl, h0, h1⟩ := h
  exact ⟨a1, a2, a3, a4, k, h0, h1⟩
def NoiseDS := SlR NoiseDAt 4
theorem NoiseDS.mono {r r' : Rd} {ad : Option Addr} {len cap : Nat} {xs : List NoiseD} (h : NoiseDS r ad len cap xs) (k : Le r r') : NoiseDS r' ad len cap xs := SlR.mono NoiseDAt.mono h k
structure ModelD where
  height : List Int
  own : List Int
  other : List Int
  advisories : List BoundsD
  pull : Int
  near : Int
  steps : Int
  ownNoise : List NoiseD
  otherNoise : List NoiseD
  alert : Raw
  strengthen : Raw
  reversal : Raw
deriving DecidableEq
def ModelDAt (r : Rd) (a : Addr) (x : ModelD) : Prop := ∃ a1 a2 a3 a4 a5 a6 a7 a8 a9 a10 a11 a12 a13 a14 a15 a16 a17 a18 a19 a20 a21 a22 a23 a24, At r a [.slice a1 x.height.length a2, .slice a3 x.own.length a4, .slice a5 x.other.length a6, .slice a7 x.advisories.length a8, .int .i64 x.pull, .int .i64 x.near, .int .i64 x.steps, .slice a9 x.ownNoise.length a10, .slice a11 x.otherNoise.length a12, .bool x.alert.neg, .slice a13 x.alert.ln.length a14, .slice a15 x.alert.ld.length a16, .bool x.strengthen.neg, .slice a17 x.strengthen.ln.length a18, .slice a19 x.strengthen.ld.length a20, .bool x.reversal.neg, .slice a21 x.reversal.ln.length a22, .slice a23 x.reversal.ld.length a24] ∧ Ints r a1 x.height.length a2 x.height ∧ Ints r a3 x.own.length a4 x.own ∧ Ints r a5 x.other.length a6 x.other ∧ BoundsDS r a7 x.advisories.length a8 x.advisories ∧ NoiseDS r a9 x.ownNoise.length a10 x.ownNoise ∧ NoiseDS r a11 x.otherNoise.length a12 x.otherNoise ∧ Limbs r a13 x.alert.ln.length a14 x.alert.ln ∧ Limbs r a15 x.alert.ld.length a16 x.alert.ld ∧ Limbs r a17 x.strengthen.ln.length a18 x.strengthen.ln ∧ Limbs r a19 x.strengthen.ld.length a20 x.strengthen.ld ∧ Limbs r a21 x.reversal.ln.length a22 x.reversal.ln ∧ Limbs r a23 x.reversal.ld.length a24 x.reversal.ld
theorem ModelDAt.mono (r r' : Rd) (a : Addr) (x : ModelD) (k : Le r r') (h : ModelDAt r a x) : ModelDAt r' a x := by
  obtain ⟨a1, a2, a3, a4, a5, a6, a7, a8, a9, a10, a11, a12, a13, a14, a15, a16, a17, a18, a19, a20, a21, a22, a23, a24, h0, h1, h2, h3, h4, h5, h6, h7, h8, h9, h10, h11, h12⟩ := h
  exact ⟨a1, a2, a3, a4, a5, a6, a7, a8, a9, a10, a11, a12, a13, a14, a15, a16, a17, a18, a19, a20, a21, a22, a23, a24, h0.mono k, h1.mono k, h2.mono k, h3.mono k, h4.mono k, h5.mono k, h6.mono k, h7.mono k, h8.mono k, h9.mono k, h10.mono k, h11.mono k, h12.mono k⟩
def ModelDV (r : Rd) (v : Value) (x : ModelD) : Prop := ∃ a1 a2 a3 a4 a5 a6 a7 a8 a9 a10 a11 a12 a13 a14 a15 a16 a17 a18 a19 a20 a21 a22 a23 a24, v = .agg #[.slice a1 x.height.length a2, .slice a3 x.own.length a4, .slice a5 x.other.length a6, .slice a7 x.advisories.length a8, .int .i64 x.pull, .int .i64 x.near, .int .i64 x.steps, .slice a9 x.ownNoise.length a10, .slice a11 x.otherNoise.length a12, .bool x.alert.neg, .slice a13 x.alert.ln.length a14, .slice a15 x.alert.ld.length a16, .bool x.strengthen.neg, .slice a17 x.strengthen.ln.length a18, .slice a19 x.strengthen.ld.length a20, .bool x.reversal.neg, .slice a21 x.reversal.ln.length a22, .slice a23 x.reversal.ld.length a24] ∧ Ints r a1 x.height.length a2 x.height ∧ Ints r a3 x.own.length a4 x.own ∧ Ints r a5 x.other.length a6 x.other ∧ BoundsDS r a7 x.advisories.length a8 x.advisories ∧ NoiseDS r a9 x.ownNoise.length a10 x.ownNoise ∧ NoiseDS r a11 x.otherNoise.length a12 x.otherNoise ∧ Limbs r a13 x.alert.ln.length a14 x.alert.ln ∧ Limbs r a15 x.alert.ld.length a16 x.alert.ld ∧ Limbs r a17 x.strengthen.ln.length a18 x.strengthen.ln ∧ Limbs r a19 x.strengthen.ld.length a20 x.strengthen.ld ∧ Limbs r a21 x.reversal.ln.length a22 x.reversal.ln ∧ Limbs r a23 x.reversal.ld.length a24 x.reversal.ld
theorem ModelDV.op {r : Rd} {v : Value} {x : ModelD} {C : Prop} (h : ModelDV r v x) (k : ∀ (a1 : Option Addr) (a2 : Nat) (a3 : Option Addr) (a4 : Nat) (a5 : Option Addr) (a6 : Nat) (a7 : Option Addr) (a8 : Nat) (a9 : Option Addr) (a10 : Nat) (a11 : Option Addr) (a12 : Nat) (a13 : Option Addr) (a14 : Nat) (a15 : Option Addr) (a16 : Nat) (a17 : Option Addr) (a18 : Nat) (a19 : Option Addr) (a20 : Nat) (a21 : Option Addr) (a22 : Nat) (a23 : Option Addr) (a24 : Nat), v = .agg #[.slice a1 x.height.length a2, .slice a3 x.own.length a4, .slice a5 x.other.length a6, .slice a7 x.advisories.length a8, .int .i64 x.pull, .int .i64 x.near, .int .i64 x.steps, .slice a9 x.ownNoise.length a10, .slice a11 x.otherNoise.length a12, .bool x.alert.neg, .slice a13 x.alert.ln.length a14, .slice a15 x.alert.ld.length a16, .bool x.strengthen.neg, .slice a17 x.strengthen.ln.length a18, .slice a19 x.strengthen.ld.length a20, .bool x.reversal.neg, .slice a21 x.reversal.ln.length a22, .slice a23 x.reversal.ld.length a24] → Ints r a1 x.height.length a2 x.height → Ints r a3 x.own.length a4 x.own → Ints r a5 x.other.length a6 x.other → BoundsDS r a7 x.advisories.length a8 x.advisories → NoiseDS r a9 x.ownNoise.length a10 x.ownNoise → NoiseDS r a11 x.otherNoise.length a12 x.otherNoise → Limbs r a13 x.alert.ln.length a14 x.alert.ln → Limbs r a15 x.alert.ld.length a16 x.alert.ld → Limbs r a17 x.strengthen.ln.length a18 x.strengthen.ln → Limbs r a19 x.strengthen.ld.length a20 x.strengthen.ld → Limbs r a21 x.reversal.ln.length a22 x.reversal.ln → Limbs r a23 x.reversal.ld.length a24 x.reversal.ld → C) : C := by
  obtain ⟨a1, a2, a3, a4, a5, a6, a7, a8, a9, a10, a11, a12, a13, a14, a15, a16, a17, a18, a19, a20, a21, a22, a23, a24, h0, h1, h2, h3, h4, h5, h6, h7, h8, h9, h10, h11, h12⟩ := h
  exact k a1 a2 a3 a4 a5 a6 a7 a8 a9 a10 a11 a12 a13 a14 a15 a16 a17 a18 a19 a20 a21 a22 a23 a24 h0 h1 h2 h3 h4 h5 h6 h7 h8 h9 h10 h11 h12
theorem ModelDAt.op {r : Rd} {a : Addr} {x : ModelD} {C : Prop} (h : ModelDAt r a x) (k : ∀ (a1 : Option Addr) (a2 : Nat) (a3 : Option Addr) (a4 : Nat) (a5 : Option Addr) (a6 : Nat) (a7 : Option Addr) (a8 : Nat) (a9 : Option Addr) (a10 : Nat) (a11 : Option Addr) (a12 : Nat) (a13 : Option Addr) (a14 : Nat) (a15 : Option Addr) (a16 : Nat) (a17 : Option Addr) (a18 : Nat) (a19 : Option Addr) (a20 : Nat) (a21 : Option Addr) (a22 : Nat) (a23 : Option Addr) (a24 : Nat), At r a [.slice a1 x.height.length a2, .slice a3 x.own.length a4, .slice a5 x.other.length a6, .slice a7 x.advisories.length a8, .int .i64 x.pull, .int .i64 x.near, .int .i64 x.steps, .slice a9 x.ownNoise.length a10, .slice a11 x.otherNoise.length a12, .bool x.alert.neg, .slice a13 x.alert.ln.length a14, .slice a15 x.alert.ld.length a16, .bool x.strengthen.neg, .slice a17 x.strengthen.ln.length a18, .slice a19 x.strengthen.ld.length a20, .bool x.reversal.neg, .slice a21 x.reversal.ln.length a22, .slice a23 x.reversal.ld.length a24] → Ints r a1 x.height.length a2 x.height → Ints r a3 x.own.length a4 x.own → Ints r a5 x.other.length a6 x.other → BoundsDS r a7 x.advisories.length a8 x.advisories → NoiseDS r a9 x.ownNoise.length a10 x.ownNoise → NoiseDS r a11 x.otherNoise.length a12 x.otherNoise → Limbs r a13 x.alert.ln.length a14 x.alert.ln → Limbs r a15 x.alert.ld.length a16 x.alert.ld → Limbs r a17 x.strengthen.ln.length a18 x.strengthen.ln → Limbs r a19 x.strengthen.ld.length a20 x.strengthen.ld → Limbs r a21 x.reversal.ln.length a22 x.reversal.ln → Limbs r a23 x.reversal.ld.length a24 x.reversal.ld → C) : C := by
  obtain ⟨a1, a2, a3, a4, a5, a6, a7, a8, a9, a10, a11, a12, a13, a14, a15, a16, a17, a18, a19, a20, a21, a22, a23, a24, h0, h1, h2, h3, h4, h5, h6, h7, h8, h9, h10, h11, h12⟩ := h
  exact k a1 a2 a3 a4 a5 a6 a7 a8 a9 a10 a11 a12 a13 a14 a15 a16 a17 a18 a19 a20 a21 a22 a23 a24 h0 h1 h2 h3 h4 h5 h6 h7 h8 h9 h10 h11 h12
theorem ModelDV.mono {r r' : Rd} {v : Value} {x : ModelD} (h : ModelDV r v x) (k : Le r r') : ModelDV r' v x := by
  obtain ⟨a1, a2, a3, a4, a5, a6, a7, a8, a9, a10, a11, a12, a13, a14, a15, a16, a17, a18, a19, a20, a21, a22, a23, a24, h0, h1, h2, h3, h4, h5, h6, h7, h8, h9, h10, h11, h12⟩ := h
  exact ⟨a1, a2, a3, a4, a5, a6, a7, a8, a9, a10, a11, a12, a13, a14, a15, a16, a17, a18, a19, a20, a21, a22, a23, a24, h0, h1.mono k, h2.mono k, h3.mono k, h4.mono k, h5.mono k, h6.mono k, h7.mono k, h8.mono k, h9.mono k, h10.mono k, h11.mono k, h12.mono k⟩
structure SpanD where
  lo : Int
  hi : Int
deriving DecidableEq
def SpanDAt (r : Rd) (a : Addr) (x : SpanD) : Prop := At r a [.int .i64 x.lo, .int .i64 x.hi]
theorem SpanDAt.mono (r r' : Rd) (a : Addr) (x : SpanD) (k : Le r r') (h : SpanDAt r a x) : SpanDAt r' a x := At.mono k h
def SpanDV (r : Rd) (v : Value) (x : SpanD) : Prop := v = .agg #[.int .i64 x.lo, .int .i64 x.hi]
theorem SpanDV.mono {r r' : Rd} {v : Value} {x : SpanD} (h : SpanDV r v x) (_ : Le r r') : SpanDV r' v x := h
def NoiseDSAt (r : Rd) (a : Addr) (x : List NoiseD) : Prop := ∃ a1 a3, At r a [.slice a1 x.length a3] ∧ NoiseDS r a1 x.length a3 x
theorem NoiseDSAt.mono (r r' : Rd) (a : Addr) (x : List NoiseD) (k : Le r r') (h : NoiseDSAt r a x) : NoiseDSAt r' a x := by
  obtain ⟨a1, a3, h1, h2⟩ := h
  exact ⟨a1, a3, h1.mono k, h2.mono k⟩
def NoiseDSCs (r : Rd) (cs : List Value) (x : List NoiseD) : Prop := ∃ a1 a3, cs = [.slice a1 x.length a3] ∧ NoiseDS r a1 x.length a3 x
theorem NoiseDSCs.at (r : Rd) (a : Addr) (cs : List Value) (x : List NoiseD) (h : NoiseDSCs r cs x) (k : At r a cs) : NoiseDSAt r a x := by
  obtain ⟨a1, a3, rfl, h2⟩ := h
  exact ⟨a1, a3, k, h2⟩
def NoiseDSS := SlR NoiseDSAt 1
theorem NoiseDSS.mono {r r' : Rd} {ad : Option Addr} {len cap : Nat} {xs : List (List NoiseD)} (h : NoiseDSS r ad len cap xs) (k : Le r r') : NoiseDSS r' ad len cap xs := SlR.mono NoiseDSAt.mono h k
def RatCs (r : Rd) (cs : List Value) (x : Raw) : Prop := ∃ a1 a2 a3 a4 a5 a6, cs = [.bool x.neg, .slice a1 a2 a3, .slice a4 a5 a6] ∧ Limbs r a1 a2 a3 x.ln ∧ Limbs r a4 a5 a6 x.ld
theorem RatCs.at (r : Rd) (a : Addr) (cs : List Value) (x : Raw) (h : RatCs r cs x) (k : At r a cs) : RatAt r a x := by
  obtain ⟨a1, a2, a3, a4, a5, a6, rfl, h0, h1⟩ := h
  exact ⟨a1, a2, a3, a4, a5, a6, k, h0, h1⟩
structure ShareD where
  index : Int
  w : Raw
deriving DecidableEq
def ShareDAt (r : Rd) (a : Addr) (x : ShareD) : Prop := ∃ a1 a2 a3 a4, At r a [.int .i64 x.index, .bool x.w.neg, .slice a1 x.w.ln.length a2, .slice a3 x.w.ld.length a4] ∧ Limbs r a1 x.w.ln.length a2 x.w.ln ∧ Limbs r a3 x.w.ld.length a4 x.w.ld
theorem ShareDAt.mono (r r' : Rd) (a : Addr) (x : ShareD) (k : Le r r') (h : ShareDAt r a x) : ShareDAt r' a x := by
  obtain ⟨a1, a2, a3, a4, h0, h1, h2⟩ := h
  exact ⟨a1, a2, a3, a4, h0.mono k, h1.mono k, h2.mono k⟩
def ShareDV (r : Rd) (v : Value) (x : ShareD) : Prop := ∃ a1 a2 a3 a4, v = .agg #[.int .i64 x.index, .bool x.w.neg, .slice a1 x.w.ln.length a2, .slice a3 x.w.ld.length a4] ∧ Limbs r a1 x.w.ln.length a2 x.w.ln ∧ Limbs r a3 x.w.ld.length a4 x.w.ld
theorem ShareDV.mono {r r' : Rd} {v : Value} {x : ShareD} (h : ShareDV r v x) (k : Le r r') : ShareDV r' v x := by
  obtain ⟨a1, a2, a3, a4, h0, h1, h2⟩ := h
  exact ⟨a1, a2, a3, a4, h0, h1.mono k, h2.mono k⟩
def ShareDCs (r : Rd) (cs : List Value) (x : ShareD) : Prop := ∃ a1 a2 a3 a4, cs = [.int .i64 x.index, .bool x.w.neg, .slice a1 x.w.ln.length a2, .slice a3 x.w.ld.length a4] ∧ Limbs r a1 x.w.ln.length a2 x.w.ln ∧ Limbs r a3 x.w.ld.length a4 x.w.ld
theorem ShareDCs.at (r : Rd) (a : Addr) (cs : List Value) (x : ShareD) (h : ShareDCs r cs x) (k : At r a cs) : ShareDAt r a x := by
  obtain ⟨a1, a2, a3, a4, rfl, h0, h1⟩ := h
  exact ⟨a1, a2, a3, a4, k, h0, h1⟩
def ShareDS := SlR ShareDAt 4
theorem ShareDS.mono {r r' : Rd} {ad : Option Addr} {len cap : Nat} {xs : List ShareD} (h : ShareDS r ad len cap xs) (k : Le r r') : ShareDS r' ad len cap xs := SlR.mono ShareDAt.mono h k
structure WeightD where
  vertex : Int
  w : Raw
deriving DecidableEq
def WeightDAt (r : Rd) (a : Addr) (x : WeightD) : Prop := ∃ a1 a2 a3 a4, At r a [.int .i64 x.vertex, .bool x.w.neg, .slice a1 x.w.ln.length a2, .slice a3 x.w.ld.length a4] ∧ Limbs r a1 x.w.ln.length a2 x.w.ln ∧ Limbs r a3 x.w.ld.length a4 x.w.ld
theorem WeightDAt.mono (r r' : Rd) (a : Addr) (x : WeightD) (k : Le r r') (h : WeightDAt r a x) : WeightDAt r' a x := by
  obtain ⟨a1, a2, a3, a4, h0, h1, h2⟩ := h
  exact ⟨a1, a2, a3, a4, h0.mono k, h1.mono k, h2.mono k⟩
def WeightDV (r : Rd) (v : Value) (x : WeightD) : Prop := ∃ a1 a2 a3 a4, v = .agg #[.int .i64 x.vertex, .bool x.w.neg, .slice a1 x.w.ln.length a2, .slice a3 x.w.ld.length a4] ∧ Limbs r a1 x.w.ln.length a2 x.w.ln ∧ Limbs r a3 x.w.ld.length a4 x.w.ld
theorem WeightDV.mono {r r' : Rd} {v : Value} {x : WeightD} (h : WeightDV r v x) (k : Le r r') : WeightDV r' v x := by
  obtain ⟨a1, a2, a3, a4, h0, h1, h2⟩ := h
  exact ⟨a1, a2, a3, a4, h0, h1.mono k, h2.mono k⟩
def WeightDCs (r : Rd) (cs : List Value) (x : WeightD) : Prop := ∃ a1 a2 a3 a4, cs = [.int .i64 x.vertex, .bool x.w.neg, .slice a1 x.w.ln.length a2, .slice a3 x.w.ld.length a4] ∧ Limbs r a1 x.w.ln.length a2 x.w.ln ∧ Limbs r a3 x.w.ld.length a4 x.w.ld
theorem WeightDCs.at (r : Rd) (a : Addr) (cs : List Value) (x : WeightD) (h : WeightDCs r cs x) (k : At r a cs) : WeightDAt r a x := by
  obtain ⟨a1, a2, a3, a4, rfl, h0, h1⟩ := h
  exact ⟨a1, a2, a3, a4, k, h0, h1⟩
def WeightDS := SlR WeightDAt 4
theorem WeightDS.mono {r r' : Rd} {ad : Option Addr} {len cap : Nat} {xs : List WeightD} (h : WeightDS r ad len cap xs) (k : Le r r') : WeightDS r' ad len cap xs := SlR.mono WeightDAt.mono h k
def OutV (r : Rd) (v : Value) (x : Out) : Prop := ∃ a1 a2 a3 a4 a5 a6, v = .agg #[.int .i64 x.to, .bool x.p.neg, .slice a1 a2 a3, .slice a4 a5 a6] ∧ Limbs r a1 a2 a3 x.p.ln ∧ Limbs r a4 a5 a6 x.p.ld
theorem OutV.mono {r r' : Rd} {v : Value} {x : Out} (h : OutV r v x) (k : Le r r') : OutV r' v x := by
  obtain ⟨a1, a2, a3, a4, a5, a6, h0, h1, h2⟩ := h
  exact ⟨a1, a2, a3, a4, a5, a6, h0, h1.mono k, h2.mono k⟩
def OutCs (r : Rd) (cs : List Value) (x : Out) : Prop := ∃ a1 a2 a3 a4 a5 a6, cs = [.int .i64 x.to, .bool x.p.neg, .slice a1 a2 a3, .slice a4 a5 a6] ∧ Limbs r a1 a2 a3 x.p.ln ∧ Limbs r a4 a5 a6 x.p.ld
theorem OutCs.at (r : Rd) (a : Addr) (cs : List Value) (x : Out) (h : OutCs r cs x) (k : At r a cs) : OutAt r a x := by
  obtain ⟨a1, a2, a3, a4, a5, a6, rfl, h0, h1⟩ := h
  exact ⟨a1, a2, a3, a4, a5, a6, k, h0, h1⟩
end Go.Gv
namespace Go.Proofs.YtppalofalmieaaaGreat
open Go Go.Gv Go.RowKit
set_option maxRecDepth 100000
set_option maxHeartbeats 1000000
noncomputable def rat_Check_p (p0 : Raw) : Option (Int) :=
  some p0.chk
theorem rat_Check_c (w : World) (X : Hid) (hX : ∀ k o, X k o → k < w.heap.size) (p0 : Raw) (vp0 : Value) (hp0 : RawV (rd w X) vp0 p0) (y : Int) (hp : rat_Check_p p0 = some y) : Calls Tryz.prog 111 #[vp0] w (Ret E0 w fun _ v => v = .int .i64 y) := by
  obtain ⟨a01, a02, a03, a04, a05, a06, rfl, h01, h02⟩ := hp0
  obtain rfl := Option.some.inj hp
  exact rcheck_c w X hX p0 _ _ _ h01 _ _ _ h02
noncomputable def clearwayref06_Check_p (p0 : Raw) : Option (Int) :=
  some p0.chk
theorem clearwayref06_Check_c (w : World) (X : Hid) (hX : ∀ k o, X k o → k < w.heap.size) (p0 : Raw) (vp0 : Value) (hp0 : RawV (rd w X) vp0 p0) (y : Int) (hp : clearwayref06_Check_p p0 = some y) : Calls Tryz.prog 112 #[vp0] w (Ret E0 w fun _ v => v = .int .i64 y) := by
  obtain ⟨a01, a02, a03, a04, a05, a06, rfl, h01, h02⟩ := hp0
  obtain rfl := Option.some.inj hp
  exact rcheck6_c w X hX p0 _ _ _ h01 _ _ _ h02
noncomputable def rat_Add_p (p0 : Raw) (p1 : Raw) : Option (Raw × Int) :=
  some (opR p0 p1 (p0.rat + p1.rat), opE p0 p1 (p0.rat + p1.rat))
theorem rat_Add_c (w : World) (X : Hid) (hX : ∀ k o, X k o → k < w.heap.size) (p0 : Raw) (vp0 : Value) (hp0 : RawV (rd w X) vp0 p0) (p1 : Raw) (vp1 : Value) (hp1 : RawV (rd w X) vp1 p1) (y : Raw × Int) (hp : rat_Add_p p0 p1 = some y) : Calls Tryz.prog 35 #[vp0, vp1] w (Ret E0 w fun w' v => ∃ uu0, v = .tuple #[uu0, .int .i64 y.2] ∧ RawV (rd w' (old w)) uu0 y.1) := by
  obtain ⟨a01, a02, a03, a04, a05, a06, rfl, h01, h02⟩ := hp0
  obtain ⟨a11, a12, a13, a14, a15, a16, rfl, h11, h12⟩ := hp1
  obtain rfl := Option.some.inj hp
  exact rAdd_c w X hX p0 _ _ _ h01 _ _ _ h02 p1 _ _ _ h11 _ _ _ h12
noncomputable def rat_Mul_p (p0 : Raw) (p1 : Raw) : Option (Raw × Int) :=
  some (opR p0 p1 (p0.rat * p1.rat), opE p0 p1 (p0.rat * p1.rat))
theorem rat_Mul_c (w : World) (X : Hid) (hX : ∀ k o, X k o → k < w.heap.size) (p0 : Raw) (vp0 : Value) (hp0 : RawV (rd w X) vp0 p0) (p1 : Raw) (vp1 : Value) (hp1 : RawV (rd w X) vp1 p1) (y : Raw × Int) (hp : rat_Mul_p p0 p1 = some y) : Calls Tryz.prog 36 #[vp0, vp1] w (Ret E0 w fun w' v => ∃ uu0, v = .tuple #[uu0, .int .i64 y.2] ∧ RawV (rd w' (old w)) uu0 y.1) := by
  obtain ⟨a01, a02, a03, a04, a05, a06, rfl, h01, h02⟩ := hp0
  obtain ⟨a11, a12, a13, a14, a15, a16, rfl, h11, h12⟩ := hp1
  obtain rfl := Option.some.inj hp
  exact rMul_c w X hX p0 _ _ _ h01 _ _ _ h02 p1 _ _ _ h11 _ _ _ h12
noncomputable def rat_Cmp_p (p0 : Raw) (p1 : Raw) : Option (Int × Int) :=
  some (cmpR p0 p1, cmpE p0 p1)
theorem rat_Cmp_c (w : World) (X : Hid) (hX : ∀ k o, X k o → k < w.heap.size) (p0 : Raw) (vp0 : Value) (hp0 : RawV (rd w X) vp0 p0) (p1 : Raw) (vp1 : Value) (hp1 : RawV (rd w X) vp1 p1) (y : Int × Int) (hp : rat_Cmp_p p0 p1 = some y) : Calls Tryz.prog 110 #[vp0, vp1] w (Ret E0 w fun _ v => v = .tuple #[.int .i64 y.1, .int .i64 y.2]) := by
  obtain ⟨a01, a02, a03, a04, a05, a06, rfl, h01, h02⟩ := hp0
  obtain ⟨a11, a12, a13, a14, a15, a16, rfl, h11, h12⟩ := hp1
  obtain rfl := Option.some.inj hp
  exact rCmp_c w X hX p0 _ _ _ h01 _ _ _ h02 p1 _ _ _ h11 _ _ _ h12
noncomputable def rat_From_p (p0 : Int) : Option (Raw) :=
  grd (-9223372036854775808 ≤ p0 ∧ p0 ≤ 9223372036854775807) (some (Raw.of (p0 : Rat)))
theorem rat_From_c (w : World) (X : Hid) (hX : ∀ k o, X k o → k < w.heap.size) (p0 : Int) (y : Raw) (hp : rat_From_p p0 = some y) : Calls Tryz.prog 37 #[.int .i64 p0] w (Ret E0 w fun w' v => RawV (rd w' (old w)) v y) := by
  obtain ⟨⟨h1, h2⟩, hp⟩ := grdp hp
  obtain rfl := Option.some.inj hp
  exact rFrom_c w (old w) (fun k _ h => h) p0 h1 h2
noncomputable def clearwayref06_From_p (p0 : Int) : Option (Raw) :=
  grd (-9223372036854775808 ≤ p0 ∧ p0 ≤ 9223372036854775807) (some (Raw.of (p0 : Rat)))
theorem clearwayref06_From_c (w : World) (X : Hid) (hX : ∀ k o, X k o → k < w.heap.size) (p0 : Int) (y : Raw) (hp : clearwayref06_From_p p0 = some y) : Calls Tryz.prog 32 #[.int .i64 p0] w (Ret E0 w fun w' v => RawV (rd w' (old w)) v y) := by
  obtain ⟨⟨h1, h2⟩, hp⟩ := grdp hp
  obtain rfl := Option.some.inj hp
  exact rFrom6_c w (old w) (fun k _ h => h) p0 h1 h2
noncomputable def rat_Of_p (p0 : Int) (p1 : Int) : Option (Raw × Int) :=
  grd ((-9223372036854775808 ≤ p0 ∧ p0 ≤ 9223372036854775807) ∧ (-9223372036854775808 ≤ p1 ∧ p1 ≤ 9223372036854775807) ∧ p1 ≠ 0) (some (Raw.of (mkRat (sgn (!(decide (p0 < 0) == decide (p1 < 0))) p0.natAbs) p1.natAbs), 0))
theorem rat_Of_c (w : World) (X : Hid) (hX : ∀ k o, X k o → k < w.heap.size) (p0 : Int) (p1 : Int) (y : Raw × Int) (hp : rat_Of_p p0 p1 = some y) : Calls Tryz.prog 95 #[.int .i64 p0, .int .i64 p1] w (Ret E0 w fun w' v => ∃ uu0, v = .tuple #[uu0, .int .i64 y.2] ∧ RawV (rd w' (old w)) uu0 y.1) := by
  obtain ⟨⟨⟨h1, h2⟩, ⟨h3, h4⟩, h5⟩, hp⟩ := grdp hp
  obtain rfl := Option.some.inj hp
  exact rOf_c w (old w) (fun k _ h => h) p0 p1 h1 h2 h3 h4 h5
noncomputable def clearwayref06_Of_p (p0 : Int) (p1 : Int) : Option (Raw × Int) :=
  grd ((-9223372036854775808 ≤ p0 ∧ p0 ≤ 9223372036854775807) ∧ (-9223372036854775808 ≤ p1 ∧ p1 ≤ 9223372036854775807) ∧ p1 ≠ 0) (some (Raw.of (mkRat (sgn (decide (p0 < 0) != decide (p1 < 0)) p0.natAbs) p1.natAbs), 0))
theorem clearwayref06_Of_c (w : World) (X : Hid) (hX : ∀ k o, X k o → k < w.heap.size) (p0 : Int) (p1 : Int) (y : Raw × Int) (hp : clearwayref06_Of_p p0 p1 = some y) : Calls Tryz.prog 33 #[.int .i64 p0, .int .i64 p1] w (Ret E0 w fun w' v => ∃ uu0, v = .tuple #[uu0, .int .i64 y.2] ∧ RawV (rd w' (old w)) uu0 y.1) := by
  obtain ⟨⟨⟨h1, h2⟩, ⟨h3, h4⟩, h5⟩, hp⟩ := grdp hp
  obtain rfl := Option.some.inj hp
  exact rOf6_c w (old w) (fun k _ h => h) p0 p1 h1 h2 h3 h4 h5
instance (l : List Nat) : Decidable (Canon l) := by unfold Canon; infer_instance
instance (a : Raw) : Decidable (Vr a) := by unfold Vr; infer_instance
noncomputable def clearwayref06_Sum_p (p0 : Raw) (p1 : Raw) : Option (Raw) :=
  grd (Vr p0 ∧ Vr p1) (some (Raw.of (p0.rat + p1.rat)))
theorem clearwayref06_Sum_c (w : World) (X : Hid) (hX : ∀ k o, X k o → k < w.heap.size) (p0 : Raw) (vp0 : Value) (hp0 : RawV (rd w X) vp0 p0) (p1 : Raw) (vp1 : Value) (hp1 : RawV (rd w X) vp1 p1) (y : Raw) (hp : clearwayref06_Sum_p p0 p1 = some y) : Calls Tryz.prog 104 #[vp0, vp1] w (Ret E0 w fun w' v => RawV (rd w' X) v y) := by
  obtain ⟨a01, a02, a03, a04, a05, a06, rfl, h01, h02⟩ := hp0
  obtain ⟨a11, a12, a13, a14, a15, a16, rfl, h11, h12⟩ := hp1
  obtain ⟨⟨va, vb⟩, hp⟩ := grdp hp
  obtain rfl := Option.some.inj hp
  exact (rsum6_c w X hX p0 _ _ _ h01 _ _ _ h02 p1 _ _ _ h11 _ _ _ h12 va vb).mono (by rintro e w' ⟨hu, v, rfl, h⟩; exact ⟨hu, _, rfl, h.raw⟩)
noncomputable def clearwayref06_Product_p (p0 : Raw) (p1 : Raw) : Option (Raw) :=
  grd (Vr p0 ∧ Vr p1) (some (Raw.of (p0.rat * p1.rat)))
theorem clearwayref06_Product_c (w : World) (X : Hid) (hX : ∀ k o, X k o → k < w.heap.size) (p0 : Raw) (vp0 : Value) (hp0 : RawV (rd w X) vp0 p0) (p1 : Raw) (vp1 : Value) (hp1 : RawV (rd w X) vp1 p1) (y : Raw) (hp : clearwayref06_Product_p p0 p1 = some y) : Calls Tryz.prog 105 #[vp0, vp1] w (Ret E0 w fun w' v => RawV (rd w' X) v y) := by
  obtain ⟨a01, a02, a03, a04, a05, a06, rfl, h01, h02⟩ := hp0
  obtain ⟨a11, a12, a13, a14, a15, a16, rfl, h11, h12⟩ := hp1
  obtain ⟨⟨va, vb⟩, hp⟩ := grdp hp
  obtain rfl := Option.some.inj hp
  exact (rprod6_c w X hX p0 _ _ _ h01 _ _ _ h02 p1 _ _ _ h11 _ _ _ h12 va vb).mono (by rintro e w' ⟨hu, v, rfl, h⟩; exact ⟨hu, _, rfl, h.raw⟩)
noncomputable def clearwaykit_EqualRat_p (p0 : Raw) (p1 : Raw) : Option (Bool) :=
  some (decide (p0 = p1))
theorem clearwaykit_EqualRat_c (w : World) (X : Hid) (hX : ∀ k o, X k o → k < w.heap.size) (p0 : Raw) (vp0 : Value) (hp0 : RawV (rd w X) vp0 p0) (p1 : Raw) (vp1 : Value) (hp1 : RawV (rd w X) vp1 p1) (y : Bool) (hp : clearwaykit_EqualRat_p p0 p1 = some y) : Calls Tryz.prog 14 #[vp0, vp1] w (Ret E0 w fun _ v => v = .bool y) := by
  obtain ⟨a01, a02, a03, a04, a05, a06, rfl, h01, h02⟩ := hp0
  obtain ⟨a11, a12, a13, a14, a15, a16, rfl, h11, h12⟩ := hp1
  obtain rfl := Option.some.inj hp
  exact EqualRat_c w X hX p0 _ _ _ h01 _ _ _ h02 p1 _ _ _ h11 _ _ _ h12
end Go.Proofs.YtppalofalmieaaaGreat
namespace Go.Proofs.YtppalofalmieaaaGreat
open Go Go.Gv Go.RowKit
set_option maxRecDepth 100000
set_option maxHeartbeats 1000000
noncomputable def interp_size_l4 (J2 : Int → Option (Int)) : List (List Int) → Int → Option (Int)
  | [], v4_0 => J2 v4_0
  | x4 :: r4, v4_0 => interp_size_l4 J2 r4 (IntKind.i64.wrap ((v4_0) * (x4.length : Int)))
noncomputable def interp_size_p (p0 : List (List Int)) : Option (Int) :=
  lt (fun (v2_0 : Int) => some v2_0) fun J2 => interp_size_l4 J2 (p0.drop 0)  1
theorem interp_size_c (w : World) (X : Hid) (hX : ∀ k o, X k o → k < w.heap.size) (p0 : List (List Int)) (vp0 : Value) (hp0 : SV IntsS (rd w X) vp0 p0) (y : Int) (hp : interp_size_p p0 = some y) : Calls Tryz.prog 107 #[vp0] w (Ret E0 w fun _ v => v = .int .i64 y) := by
 obtain ⟨p0a1, p0a2, rfl, p0a_h0⟩ := hp0
 unfold interp_size_p at hp
 refine zen Tryz.func107 ?_
 have C0 : St E0 w X w X [] := St.start hX
 refine zz 10 ?_
 have hob := ltd1 hp
 obtain ⟨J2, hJ2, hp⟩ := hob
 refine zjoin (fun (v2_0 : Int) => [(3, .int .i64 v2_0)]) (fun (v2_0 : Int) w1 => ∃ Y1 : Hid, St E0 w X w1 Y1 [] ∧ Le (rd w X) (rd w1 Y1) ∧ J2 v2_0 = some y) ?_ ?_
 ·
  rintro v2_0 w2 ⟨Y2, C2, j2, hp⟩
  have hp := (hJ2 _).symm.trans hp
  refine zz 7 ?_
  refine zr' (v := .int .i64 v2_0) ?_
  have hob := Option.some.inj hp
  subst hob
  exact ⟨C2.upd, _, rfl, rfl⟩
 intro K3 H3
 refine zz 8 ?_
 have hb4 : (p0.length : Int) ≤ 9223372036854775807 := lenb (p0a_h0).hcap (p0a_h0).hbig
 refine zlp Tryz.f107 [K3] [1, 1, 9, 1, 0] (fun ((v4_0, k4) : Int × Nat) => [(3, .int .i64 v4_0), (6, .slice p0a1 p0.length p0a2), (7, .int .i64 (p0.length : Int)), (8, .int .i64 (k4 : Int))]) (fun ((v4_0, k4) : Int × Nat) w1 => ∃ Y1 : Hid, St E0 w X w1 Y1 [] ∧ Le (rd w X) (rd w1 Y1) ∧ interp_size_l4 J2 (p0.drop k4)  v4_0 = some y) (fun ((v4_0, k4) : Int × Nat) => p0.length - k4) (1, 0) ?_ ?_
 ·
  exact ⟨_, C0, Le.refl _, hp⟩
 rintro ⟨v4_0, k4⟩ w4 K4 H4 ⟨Y4, C4, j4, hp⟩
 refine zz 6 ?_
 refine zt 9 (p := (k4 : Int) < (p0.length : Int)) (fun ht5 => ?_) (fun ht5 => ?_)
 ·
  have hob := get_lt (l := p0) (k := k4) (lt_of_int ht5)
  obtain ⟨x4, hqx4⟩ := hob
  rw [dropC hqx4, interp_size_l4] at hp
  have hzx4 : (0 : Int) ≤ (k4 : Int) := Int.natCast_nonneg _
  refine zz 7 ?_
  have hob := p0a_h0.opn hqx4
  obtain ⟨be6, oe6, rfl, j6, hEe6⟩ := hob
  obtain ⟨e61, e62, e6_at, e6_h0⟩ := hEe6
  refine zi (b := be6) (off := oe6) (len := p0.length) (cap := p0a2) (kd := .i64) (i := (k4 : Int)) 1 (oe6 + k4 * 1) ?_ (h0 := hzx4) (h1 := (ix_b hzx4 j6))
  refine zl ((e6_at.mono j4)).cells ?_
  refine zz 14 ?_
  refine zs 16 (v := .int .i64 (IntKind.i64.wrap ((k4 : Int) + 1))) (v' := .int .i64 ((k4 : Int) + 1)) (vint (wi64 (wk0 k4) (wk1 ht5 hb4))) ?_
  refine zz 2 ?_
  refine znext (fun a h => H4 (IntKind.i64.wrap ((v4_0) * (x4.length : Int)), k4 + 1) _ a h ⟨_, C4, j4, hp⟩ ?_)
  exact mu_lt ht5
 rw [List.drop_eq_nil_of_le (nlt_of_int ht5), interp_size_l4] at hp
 refine zz 5 ?_
 exact znext (fun a h => H3 v4_0 _ a h ⟨_, C4, j4, hp⟩)
noncomputable def interp_Check_l17 (x10 : List Int) (J12 : Option (Int)) : List Int → Nat → Option (Int)
  | [], k17 => J12
  | x17 :: r17, k17 => if (x17) < (-1073741824) then (some 1) else (if (x17) > 1073741824 then (some 1) else (if (k17 : Int) > 0 then ((ix x10 (IntKind.i64.wrap ((k17 : Int) - 1))).bind fun x23 => if (x17) ≤ x23 then (some 1) else (interp_Check_l17 x10 J12 r17 (k17 + 1))) else (interp_Check_l17 x10 J12 r17 (k17 + 1))))
noncomputable def interp_Check_l10 (J4 : Option (Int)) : List (List Int) → Option (Int)
  | [] => J4
  | x10 :: r10 => lt (interp_Check_l10 J4 r10 ) fun J12 => if ((x10.length : Int) == 0) = true then (some 3) else (if (x10.length : Int) > 32 then (some 4) else (interp_Check_l17 x10 J12 (x10.drop 0) 0))
noncomputable def interp_Check_p (p0 : List (List Int)) : Option (Int) :=
  if ((p0.length : Int) == 0) = true then (some 3) else (if (p0.length : Int) > 4 then (some 4) else (lt ((interp_size_p p0).bind fun y6 => if (y6) > 256 then (some 10) else (some 0)) fun J4 => interp_Check_l10 J4 (p0.drop 0) ))
theorem interp_Check_c (w : World) (X : Hid) (hX : ∀ k o, X k o → k < w.heap.size) (p0 : List (List Int)) (vp0 : Value) (hp0 : SV IntsS (rd w X) vp0 p0) (y : Int) (hp : interp_Check_p p0 = some y) : Calls Tryz.prog 69 #[vp0] w (Ret E0 w fun _ v => v = .int .i64 y) := by
 obtain ⟨p0a1, p0a2, rfl, p0a_h0⟩ := hp0
 unfold interp_Check_p at hp
 refine zen Tryz.func69 ?_
 have C0 : St E0 w X w X [] := St.start hX
 refine zz 15 ?_
 refine zb 7 (b := ((p0.length : Int) == 0)) (fun hc2 => ?_) (fun hc2 => ?_)
 ·
  have hp := ipb hc2 hp
  refine zz 9 ?_
  refine zr' (v := .int .i64 3) ?_
  have hob := Option.some.inj hp
  subst hob
  exact ⟨C0.upd, _, rfl, rfl⟩
 have hp := iqb hc2 hp
 refine zz 9 ?_
 refine zt 11 (p := (p0.length : Int) > 4) (fun ht3 => ?_) (fun ht3 => ?_)
 ·
  have hp := ip ht3 hp
  refine zz 9 ?_
  refine zr' (v := .int .i64 4) ?_
  have hob := Option.some.inj hp
  subst hob
  exact ⟨C0.upd, _, rfl, rfl⟩
 have hp := iq ht3 hp
 refine zz 4 ?_
 have hob := ltd0 hp
 obtain ⟨J4, hJ4, hp⟩ := hob
 refine zjoin (fun (_ : Unit) => [(0, .slice p0a1 p0.length p0a2)]) (fun (_ : Unit) w1 => ∃ Y1 : Hid, St E0 w X w1 Y1 [] ∧ Le (rd w X) (rd w1 Y1) ∧ J4 = some y) ?_ ?_
 ·
  rintro _ w4 ⟨Y4, C4, j4, hp⟩
  have hp := hJ4.symm.trans hp
  refine zz 4 ?_
  refine bndk hp fun y6 hy6 hp => ?_
  refine zc C4 (interp_size_c _ X0 (X0_lt _) p0 _ ⟨_, _, rfl, ((p0a_h0.mono j4).mono Le.x0)⟩ y6 hy6) ?_
  rintro v7 w7 C7 j7 hu7 rfl
  refine zz 3 ?_
  refine zt 59 (p := (y6) > 256) (fun ht8 => ?_) (fun ht8 => ?_)
  ·
   have hp := ip ht8 hp
   refine zz 8 ?_
   refine zr' (v := .int .i64 10) ?_
   have hob := Option.some.inj hp
   subst hob
   exact ⟨C7.upd, _, rfl, rfl⟩
  have hp := iq ht8 hp
  refine zz 9 ?_
  refine zr' (v := .int .i64 0) ?_
  have hob := Option.some.inj hp
  subst hob
  exact ⟨C7.upd, _, rfl, rfl⟩
 intro K9 H9
 refine zz 8 ?_
 have hb10 : (p0.length : Int) ≤ 9223372036854775807 := lenb (p0a_h0).hcap (p0a_h0).hbig
 refine zlp Tryz.f69 [K9] [1, 1, 9, 1, 0] (fun (k10 : Nat) => [(0, .slice p0a1 p0.length p0a2), (15, .slice p0a1 p0.length p0a2), (16, .int .i64 (p0.length : Int)), (17, .int .i64 (k10 : Int))]) (fun (k10 : Nat) w1 => ∃ Y1 : Hid, St E0 w X w1 Y1 [] ∧ Le (rd w X) (rd w1 Y1) ∧ interp_Check_l10 J4 (p0.drop k10)  = some y) (fun (k10 : Nat) => p0.length - k10) 0 ?_ ?_
 ·
  exact ⟨_, C0, Le.refl _, hp⟩
 rintro k10 w10 K10 H10 ⟨Y10, C10, j10, hp⟩
 refine zz 6 ?_
 refine zt 18 (p := (k10 : Int) < (p0.length : Int)) (fun ht11 => ?_) (fun ht11 => ?_)
 ·
  have hob := get_lt (l := p0) (k := k10) (lt_of_int ht11)
  obtain ⟨x10, hqx10⟩ := hob
  rw [dropC hqx10, interp_Check_l10] at hp
  have hzx10 : (0 : Int) ≤ (k10 : Int) := Int.natCast_nonneg _
  refine zz 3 ?_
  have hob := ltd0 hp
  obtain ⟨J12, hJ12, hp⟩ := hob
  refine zjoin (fun (_ : Unit) => [(0, .slice p0a1 p0.length p0a2), (15, .slice p0a1 p0.length p0a2), (16, .int .i64 (p0.length : Int)), (17, .int .i64 (k10 : Int))]) (fun (_ : Unit) w1 => ∃ Y1 : Hid, St E0 w X w1 Y1 [] ∧ Le (rd w10 Y10) (rd w1 Y1) ∧ J12 = some y) ?_ ?_
  ·
   rintro _ w12 ⟨Y12, C12, j12, hp⟩
   have hp := hJ12.symm.trans hp
   refine zz 2 ?_
   refine zs 56 (v := .int .i64 (IntKind.i64.wrap ((k10 : Int) + 1))) (v' := .int .i64 ((k10 : Int) + 1)) (vint (wi64 (wk0 k10) (wk1 ht11 hb10))) ?_
   refine zz 2 ?_
   refine znext (fun a h => H10 (k10 + 1) _ a h ⟨_, C12, (Le2 j10 j12), hp⟩ ?_)
   exact mu_lt ht11
  intro K13 H13
  refine zz 3 ?_
  have hob := p0a_h0.opn hqx10
  obtain ⟨be14, oe14, rfl, j14, hEe14⟩ := hob
  obtain ⟨e141, e142, e14_at, e14_h0⟩ := hEe14
  refine zi (b := be14) (off := oe14) (len := p0.length) (cap := p0a2) (kd := .i64) (i := (k10 : Int)) 1 (oe14 + k10 * 1) ?_ (h0 := hzx10) (h1 := (ix_b hzx10 j14))
  refine zl ((e14_at.mono j10)).cells ?_
  refine zz 13 ?_
  refine zb 21 (b := ((x10.length : Int) == 0)) (fun hc15 => ?_) (fun hc15 => ?_)
  ·
   have hp := ipb hc15 hp
   refine zz 14 ?_
   refine zr' (v := .int .i64 3) ?_
   have hob := Option.some.inj hp
   subst hob
   exact ⟨C10.upd, _, rfl, rfl⟩
  have hp := iqb hc15 hp
  refine zz 9 ?_
  refine zt 25 (p := (x10.length : Int) > 32) (fun ht16 => ?_) (fun ht16 => ?_)
  ·
   have hp := ip ht16 hp
   refine zz 14 ?_
   refine zr' (v := .int .i64 4) ?_
   have hob := Option.some.inj hp
   subst hob
   exact ⟨C10.upd, _, rfl, rfl⟩
  have hp := iq ht16 hp
  refine zz 12 ?_
  have hb17 : (x10.length : Int) ≤ 9223372036854775807 := lenb (e14_h0).hcap (e14_h0).hbig
  refine zlp Tryz.f69 [K9, K10, K13] [1, 1, 9, 1, 0, 0, 1, 1, 9, 0, 1, 1, 1, 0] (fun (k17 : Nat) => [(0, .slice (some ⟨be14, oe14, none⟩) p0.length p0a2), (4, .slice e141 x10.length e142), (15, .slice (some ⟨be14, oe14, none⟩) p0.length p0a2), (16, .int .i64 (p0.length : Int)), (17, .int .i64 (k10 : Int)), (29, .slice e141 x10.length e142), (30, .int .i64 (x10.length : Int)), (31, .int .i64 (k17 : Int))]) (fun (k17 : Nat) w1 => ∃ Y1 : Hid, St E0 w X w1 Y1 [] ∧ Le (rd w10 Y10) (rd w1 Y1) ∧ interp_Check_l17 x10 J12 (x10.drop k17) k17 = some y) (fun (k17 : Nat) => x10.length - k17) 0 ?_ ?_
  ·
   exact ⟨_, C10, Le.refl _, hp⟩
  rintro k17 w17 K17 H17 ⟨Y17, C17, j17, hp⟩
  refine zz 6 ?_
  refine zt 32 (p := (k17 : Int) < (x10.length : Int)) (fun ht18 => ?_) (fun ht18 => ?_)
  ·
   have hob := get_lt (l := x10) (k := k17) (lt_of_int ht18)
   obtain ⟨x17, hqx17⟩ := hob
   rw [dropC hqx17, interp_Check_l17] at hp
   have hzx17 : (0 : Int) ≤ (k17 : Int) := Int.natCast_nonneg _
   refine zz 8 ?_
   have hob := e14_h0.opn hqx17
   obtain ⟨be19, oe19, rfl, j19, hEe19⟩ := hob
   have hAe19 : At (rd w X) ⟨be19, oe19 + k17 * 1, none⟩ [.int .i64 x17] := hEe19
   refine zi (b := be19) (off := oe19) (len := x10.length) (cap := e142) (kd := .i64) (i := (k17 : Int)) 1 (oe19 + k17 * 1) ?_ (h0 := hzx17) (h1 := (ix_b hzx17 j19))
   refine zl ((hAe19.mono (Le2 j10 j17))).cells ?_
   refine zz 9 ?_
   refine zt 38 (p := (x17) < (-1073741824)) (fun ht20 => ?_) (fun ht20 => ?_)
   ·
    have hp := ip ht20 hp
    refine zz 34 ?_
    refine zr' (v := .int .i64 1) ?_
    have hob := Option.some.inj hp
    subst hob
    exact ⟨C17.upd, _, rfl, rfl⟩
   have hp := iq ht20 hp
   refine zz 4 ?_
   refine zt 42 (p := (x17) > 1073741824) (fun ht21 => ?_) (fun ht21 => ?_)
   ·
    have hp := ip ht21 hp
    refine zz 30 ?_
    refine zr' (v := .int .i64 1) ?_
    have hob := Option.some.inj hp
    subst hob
    exact ⟨C17.upd, _, rfl, rfl⟩
   have hp := iq ht21 hp
   refine zz 3 ?_
   refine zt 45 (p := (k17 : Int) > 0) (fun ht22 => ?_) (fun ht22 => ?_)
   ·
    have hp := ip ht22 hp
    refine zz 4 ?_
    refine bndk hp fun x23 hx23 hp => ?_
    have hob := ix_some hx23
    obtain ⟨hzx23, hqx23⟩ := hob
    have hob := e14_h0.opn2 hqx23
    obtain ⟨j24, hEe24⟩ := hob
    have hAe24 : At (rd w X) ⟨be19, oe19 + (IntKind.i64.wrap ((k17 : Int) - 1)).toNat * 1, none⟩ [.int .i64 x23] := hEe24
    refine zi (b := be19) (off := oe19) (len := x10.length) (cap := e142) (kd := .i64) (i := IntKind.i64.wrap ((k17 : Int) - 1)) 1 (oe19 + (IntKind.i64.wrap ((k17 : Int) - 1)).toNat * 1) ?_ (h0 := hzx23) (h1 := (ix_b hzx23 j24))
    refine zl ((hAe24.mono (Le2 j10 j17))).cells ?_
    refine zz 5 ?_
    refine zt 54 (p := (x17) ≤ x23) (fun ht25 => ?_) (fun ht25 => ?_)
    ·
     have hp := ip ht25 hp
     refine zz 16 ?_
     refine zr' (v := .int .i64 1) ?_
     have hob := Option.some.inj hp
     subst hob
     exact ⟨C17.upd, _, rfl, rfl⟩
    have hp := iq ht25 hp
    refine zz 6 ?_
    refine zs 55 (v := .int .i64 (IntKind.i64.wrap ((k17 : Int) + 1))) (v' := .int .i64 ((k17 : Int) + 1)) (vint (wi64 (wk0 k17) (wk1 ht18 hb17))) ?_
    refine zz 2 ?_
    refine znext (fun a h => H17 (k17 + 1) _ a h ⟨_, C17, j17, hp⟩ ?_)
    exact mu_lt ht18
   have hp := iq ht22 hp
   refine zz 17 ?_
   refine zs 55 (v := .int .i64 (IntKind.i64.wrap ((k17 : Int) + 1))) (v' := .int .i64 ((k17 : Int) + 1)) (vint (wi64 (wk0 k17) (wk1 ht18 hb17))) ?_
   refine zz 2 ?_
   refine znext (fun a h => H17 (k17 + 1) _ a h ⟨_, C17, j17, hp⟩ ?_)
   exact mu_lt ht18
  rw [List.drop_eq_nil_of_le (nlt_of_int ht18), interp_Check_l17] at hp
  refine zz 6 ?_
  exact znext (fun a h => H13 () _ a h ⟨_, C17, j17, hp⟩)
 rw [List.drop_eq_nil_of_le (nlt_of_int ht11), interp_Check_l10] at hp
 refine zz 5 ?_
 exact znext (fun a h => H9 () _ a h ⟨_, C10, j10, hp⟩)
noncomputable def dynamics_grid_p (p0 : ModelD) : Option ((List (List Int))) :=
  some ([p0.height, p0.own, p0.other])
theorem dynamics_grid_c (w : World) (X : Hid) (hX : ∀ k o, X k o → k < w.heap.size) (p0 : ModelD) (vp0 : Value) (hp0 : ModelDV (rd w X) vp0 p0) (y : (List (List Int))) (hp : dynamics_grid_p p0 = some y) : Calls Tryz.prog 70 #[vp0] w (Ret E0 w fun w' v => SV IntsS (rd w' X) v y) := by
 have hVp0 := hp0
 refine ModelDV.op hp0 fun p0a1 p0a2 p0a3 p0a4 p0a5 p0a6 p0a7 p0a8 p0a9 p0a10 p0a11 p0a12 p0a13 p0a14 p0a15 p0a16 p0a17 p0a18 p0a19 p0a20 p0a21 p0a22 p0a23 p0a24 hv9 p0a_h0 p0a_h1 p0a_h2 p0a_h3 p0a_h4 p0a_h5 p0a_h6 p0a_h7 p0a_h8 p0a_h9 p0a_h10 p0a_h11 => ?_
 subst hv9
 unfold dynamics_grid_p at hp
 refine zen Tryz.func70 ?_
 have C0 : St E0 w X w X [] := St.start hX
 refine zz 2 ?_
 refine zn pn (.cells #[.slice p0a1 p0.height.length p0a2, .slice p0a3 p0.own.length p0a4, .slice p0a5 p0.other.length p0a6, .slice p0a7 p0.advisories.length p0a8, .int .i64 p0.pull, .int .i64 p0.near, .int .i64 p0.steps, .slice p0a9 p0.ownNoise.length p0a10, .slice p0a11 p0.otherNoise.length p0a12, .bool p0.alert.neg, .slice p0a13 p0.alert.ln.length p0a14, .slice p0a15 p0.alert.ld.length p0a16, .bool p0.strengthen.neg, .slice p0a17 p0.strengthen.ln.length p0a18, .slice p0a19 p0.strengthen.ld.length p0a20, .bool p0.reversal.neg, .slice p0a21 p0.reversal.ln.length p0a22, .slice p0a23 p0.reversal.ld.length p0a24] 30 (0, 0)) C0 ?_
 intro b3 w3 Y3 C3 j3 hu3
 refine zz 6 ?_
 refine zo 0 C3 ?_
 refine zz 1 ?_
 refine zo 0 C3 ?_
 refine zz 1 ?_
 refine zo 0 C3 ?_
 refine zn (fun b => .slice (some ⟨b, 0, none⟩) 3 3) (.cells #[.slice p0a1 p0.height.length p0a2, .slice p0a3 p0.own.length p0a4, .slice p0a5 p0.other.length p0a6] 22 (0, 0)) C3 ?_
 intro b5 w5 Y5 C5 j5 hu5
 refine zz 4 ?_
 refine zr' (v := .slice (some ⟨b5, 0, none⟩) 3 3) ?_
 have hob := St.pubAt 0 C5 rfl
 obtain ⟨Y6, hSx6, j6, hat6, hatN6⟩ := hob
 have C6 : St E0 w X w5 Y6 [(b3, .cells #[.slice p0a1 p0.height.length p0a2, .slice p0a3 p0.own.length p0a4, .slice p0a5 p0.other.length p0a6, .slice p0a7 p0.advisories.length p0a8, .int .i64 p0.pull, .int .i64 p0.near, .int .i64 p0.steps, .slice p0a9 p0.ownNoise.length p0a10, .slice p0a11 p0.otherNoise.length p0a12, .bool p0.alert.neg, .slice p0a13 p0.alert.ln.length p0a14, .slice p0a15 p0.alert.ld.length p0a16, .bool p0.strengthen.neg, .slice p0a17 p0.strengthen.ln.length p0a18, .slice p0a19 p0.strengthen.ld.length p0a20, .bool p0.reversal.neg, .slice p0a21 p0.reversal.ln.length p0a22, .slice p0a23 p0.reversal.ld.length p0a24] 30 (0, 0))] := hSx6
 have hR6 : IntsS (rd w5 Y6) (some ⟨b5, 0, none⟩) 3 3 [p0.height, p0.own, p0.other] := (SlR.lit (El := IntsAt) (size := 1) (n := 3) [⟨p0.height, [.slice p0a1 p0.height.length p0a2]⟩, ⟨p0.own, [.slice p0a3 p0.own.length p0a4]⟩, ⟨p0.other, [.slice p0a5 p0.other.length p0a6]⟩] hat6 (List.forall_mem_cons.2 ⟨⟨rfl, fun r2 h2 b o h9 => ⟨_, _, h9, ((p0a_h0.mono (Le3 j3 j5 j6)).mono h2)⟩⟩, (List.forall_mem_cons.2 ⟨⟨rfl, fun r2 h2 b o h9 => ⟨_, _, h9, ((p0a_h1.mono (Le3 j3 j5 j6)).mono h2)⟩⟩, (List.forall_mem_cons.2 ⟨⟨rfl, fun r2 h2 b o h9 => ⟨_, _, h9, ((p0a_h2.mono (Le3 j3 j5 j6)).mono h2)⟩⟩, (List.forall_mem_nil _)⟩)⟩)⟩) rfl (by decide))
 have hob := Option.some.inj hp
 subst hob
 exact ⟨C6.upd, _, rfl, ⟨_, _, rfl, (hR6).mono C6.le⟩⟩
noncomputable def dynamics_size_p (p0 : ModelD) : Option (Int) :=
  (some (IntKind.i64.wrap ((IntKind.i64.wrap ((p0.height.length : Int) * (p0.own.length : Int))) * (p0.other.length : Int)))).bind fun z4 => some (IntKind.i64.wrap ((z4) * (p0.advisories.length : Int)))
theorem dynamics_size_c (w : World) (X : Hid) (hX : ∀ k o, X k o → k < w.heap.size) (p0 : ModelD) (vp0 : Value) (hp0 : ModelDV (rd w X) vp0 p0) (y : Int) (hp : dynamics_size_p p0 = some y) : Calls Tryz.prog 56 #[vp0] w (Ret E0 w fun _ v => v = .int .i64 y) := by
 have hVp0 := hp0
 refine ModelDV.op hp0 fun p0a1 p0a2 p0a3 p0a4 p0a5 p0a6 p0a7 p0a8 p0a9 p0a10 p0a11 p0a12 p0a13 p0a14 p0a15 p0a16 p0a17 p0a18 p0a19 p0a20 p0a21 p0a22 p0a23 p0a24 hv9 p0a_h0 p0a_h1 p0a_h2 p0a_h3 p0a_h4 p0a_h5 p0a_h6 p0a_h7 p0a_h8 p0a_h9 p0a_h10 p0a_h11 => ?_
 subst hv9
 unfold dynamics_size_p at hp
 refine zen Tryz.func56 ?_
 have C0 : St E0 w X w X [] := St.start hX
 refine zz 2 ?_
 refine zn pn (.cells #[.slice p0a1 p0.height.length p0a2, .slice p0a3 p0.own.length p0a4, .slice p0a5 p0.other.length p0a6, .slice p0a7 p0.advisories.length p0a8, .int .i64 p0.pull, .int .i64 p0.near, .int .i64 p0.steps, .slice p0a9 p0.ownNoise.length p0a10, .slice p0a11 p0.otherNoise.length p0a12, .bool p0.alert.neg, .slice p0a13 p0.alert.ln.length p0a14, .slice p0a15 p0.alert.ld.length p0a16, .bool p0.strengthen.neg, .slice p0a17 p0.strengthen.ln.length p0a18, .slice p0a19 p0.strengthen.ld.length p0a20, .bool p0.reversal.neg, .slice p0a21 p0.reversal.ln.length p0a22, .slice p0a23 p0.reversal.ld.length p0a24] 30 (0, 0)) C0 ?_
 intro b3 w3 Y3 C3 j3 hu3
 refine zz 6 ?_
 refine zo 0 C3 ?_
 refine zz 2 ?_
 refine zo 0 C3 ?_
 refine zz 3 ?_
 refine zo 0 C3 ?_
 refine bndk hp fun z4 hz4 hp => ?_
 refine zz 2 ?_
 refine zs 13 (v := .int .i64 (IntKind.i64.wrap ((IntKind.i64.wrap ((p0.height.length : Int) * (p0.own.length : Int))) * (p0.other.length : Int)))) (v' := .int .i64 z4) (vint (Option.some.inj hz4)) ?_
 refine zz 1 ?_
 refine zo 0 C3 ?_
 refine zz 6 ?_
 refine zr' (v := .int .i64 (IntKind.i64.wrap ((z4) * (p0.advisories.length : Int)))) ?_
 have hob := Option.some.inj hp
 subst hob
 exact ⟨C3.upd, _, rfl, rfl⟩
noncomputable def dynamics_span_has_1_p (p0 : Int) (p1 : SpanD) : Option (Bool) :=
  if (p0) < p1.lo then (some true) else (some (decide ((p0) > p1.hi)))
theorem dynamics_span_has_1_c (w : World) (X : Hid) (hX : ∀ k o, X k o → k < w.heap.size) (p0 : Int) (p1 : SpanD) (bp1 : Nat) (hp1 : SpanDAt (rd w X) ⟨bp1, 0, none⟩ p1) (y : Bool) (hp : dynamics_span_has_1_p p0 p1 = some y) : Calls Tryz.prog 109 #[.int .i64 p0, .pointer (some ⟨bp1, 0, none⟩)] w (Ret E0 w fun _ v => v = .bool y) := by
 have p1a_at : At (rd w X) ⟨bp1, 0, none⟩ [.int .i64 p1.lo, .int .i64 p1.hi] := hp1
 unfold dynamics_span_has_1_p at hp
 refine zen Tryz.func109 ?_
 have C0 : St E0 w X w X [] := St.start hX
 refine zz 9 ?_
 refine zl (p1a_at.sub 0 1).cells ?_
 refine zz 2 ?_
 refine zt 8 (p := (p0) < p1.lo) (fun ht2 => ?_) (fun ht2 => ?_)
 ·
  have hp := ip ht2 hp
  refine zz 9 ?_
  refine zr' (v := .bool true) ?_
  have hob := Option.some.inj hp
  subst hob
  exact ⟨C0.upd, _, rfl, rfl⟩
 have hp := iq ht2 hp
 refine zz 2 ?_
 refine zl (p1a_at.sub 1 1).cells ?_
 refine zz 6 ?_
 refine zr' (v := .bool (decide ((p0) > p1.hi))) ?_
 have hob := Option.some.inj hp
 subst hob
 exact ⟨C0.upd, _, rfl, rfl⟩
noncomputable def slices_IndexFunc_int_int_s109_l4 (p1q0 : SpanD) (J2 : Option (Int)) : List Int → Nat → Option (Int)
  | [], k4 => J2
  | x4 :: r4, k4 => (dynamics_span_has_1_p (x4) p1q0).bind fun y8 => if y8 = true then (some (k4 : Int)) else (slices_IndexFunc_int_int_s109_l4 p1q0 J2 r4 (k4 + 1))
noncomputable def slices_IndexFunc_int_int_s109_p (p0 : List Int) (p1q0 : SpanD) : Option (Int) :=
  lt (some (-1)) fun J2 => slices_IndexFunc_int_int_s109_l4 p1q0 J2 (p0.drop 0) 0
theorem slices_IndexFunc_int_int_s109_c (w : World) (X : Hid) (hX : ∀ k o, X k o → k < w.heap.size) (p0 : List Int) (vp0 : Value) (hp0 : SV Ints (rd w X) vp0 p0) (p1q0 : SpanD) (bp1q0 : Nat) (hp1q0 : SpanDAt (rd w X) ⟨bp1q0, 0, none⟩ p1q0) (y : Int) (hp : slices_IndexFunc_int_int_s109_p p0 p1q0 = some y) : Calls Tryz.prog 144 #[vp0, .func (.func 109) #[] #[.pointer (some ⟨bp1q0, 0, none⟩)]] w (Ret E0 w fun _ v => v = .int .i64 y) := by
 obtain ⟨p0a1, p0a2, rfl, p0a_h0⟩ := hp0
 have p1q0a_at : At (rd w X) ⟨bp1q0, 0, none⟩ [.int .i64 p1q0.lo, .int .i64 p1q0.hi] := hp1q0
 unfold slices_IndexFunc_int_int_s109_p at hp
 refine zen Tryz.func144 ?_
 have C0 : St E0 w X w X [] := St.start hX
 refine zz 5 ?_
 have hob := ltd0 hp
 obtain ⟨J2, hJ2, hp⟩ := hob
 refine zjoin (fun (_ : Unit) => []) (fun (_ : Unit) w1 => ∃ Y1 : Hid, St E0 w X w1 Y1 [] ∧ Le (rd w X) (rd w1 Y1) ∧ J2 = some y) ?_ ?_
 ·
  rintro _ w2 ⟨Y2, C2, j2, hp⟩
  have hp := hJ2.symm.trans hp
  refine zz 6 ?_
  refine zr' (v := .int .i64 (-1)) ?_
  have hob := Option.some.inj hp
  subst hob
  exact ⟨C2.upd, _, rfl, rfl⟩
 intro K3 H3
 refine zz 8 ?_
 have hb4 : (p0.length : Int) ≤ 9223372036854775807 := lenb (p0a_h0).hcap (p0a_h0).hbig
 refine zlp Tryz.f144 [K3] [1, 9, 1, 0] (fun (k4 : Nat) => [(0, .slice p0a1 p0.length p0a2), (1, .func (.func 109) #[] #[.pointer (some ⟨bp1q0, 0, none⟩)]), (7, .int .i64 (p0.length : Int)), (8, .int .i64 (k4 : Int))]) (fun (k4 : Nat) w1 => ∃ Y1 : Hid, St E0 w X w1 Y1 [] ∧ Le (rd w X) (rd w1 Y1) ∧ slices_IndexFunc_int_int_s109_l4 p1q0 J2 (p0.drop k4) k4 = some y) (fun (k4 : Nat) => p0.length - k4) 0 ?_ ?_
 ·
  exact ⟨_, C0, Le.refl _, hp⟩
 rintro k4 w4 K4 H4 ⟨Y4, C4, j4, hp⟩
 refine zz 6 ?_
 refine zt 9 (p := (k4 : Int) < (p0.length : Int)) (fun ht5 => ?_) (fun ht5 => ?_)
 ·
  have hob := get_lt (l := p0) (k := k4) (lt_of_int ht5)
  obtain ⟨x4, hqx4⟩ := hob
  rw [dropC hqx4, slices_IndexFunc_int_int_s109_l4] at hp
  have hzx4 : (0 : Int) ≤ (k4 : Int) := Int.natCast_nonneg _
  refine zz 16 ?_
  have hob := p0a_h0.opn hqx4
  obtain ⟨be6, oe6, rfl, j6, hEe6⟩ := hob
  have hAe6 : At (rd w X) ⟨be6, oe6 + k4 * 1, none⟩ [.int .i64 x4] := hEe6
  refine zi (b := be6) (off := oe6) (len := p0.length) (cap := p0a2) (kd := .i64) (i := (k4 : Int)) 1 (oe6 + k4 * 1) ?_ (h0 := hzx4) (h1 := (ix_b hzx4 j6))
  refine zl ((hAe6.mono j4)).cells ?_
  refine bndk hp fun y8 hy8 hp => ?_
  refine zc C4 (dynamics_span_has_1_c _ X0 (X0_lt _) (x4) p1q0 _ ((p1q0a_at.mono j4).mono Le.x0) y8 hy8) ?_
  rintro v9 w9 C9 j9 hu9 rfl
  refine zz 2 ?_
  refine zb 16 (b := y8) (fun hc10 => ?_) (fun hc10 => ?_)
  ·
   have hp := ipb hc10 hp
   refine zz 13 ?_
   refine zr' (v := .int .i64 (k4 : Int)) ?_
   have hob := Option.some.inj hp
   subst hob
   exact ⟨C9.upd, _, rfl, rfl⟩
  have hp := iqb hc10 hp
  refine zz 6 ?_
  refine zs 18 (v := .int .i64 (IntKind.i64.wrap ((k4 : Int) + 1))) (v' := .int .i64 ((k4 : Int) + 1)) (vint (wi64 (wk0 k4) (wk1 ht5 hb4))) ?_
  refine zz 2 ?_
  refine znext (fun a h => H4 (k4 + 1) _ a h ⟨_, C9, (Le2 j4 j9), hp⟩ ?_)
  exact mu_lt ht5
 rw [List.drop_eq_nil_of_le (nlt_of_int ht5), slices_IndexFunc_int_int_s109_l4] at hp
 refine zz 5 ?_
 exact znext (fun a h => H3 () _ a h ⟨_, C4, j4, hp⟩)
noncomputable def slices_ContainsFunc_int_int_s109_p (p0 : List Int) (p1q0 : SpanD) : Option (Bool) :=
  (slices_IndexFunc_int_int_s109_p p0 p1q0).bind fun y3 => some (decide ((y3) ≥ 0))
theorem slices_ContainsFunc_int_int_s109_c (w : World) (X : Hid) (hX : ∀ k o, X k o → k < w.heap.size) (p0 : List Int) (vp0 : Value) (hp0 : SV Ints (rd w X) vp0 p0) (p1q0 : SpanD) (bp1q0 : Nat) (hp1q0 : SpanDAt (rd w X) ⟨bp1q0, 0, none⟩ p1q0) (y : Bool) (hp : slices_ContainsFunc_int_int_s109_p p0 p1q0 = some y) : Calls Tryz.prog 108 #[vp0, .func (.func 109) #[] #[.pointer (some ⟨bp1q0, 0, none⟩)]] w (Ret E0 w fun _ v => v = .bool y) := by
 obtain ⟨p0a1, p0a2, rfl, p0a_h0⟩ := hp0
 have p1q0a_at : At (rd w X) ⟨bp1q0, 0, none⟩ [.int .i64 p1q0.lo, .int .i64 p1q0.hi] := hp1q0
 unfold slices_ContainsFunc_int_int_s109_p at hp
 refine zen Tryz.func108 ?_
 have C0 : St E0 w X w X [] := St.start hX
 refine zz 9 ?_
 refine bndk hp fun y3 hy3 hp => ?_
 refine zc C0 (slices_IndexFunc_int_int_s109_c _ X0 (X0_lt _) p0 _ ⟨_, _, rfl, (p0a_h0.mono Le.x0)⟩ p1q0 _ (p1q0a_at.mono Le.x0) y3 hy3) ?_
 rintro v4 w4 C4 j4 hu4 rfl
 refine zz 5 ?_
 refine zr' (v := .bool (decide ((y3) ≥ 0))) ?_
 have hob := Option.some.inj hp
 subst hob
 exact ⟨C4.upd, _, rfl, rfl⟩
noncomputable def dynamics_span_has_p (p0 : SpanD) (p1 : List Int) : Option (Bool) :=
  (slices_ContainsFunc_int_int_s109_p p1 p0).bind fun y5 => some (!y5)
theorem dynamics_span_has_c (w : World) (X : Hid) (hX : ∀ k o, X k o → k < w.heap.size) (p0 : SpanD) (vp0 : Value) (hp0 : SpanDV (rd w X) vp0 p0) (p1 : List Int) (vp1 : Value) (hp1 : SV Ints (rd w X) vp1 p1) (y : Bool) (hp : dynamics_span_has_p p0 p1 = some y) : Calls Tryz.prog 71 #[vp0, vp1] w (Ret E0 w fun _ v => v = .bool y) := by
 obtain rfl := hp0
 obtain ⟨p1a1, p1a2, rfl, p1a_h0⟩ := hp1
 unfold dynamics_span_has_p at hp
 refine zen Tryz.func71 ?_
 have C0 : St E0 w X w X [] := St.start hX
 refine zz 2 ?_
 refine zn pn (.cells #[.int .i64 p0.lo, .int .i64 p0.hi] 103 (0, 0)) C0 ?_
 intro b3 w3 Y3 C3 j3 hu3
 refine zz 7 ?_
 refine bndk hp fun y5 hy5 hp => ?_
 refine zc C3 (slices_ContainsFunc_int_int_s109_c _ X0 (X0_lt _) p1 _ ⟨_, _, rfl, ((p1a_h0.mono j3).mono Le.x0)⟩ p0 _ (C3.at0 0 rfl rfl) y5 hy5) ?_ (vs := #[.slice p1a1 p1.length p1a2, .func (.func 109) #[] #[.pointer (some ⟨b3, 0, none⟩)]])
 rintro v6 w6 C6 j6 hu6 rfl
 refine zz 5 ?_
 refine zr' (v := .bool (!y5)) ?_
 have hob := Option.some.inj hp
 subst hob
 exact ⟨C6.upd, _, rfl, rfl⟩
noncomputable def dynamics_within_1_p (p0 : List Int) (p2 : Int) : Option (Bool) :=
  (dynamics_span_has_p (SpanD.mk (IntKind.i64.wrap ((0 : Int) - p2)) p2) p0).bind fun y3 => some y3
theorem dynamics_within_1_c (w : World) (X : Hid) (hX : ∀ k o, X k o → k < w.heap.size) (p0 : List Int) (vp0 : Value) (hp0 : SV Ints (rd w X) vp0 p0) (bp1 : Nat) (hp1 : FnAt (rd w X) ⟨bp1, 0, none⟩ 71) (p2 : Int) (bp2 : Nat) (hp2 : IntAt (rd w X) ⟨bp2, 0, none⟩ p2) (y : Bool) (hp : dynamics_within_1_p p0 p2 = some y) : Calls Tryz.prog 96 #[vp0, .pointer (some ⟨bp1, 0, none⟩), .pointer (some ⟨bp2, 0, none⟩)] w (Ret E0 w fun _ v => v = .bool y) := by
 obtain ⟨p0a1, p0a2, rfl, p0a_h0⟩ := hp0
 have hAp1 : At (rd w X) ⟨bp1, 0, none⟩ [.func (.func 71) #[] #[]] := hp1
 have hAp2 : At (rd w X) ⟨bp2, 0, none⟩ [.int .i64 p2] := hp2
 unfold dynamics_within_1_p at hp
 refine zen Tryz.func96 ?_
 have C0 : St E0 w X w X [] := St.start hX
 refine zz 7 ?_
 refine zl (hAp1).cells ?_
 refine zl (hAp2).cells ?_
 refine zz 1 ?_
 refine zl (hAp2).cells ?_
 refine zz 2 ?_
 refine bndk hp fun y3 hy3 hp => ?_
 refine zc C0 (dynamics_span_has_c _ X0 (X0_lt _) (SpanD.mk (IntKind.i64.wrap ((0 : Int) - p2)) p2) _ rfl p0 _ ⟨_, _, rfl, (p0a_h0.mono Le.x0)⟩ y3 hy3) ?_
 rintro v4 w4 C4 j4 hu4 rfl
 refine zz 4 ?_
 refine zr' (v := .bool y3) ?_
 have hob := Option.some.inj hp
 subst hob
 exact ⟨C4.upd, _, rfl, rfl⟩
noncomputable def dynamics_within_p (p0 : Int) : Option (Int) :=
  some p0
theorem dynamics_within_c (w : World) (X : Hid) (hX : ∀ k o, X k o → k < w.heap.size) (p0 : Int) (y : Int) (hp : dynamics_within_p p0 = some y) : Calls Tryz.prog 52 #[.int .i64 p0] w (Ret E0 w fun w' v => ∃ b0 b1, v = .func (.func 96) #[] #[.pointer (some ⟨b0, 0, none⟩), .pointer (some ⟨b1, 0, none⟩)] ∧ FnAt (rd w' (old w)) ⟨b0, 0, none⟩ 71 ∧ IntAt (rd w' (old w)) ⟨b1, 0, none⟩ y) := by
 unfold dynamics_within_p at hp
 refine zen Tryz.func52 ?_
 have C0 : St E0 w X w X [] := St.start hX
 refine zz 2 ?_
 refine zn pn (.cells #[.int .i64 p0] 3 (0, 0)) C0 ?_
 intro b3 w3 Y3 C3 j3 hu3
 refine zz 5 ?_
 refine zn pn (.cells #[.nilFunc] 123 (0, 0)) C3 ?_
 intro b5 w5 Y5 C5 j5 hu5
 refine zx 0 #[.func (.func 71) #[] #[]] C5 ?_
 intro w6 C6 j6
 refine zz 9 ?_
 refine zr' (v := .func (.func 96) #[] #[.pointer (some ⟨b5, 0, none⟩), .pointer (some ⟨b3, 0, none⟩)]) ?_
 have hob := St.pubAt 0 C6 rfl
 obtain ⟨Y7, hSx7, j7, hat7, hatN7⟩ := hob
 have C7 : St E0 w X w6 Y7 [(b3, .cells #[.int .i64 p0] 3 (0, 0))] := hSx7
 have hob := St.pubAt 0 C7 rfl
 obtain ⟨Y8, hSx8, j8, hat8, hatN8⟩ := hob
 have C8 : St E0 w X w6 Y8 [] := hSx8
 have hob := Option.some.inj hp
 subst hob
 exact ⟨C8.upd, _, rfl, ⟨_, _, rfl, (((hatN7 _ (Nat.le_refl _))).mono (Le.or j8 _)).mono Le.orr, (((hatN8 _ (Nat.le_refl _))).mono (Le.or (Le.refl _) _)).mono Le.orr⟩⟩
noncomputable def dynamics_checkRat_p (p0 : Raw) : Option (Int) :=
  (rat_Check_p p0).bind fun y5 => if ((y5) != 0) = true then (some y5) else (if (p0.ln.length : Int) > 8 then (some 4) else (if (p0.ld.length : Int) > 8 then (some 4) else (some 0)))
theorem dynamics_checkRat_c (w : World) (X : Hid) (hX : ∀ k o, X k o → k < w.heap.size) (p0 : Raw) (vp0 : Value) (hp0 : RawV (rd w X) vp0 p0) (y : Int) (hp : dynamics_checkRat_p p0 = some y) : Calls Tryz.prog 73 #[vp0] w (Ret E0 w fun _ v => v = .int .i64 y) := by
 have hVp0 := hp0
 obtain ⟨p0a1, p0a2, p0a3, p0a4, p0a5, p0a6, rfl, p0a_h0, p0a_h1⟩ := hp0
 have hob := p0a_h0.hlen
 subst hob
 have hob := p0a_h1.hlen
 subst hob
 unfold dynamics_checkRat_p at hp
 refine zen Tryz.func73 ?_
 have C0 : St E0 w X w X [] := St.start hX
 refine zz 2 ?_
 refine zn pn (.cells #[.bool p0.neg, .slice p0a1 p0.ln.length p0a3, .slice p0a4 p0.ld.length p0a6] 28 (0, 0)) C0 ?_
 intro b3 w3 Y3 C3 j3 hu3
 refine zz 6 ?_
 refine zo 0 C3 ?_
 refine bndk hp fun y5 hy5 hp => ?_
 refine zc C3 (rat_Check_c _ X0 (X0_lt _) p0 _ ((hVp0.mono j3).mono Le.x0) y5 hy5) ?_
 rintro v6 w6 C6 j6 hu6 rfl
 refine zz 9 ?_
 refine zb 7 (b := ((y5) != 0)) (fun hc7 => ?_) (fun hc7 => ?_)
 ·
  have hp := ipb hc7 hp
  refine zz 9 ?_
  refine zr' (v := .int .i64 y5) ?_
  have hob := Option.some.inj hp
  subst hob
  exact ⟨C6.upd, _, rfl, rfl⟩
 have hp := iqb hc7 hp
 refine zz 7 ?_
 refine zo 0 C6 ?_
 refine zz 3 ?_
 refine zt 13 (p := (p0.ln.length : Int) > 8) (fun ht8 => ?_) (fun ht8 => ?_)
 ·
  have hp := ip ht8 hp
  refine zz 15 ?_
  refine zr' (v := .int .i64 4) ?_
  have hob := Option.some.inj hp
  subst hob
  exact ⟨C6.upd, _, rfl, rfl⟩
 have hp := iq ht8 hp
 refine zz 1 ?_
 refine zo 0 C6 ?_
 refine zz 5 ?_
 refine zt 18 (p := (p0.ld.length : Int) > 8) (fun ht9 => ?_) (fun ht9 => ?_)
 ·
  have hp := ip ht9 hp
  refine zz 8 ?_
  refine zr' (v := .int .i64 4) ?_
  have hob := Option.some.inj hp
  subst hob
  exact ⟨C6.upd, _, rfl, rfl⟩
 have hp := iq ht9 hp
 refine zz 9 ?_
 refine zr' (v := .int .i64 0) ?_
 have hob := Option.some.inj hp
 subst hob
 exact ⟨C6.upd, _, rfl, rfl⟩
noncomputable def dynamics_checkNoise_l17 (p0 : List NoiseD) (J7 : Raw → Option (Int)) : List NoiseD → Nat → Raw → Option (Int)
  | [], k17, v17_1 => J7 v17_1
  | x17 :: r17, k17, v17_1 => lt ((dynamics_checkRat_p x17.p).bind fun y25 => if ((y25) != 0) = true then (some y25) else (if x17.p.neg = true then (some 1) else (if ((x17.p.ln.length : Int) == 0) = true then (some 1) else ((rat_Add_p v17_1 x17.p).bind fun y31 => dynamics_checkNoise_l17 p0 J7 r17 (k17 + 1) y31.1)))) fun J23 => (dynamics_within_p (100 : Int)).bind fun y36 => (dynamics_within_1_p ([x17.delta]) y36).bind fun y40 => if (!y40) = true then (some 1) else (if (k17 : Int) > 0 then ((ix p0 (IntKind.i64.wrap ((k17 : Int) - 1))).bind fun x45 => if (x17.delta) ≤ x45.delta then (some 16) else (J23)) else (J23))
noncomputable def dynamics_checkNoise_p (p0 : List NoiseD) : Option (Int) :=
  if ((p0.length : Int) == 0) = true then (some 3) else (if (p0.length : Int) > 5 then (some 4) else (lt (fun (v7_0 : Raw) => (rat_From_p (1 : Int)).bind fun y9 => (rat_Cmp_p v7_0 y9).bind fun y12 => if ((y12.1) != 0) = true then (some 2) else (some 0)) fun J7 => dynamics_checkNoise_l17 p0 J7 (p0.drop 0) 0 Raw.zero))
theorem dynamics_checkNoise_c (w : World) (X : Hid) (hX : ∀ k o, X k o → k < w.heap.size) (p0 : List NoiseD) (vp0 : Value) (hp0 : SV NoiseDS (rd w X) vp0 p0) (y : Int) (hp : dynamics_checkNoise_p p0 = some y) : Calls Tryz.prog 72 #[vp0] w (Ret E0 w fun _ v => v = .int .i64 y) := by
 obtain ⟨p0a1, p0a2, rfl, p0a_h0⟩ := hp0
 unfold dynamics_checkNoise_p at hp
 refine zen Tryz.func72 ?_
 have C0 : St E0 w X w X [] := St.start hX
 refine zz 15 ?_
 refine zb 9 (b := ((p0.length : Int) == 0)) (fun hc2 => ?_) (fun hc2 => ?_)
 ·
  have hp := ipb hc2 hp
  refine zz 9 ?_
  refine zr' (v := .int .i64 3) ?_
  have hob := Option.some.inj hp
  subst hob
  exact ⟨C0.upd, _, rfl, rfl⟩
 have hp := iqb hc2 hp
 refine zz 9 ?_
 refine zt 13 (p := (p0.length : Int) > 5) (fun ht3 => ?_) (fun ht3 => ?_)
 ·
  have hp := ip ht3 hp
  refine zz 9 ?_
  refine zr' (v := .int .i64 4) ?_
  have hob := Option.some.inj hp
  subst hob
  exact ⟨C0.upd, _, rfl, rfl⟩
 have hp := iq ht3 hp
 refine zz 7 ?_
 refine zn pn (.cells #[.bool false, .slice none 0 0, .slice none 0 0] 28 (0, 0)) C0 ?_
 intro b5 w5 Y5 C5 j5 hu5
 refine zx 0 #[.bool false, .slice none 0 0, .slice none 0 0] C5 ?_
 intro w6 C6 j6
 refine zz 2 ?_
 have hob := ltd1 hp
 obtain ⟨J7, hJ7, hp⟩ := hob
 refine zjoin (fun ((v7_0, a7_0_1, a7_0_2, a7_0_3, a7_0_4) : Raw × (Option Addr) × Nat × (Option Addr) × Nat) => [(3, .pointer (some ⟨b5, 0, none⟩))]) (fun ((v7_0, a7_0_1, a7_0_2, a7_0_3, a7_0_4) : Raw × (Option Addr) × Nat × (Option Addr) × Nat) w1 => ∃ Y1 : Hid, St E0 w X w1 Y1 [(b5, .cells #[.bool v7_0.neg, .slice a7_0_1 v7_0.ln.length a7_0_2, .slice a7_0_3 v7_0.ld.length a7_0_4] 28 (0, 0))] ∧ Le (rd w6 Y5) (rd w1 Y1) ∧ Limbs (rd w1 (orN Y1 w.heap.size)) a7_0_1 v7_0.ln.length a7_0_2 v7_0.ln ∧ Limbs (rd w1 (orN Y1 w.heap.size)) a7_0_3 v7_0.ld.length a7_0_4 v7_0.ld ∧ J7 v7_0 = some y) ?_ ?_
 ·
  rintro ⟨v7_0, a7_0_1, a7_0_2, a7_0_3, a7_0_4⟩ w7 ⟨Y7, C7, j7, hfv7_0_0, hfv7_0_1, hp⟩
  have hp := (hJ7 _).symm.trans hp
  refine zz 2 ?_
  refine zdr C7 ?_
  refine gw 0 0 ?_
  refine bndk hp fun y9 hy9 hp => ?_
  refine gC 1 (fun w8 Y8 _ C8 j8 => (rat_From_c _ X0 (X0_lt _) (1 : Int) y9 hy9)) ?_
  rintro v10 w8 Y10 w10 C8 j10 ⟨u10_0_1, u10_0_2, u10_0_3, u10_0_4, u10_0_5, u10_0_6, rfl, u10_0__h0, u10_0__h1⟩
  have hob := u10_0__h0.hlen
  subst hob
  have hob := u10_0__h1.hlen
  subst hob
  refine bndk hp fun y12 hy12 hp => ?_
  refine gC 2 (fun w11 Y11 _ C11 j11 => (rat_Cmp_c _ X0 (X0_lt _) v7_0 _ ⟨_, _, _, _, _, _, rfl, (((hfv7_0_0.mono Le.orl).mono (Le2 j10 j11)).mono Le.x0), (((hfv7_0_1.mono Le.orl).mono (Le2 j10 j11)).mono Le.x0)⟩ y9 _ ⟨_, _, _, _, _, _, rfl, (((u10_0__h0.mono (Le.new C8.lt)).mono j11).mono Le.x0), (((u10_0__h1.mono (Le.new C8.lt)).mono j11).mono Le.x0)⟩ y12 hy12)) ?_
  rintro v13 w11 Y13 w13 C11 j13 rfl
  refine gz [3, 4, 5, 6, 7] ?_
  refine gend (fun w14 Y14 C14 j14 => ?_)
  refine zz 7 ?_
  refine zb 77 (b := ((y12.1) != 0)) (fun hc15 => ?_) (fun hc15 => ?_)
  ·
   have hp := ipb hc15 hp
   refine zz 8 ?_
   refine zr' (v := .int .i64 2) ?_
   have hob := Option.some.inj hp
   subst hob
   exact ⟨C14.upd, _, rfl, rfl⟩
  have hp := iqb hc15 hp
  refine zz 9 ?_
  refine zr' (v := .int .i64 0) ?_
  have hob := Option.some.inj hp
  subst hob
  exact ⟨C14.upd, _, rfl, rfl⟩
 intro K16 H16
 refine zz 8 ?_
 have hb17 : (p0.length : Int) ≤ 9223372036854775807 := lenb (p0a_h0).hcap (p0a_h0).hbig
 refine zlp Tryz.f72 [K16] [1, 1, 1, 9, 1, 0] (fun ((k17, v17_1, a17_1_1, a17_1_2, a17_1_3, a17_1_4) : Nat × Raw × (Option Addr) × Nat × (Option Addr) × Nat) => [(0, .slice p0a1 p0.length p0a2), (3, .pointer (some ⟨b5, 0, none⟩)), (18, .slice p0a1 p0.length p0a2), (19, .int .i64 (p0.length : Int)), (20, .int .i64 (k17 : Int))]) (fun ((k17, v17_1, a17_1_1, a17_1_2, a17_1_3, a17_1_4) : Nat × Raw × (Option Addr) × Nat × (Option Addr) × Nat) w1 => ∃ Y1 : Hid, St E0 w X w1 Y1 [(b5, .cells #[.bool v17_1.neg, .slice a17_1_1 v17_1.ln.length a17_1_2, .slice a17_1_3 v17_1.ld.length a17_1_4] 28 (0, 0))] ∧ Le (rd w6 Y5) (rd w1 Y1) ∧ Limbs (rd w1 (orN Y1 w.heap.size)) a17_1_1 v17_1.ln.length a17_1_2 v17_1.ln ∧ Limbs (rd w1 (orN Y1 w.heap.size)) a17_1_3 v17_1.ld.length a17_1_4 v17_1.ld ∧ dynamics_checkNoise_l17 p0 J7 (p0.drop k17) k17 v17_1 = some y) (fun ((k17, v17_1, a17_1_1, a17_1_2, a17_1_3, a17_1_4) : Nat × Raw × (Option Addr) × Nat × (Option Addr) × Nat) => p0.length - k17) (0, Raw.zero, none, 0, none, 0) ?_ ?_
 ·
  exact ⟨_, C6, Le.refl _, Limbs.nil0, Limbs.nil0, hp⟩
 rintro ⟨k17, v17_1, a17_1_1, a17_1_2, a17_1_3, a17_1_4⟩ w17 K17 H17 ⟨Y17, C17, j17, hfv17_1_0, hfv17_1_1, hp⟩
 refine zz 6 ?_
 refine zt 21 (p := (k17 : Int) < (p0.length : Int)) (fun ht18 => ?_) (fun ht18 => ?_)
 ·
  have hob := get_lt (l := p0) (k := k17) (lt_of_int ht18)
  obtain ⟨x17, hqx17⟩ := hob
  rw [dropC hqx17, dynamics_checkNoise_l17] at hp
  have hzx17 : (0 : Int) ≤ (k17 : Int) := Int.natCast_nonneg _
  refine zz 8 ?_
  have hob := p0a_h0.opn hqx17
  obtain ⟨be19, oe19, rfl, j19, hEe19⟩ := hob
  obtain ⟨e191, e192, e193, e194, e19_at, e19_h0, e19_h1⟩ := hEe19
  refine zi (b := be19) (off := oe19) (len := p0.length) (cap := p0a2) (kd := .i64) (i := (k17 : Int)) 4 (oe19 + k17 * 4) ?_ (h0 := hzx17) (h1 := (ix_b hzx17 j19))
  refine zl ((e19_at.mono (Le3 j5 j6 j17))).cells ?_
  refine zn pn (.cells #[.int .i64 0, .bool false, .slice none 0 0, .slice none 0 0] 58 (0, 0)) C17 ?_
  intro b21 w21 Y21 C21 j21 hu21
  refine zz 1 ?_
  refine zx 0 #[.int .i64 x17.delta, .bool x17.p.neg, .slice e191 x17.p.ln.length e192, .slice e193 x17.p.ld.length e194] C21 ?_
  intro w22 C22 j22
  refine zz 2 ?_
  have hob := ltd0 hp
  obtain ⟨J23, hJ23, hp⟩ := hob
  refine zjoin (fun (_ : Unit) => [(0, .slice (some ⟨be19, oe19, none⟩) p0.length p0a2), (3, .pointer (some ⟨b5, 0, none⟩)), (5, .pointer (some ⟨b21, 0, none⟩)), (18, .slice (some ⟨be19, oe19, none⟩) p0.length p0a2), (19, .int .i64 (p0.length : Int)), (20, .int .i64 (k17 : Int))]) (fun (_ : Unit) w1 => ∃ Y1 : Hid, St E0 w X w1 Y1 [(b21, .cells #[.int .i64 x17.delta, .bool x17.p.neg, .slice e191 x17.p.ln.length e192, .slice e193 x17.p.ld.length e194] 58 (0, 0)), (b5, .cells #[.bool v17_1.neg, .slice a17_1_1 v17_1.ln.length a17_1_2, .slice a17_1_3 v17_1.ld.length a17_1_4] 28 (0, 0))] ∧ Le (rd w22 Y21) (rd w1 Y1) ∧ J23 = some y) ?_ ?_
  ·
   rintro _ w23 ⟨Y23, C23, j23, hp⟩
   have hp := hJ23.symm.trans hp
   refine zz 4 ?_
   refine zo 0 C23 ?_
   have hc1_ := (Le5 j5 j6 j17 j21 j22).trans j23
   refine bndk hp fun y25 hy25 hp => ?_
   refine zc C23 (dynamics_checkRat_c _ X0 (X0_lt _) x17.p _ ⟨_, _, _, _, _, _, rfl, ((e19_h0.mono hc1_).mono Le.x0), ((e19_h1.mono hc1_).mono Le.x0)⟩ y25 hy25) ?_
   rintro v26 w26 C26 j26 hu26 rfl
   refine zz 9 ?_
   refine zb 50 (b := ((y25) != 0)) (fun hc27 => ?_) (fun hc27 => ?_)
   ·
    have hp := ipb hc27 hp
    refine zz 14 ?_
    refine zr' (v := .int .i64 y25) ?_
    have hob := Option.some.inj hp
    subst hob
    exact ⟨C26.upd, _, rfl, rfl⟩
   have hp := iqb hc27 hp
   refine zz 8 ?_
   refine zo 0 C26 ?_
   refine zz 1 ?_
   refine zb 55 (b := x17.p.neg) (fun hc28 => ?_) (fun hc28 => ?_)
   ·
    have hp := ipb hc28 hp
    refine zz 21 ?_
    refine zr' (v := .int .i64 1) ?_
    have hob := Option.some.inj hp
    subst hob
    exact ⟨C26.upd, _, rfl, rfl⟩
   have hp := iqb hc28 hp
   refine zz 2 ?_
   refine zo 0 C26 ?_
   refine zz 5 ?_
   refine zb 61 (b := ((x17.p.ln.length : Int) == 0)) (fun hc29 => ?_) (fun hc29 => ?_)
   ·
    have hp := ipb hc29 hp
    refine zz 13 ?_
    refine zr' (v := .int .i64 1) ?_
    have hob := Option.some.inj hp
    subst hob
    exact ⟨C26.upd, _, rfl, rfl⟩
   have hp := iqb hc29 hp
   refine zz 4 ?_
   refine zo 1 C26 ?_
   refine zz 1 ?_
   refine zo 0 C26 ?_
   have hc2_ := (Le3 j21 j22 j23).trans j26
   have hc3_ := hc1_.trans j26
   refine bndk hp fun y31 hy31 hp => ?_
   refine zc C26 (rat_Add_c _ X0 (X0_lt _) v17_1 _ ⟨_, _, _, _, _, _, rfl, (((hfv17_1_0.mono Le.orl).mono hc2_).mono Le.x0), (((hfv17_1_1.mono Le.orl).mono hc2_).mono Le.x0)⟩ x17.p _ ⟨_, _, _, _, _, _, rfl, ((e19_h0.mono hc3_).mono Le.x0), ((e19_h1.mono hc3_).mono Le.x0)⟩ y31 hy31) ?_
   rintro v32 w32 C32 j32 hu32 ⟨uu32_0, rfl, ⟨u32_0_1, u32_0_2, u32_0_3, u32_0_4, u32_0_5, u32_0_6, rfl, u32_0__h0, u32_0__h1⟩⟩
   have hob := u32_0__h0.hlen
   subst hob
   have hob := u32_0__h1.hlen
   subst hob
   refine zz 3 ?_
   refine zx 1 #[.bool y31.1.neg, .slice u32_0_1 y31.1.ln.length u32_0_3, .slice u32_0_4 y31.1.ld.length u32_0_6] C32 ?_
   intro w33 C33 j33
   refine zz 5 ?_
   refine zs 69 (v := .int .i64 (IntKind.i64.wrap ((k17 : Int) + 1))) (v' := .int .i64 ((k17 : Int) + 1)) (vint (wi64 (wk0 k17) (wk1 ht18 hb17))) ?_
   refine zz 2 ?_
   have hc4_ := (Le6 j17 j21 j22 j23 j26 j32).trans j33
   refine znext (fun a h => H17 (k17 + 1, y31.1, u32_0_1, u32_0_3, u32_0_4, u32_0_6) _ a h ⟨_, C33.tail, hc4_, (u32_0__h0.mono (Le.own C26.lt C26.upd.size j33)), (u32_0__h1.mono (Le.own C26.lt C26.upd.size j33)), hp⟩ ?_)
   exact mu_lt ht18
  intro K34 H34
  refine zz 2 ?_
  refine zdr C22 ?_
  refine gz [1] ?_
  refine gw 2 0 ?_
  refine gp (al 3 29 (fun b => .slice (some ⟨b, 0, none⟩) 1 1) (.cells #[.int .i64 x17.delta] 3 (0, 0))) ?_
  refine bndk hp fun y36 hy36 hp => ?_
  refine gC 0 (fun w35 Y35 _ C35 j35 => (dynamics_within_c _ X0 (X0_lt _) (100 : Int) y36 hy36)) ?_ (hPd := PdOk.nil.k)
  rintro v37 w35 Y37 w37 C35 j37 ⟨u37_0_b0, u37_0_b1, rfl, u37_0_h0, u37_0_h1⟩
  have hAu37_0_b0 : At (rd w37 Y37) ⟨u37_0_b0, 0, none⟩ [.func (.func 71) #[] #[]] := (At.mono (Le.new C35.lt) u37_0_h0)
  have hAu37_0_b1 : At (rd w37 Y37) ⟨u37_0_b1, 0, none⟩ [.int .i64 y36] := (At.mono (Le.new C35.lt) u37_0_h1)
  refine gs1 (fun b38 => ?_) PdOk.nil.k
  refine bndk hp fun y40 hy40 hp => ?_
  refine gC 4 (vs := #[.slice (some ⟨b38, 0, none⟩) 1 1, .pointer (some ⟨u37_0_b0, 0, none⟩), .pointer (some ⟨u37_0_b1, 0, none⟩)]) (fun w39 Y39 _ C39 j39 => (dynamics_within_1_c _ X0 (X0_lt _) ([x17.delta]) _ ⟨_, _, rfl, (SlR.lit (El := IntAt) (size := 1) (n := 1) [⟨(x17.delta : Int), [.int .i64 x17.delta]⟩] (C39.at0 0 rfl rfl) (List.forall_mem_cons.2 ⟨⟨rfl, fun r2 h2 b o h9 => h9⟩, (List.forall_mem_nil _)⟩) rfl (by decide))⟩ _ ((hAu37_0_b0.mono j39).mono Le.x0) y36 _ ((hAu37_0_b1.mono j39).mono Le.x0) y40 hy40)) ?_
  rintro v41 w39 Y41 w41 C39 j41 rfl
  refine gz [5, 6] ?_
  refine gend (fun w42 Y42 C42 j42 => ?_)
  refine zz 1 ?_
  refine zb 25 (b := !y40) (fun hc43 => ?_) (fun hc43 => ?_)
  ·
   have hp := ipb hc43 hp
   refine zz 14 ?_
   refine zr' (v := .int .i64 1) ?_
   have hob := Option.some.inj hp
   subst hob
   exact ⟨C42.upd, _, rfl, rfl⟩
  have hp := iqb hc43 hp
  refine zz 2 ?_
  refine zdr C42 ?_
  refine gz [0, 1, 2] ?_
  refine gt 35 (p := (k17 : Int) > 0) (fun ht44 => ?_) (fun ht44 => ?_)
  ·
   have hp := ip ht44 hp
   refine gz [3] ?_
   refine gw 4 1 ?_
   refine bndk hp fun x45 hx45 hp => ?_
   have hob := ix_some hx45
   obtain ⟨hzx45, hqx45⟩ := hob
   have hob := p0a_h0.opn2 hqx45
   obtain ⟨j46, hEe46⟩ := hob
   obtain ⟨e461, e462, e463, e464, e46_at, e46_h0, e46_h1⟩ := hEe46
   refine gz [5, 6, 7] ?_
   refine gi 8 (b := be19) (off := oe19) (len := p0.length) (cap := p0a2) (kd := .i64) (i := IntKind.i64.wrap ((k17 : Int) - 1)) 4 (oe19 + (IntKind.i64.wrap ((k17 : Int) - 1)).toNat * 4) ?_ (h0 := hzx45) (h1 := (ix_b hzx45 j46))
   have hc5_ := (Le7 j5 j6 j17 j21 j22 j37 j41).trans j42
   refine gz [9] ?_
   refine gl 10 ((e46_at.mono hc5_).sub 0 1) ?_
   refine gz [11, 12, 13] ?_
   refine gend (fun w47 Y47 C47 j47 => ?_)
   refine zz 1 ?_
   refine zt 32 (p := (x17.delta) ≤ x45.delta) (fun ht48 => ?_) (fun ht48 => ?_)
   ·
    have hp := ip ht48 hp
    refine zz 14 ?_
    refine zr' (v := .int .i64 16) ?_
    have hob := Option.some.inj hp
    subst hob
    exact ⟨C47.upd, _, rfl, rfl⟩
   have hp := iq ht48 hp
   refine zz 3 ?_
   have hc6_ := (Le3 j37 j41 j42).trans j47
   exact znext (fun a h => H34 () _ a h ⟨_, C47.tail, hc6_, hp⟩)
  have hp := iq ht44 hp
  refine gz [3, 4, 5, 6, 7, 8, 9, 10, 11, 12, 13] ?_
  refine gend (fun w49 Y49 C49 j49 => ?_)
  refine zz 4 ?_
  have hc7_ := (Le3 j37 j41 j42).trans j49
  exact znext (fun a h => H34 () _ a h ⟨_, C49.tail, hc7_, hp⟩)
 rw [List.drop_eq_nil_of_le (nlt_of_int ht18), dynamics_checkNoise_l17] at hp
 refine zz 5 ?_
 exact znext (fun a h => H16 (v17_1, a17_1_1, a17_1_2, a17_1_3, a17_1_4) _ a h ⟨_, C17, j17, (hfv17_1_0.mono (Le.or (Le.refl _) _)), (hfv17_1_1.mono (Le.or (Le.refl _) _)), hp⟩)
noncomputable def dynamics_Check_l62 (p0 : ModelD) (J54 : Option (Int)) : Nat → Nat → Option (Int)
  | 0, k62 => J54
  | r62 + 1, k62 => (ix ([p0.alert, p0.strengthen, p0.reversal]) (k62 : Int)).bind fun x65 => (dynamics_checkRat_p x65).bind fun y71 => if ((y71) != 0) = true then (some y71) else (if x65.neg = true then (some 1) else (dynamics_Check_l62 p0 J54 r62 (k62 + 1)))
noncomputable def dynamics_Check_l78 (p0 : ModelD) (J53 : Option (Int)) : Nat → Nat → Option (Int)
  | 0, k78 => J53
  | r78 + 1, k78 => (ix ([p0.ownNoise, p0.otherNoise]) (k78 : Int)).bind fun x81 => (dynamics_checkNoise_p x81).bind fun y84 => if ((y84) != 0) = true then (some y84) else (dynamics_Check_l78 p0 J53 r78 (k78 + 1))
noncomputable def dynamics_Check_l92 (y5 : Int) (J34 : Option (Int)) : List BoundsD → Option (Int)
  | [] => J34
  | x92 :: r92 => lt (fun (v98_0 : Bool) => if v98_0 = true then (some 6) else (if (x92.lo) > x92.hi then (some 1) else ((dynamics_within_1_p ([x92.lo, x92.hi]) y5).bind fun y104 => if (!y104) = true then (some 1) else (dynamics_Check_l92 y5 J34 r92 )))) fun J98 => if ((x92.sense) != 1) = true then (J98 ((x92.sense) != 2)) else (J98 false)
noncomputable def dynamics_Check_p (p0 : ModelD) : Option (Int) :=
  (dynamics_within_p (100 : Int)).bind fun y5 => (dynamics_grid_p p0).bind fun y8 => (interp_Check_p y8).bind fun y11 => if ((y11) != 0) = true then (some y11) else ((dynamics_within_p (50000 : Int)).bind fun y15 => (dynamics_within_1_p p0.height y15).bind fun y18 => if (!y18) = true then (some 1) else ((dynamics_within_1_p p0.own y5).bind fun y23 => if (!y23) = true then (some 1) else ((dynamics_within_1_p p0.other y5).bind fun y28 => if (!y28) = true then (some 1) else (if ((p0.advisories.length : Int) == 0) = true then (some 3) else (if (p0.advisories.length : Int) > 6 then (some 4) else (lt ((dynamics_span_has_p (SpanD.mk 0 100) ([p0.pull])).bind fun y38 => if (!y38) = true then (some 1) else ((dynamics_span_has_p (SpanD.mk 0 50000) ([p0.near])).bind fun y44 => if (!y44) = true then (some 1) else ((dynamics_span_has_p (SpanD.mk 0 24) ([p0.steps])).bind fun y50 => if (!y50) = true then (some 1) else (lt (lt ((dynamics_size_p p0).bind fun y56 => if (y56) > 200 then (some 10) else (some 0)) fun J54 => dynamics_Check_l62 p0 J54 ((3 : Int).toNat - 0) 0) fun J53 => dynamics_Check_l78 p0 J53 ((2 : Int).toNat - 0) 0)))) fun J34 => grd (0 ≤ (1 : Int) ∧ (1 : Int) ≤ (p0.advisories.length : Int) ∧ (p0.advisories.length : Int) ≤ (p0.advisories.length : Int)) <| dynamics_Check_l92 y5 J34 ((p0.advisories.drop 1).drop 0) ))))))
theorem dynamics_Check_c (w : World) (X : Hid) (hX : ∀ k o, X k o → k < w.heap.size) (p0 : ModelD) (vp0 : Value) (hp0 : ModelDV (rd w X) vp0 p0) (y : Int) (hp : dynamics_Check_p p0 = some y) : Calls Tryz.prog 26 #[vp0] w (Ret E0 w fun _ v => v = .int .i64 y) := by
 have hVp0 := hp0
 refine ModelDV.op hp0 fun p0a1 p0a2 p0a3 p0a4 p0a5 p0a6 p0a7 p0a8 p0a9 p0a10 p0a11 p0a12 p0a13 p0a14 p0a15 p0a16 p0a17 p0a18 p0a19 p0a20 p0a21 p0a22 p0a23 p0a24 hv9 p0a_h0 p0a_h1 p0a_h2 p0a_h3 p0a_h4 p0a_h5 p0a_h6 p0a_h7 p0a_h8 p0a_h9 p0a_h10 p0a_h11 => ?_
 subst hv9
 unfold dynamics_Check_p at hp
 refine zen Tryz.func26 ?_
 have C0 : St E0 w X w X [] := St.start hX
 refine zz 2 ?_
 refine zn pn (.cells #[.slice p0a1 p0.height.length p0a2, .slice p0a3 p0.own.length p0a4, .slice p0a5 p0.other.length p0a6, .slice p0a7 p0.advisories.length p0a8, .int .i64 p0.pull, .int .i64 p0.near, .int .i64 p0.steps, .slice p0a9 p0.ownNoise.length p0a10, .slice p0a11 p0.otherNoise.length p0a12, .bool p0.alert.neg, .slice p0a13 p0.alert.ln.length p0a14, .slice p0a15 p0.alert.ld.length p0a16, .bool p0.strengthen.neg, .slice p0a17 p0.strengthen.ln.length p0a18, .slice p0a19 p0.strengthen.ld.length p0a20, .bool p0.reversal.neg, .slice p0a21 p0.reversal.ln.length p0a22, .slice p0a23 p0.reversal.ld.length p0a24] 30 (0, 0)) C0 ?_
 intro b3 w3 Y3 C3 j3 hu3
 refine zz 5 ?_
 refine bndk hp fun y5 hy5 hp => ?_
 refine zc C3 (dynamics_within_c _ X0 (X0_lt _) (100 : Int) y5 hy5) ?_
 rintro v6 w6 C6 j6 hu6 ⟨u6_0_b0, u6_0_b1, rfl, u6_0_h0, u6_0_h1⟩
 have hAu6_0_b0 : At (rd w6 Y3) ⟨u6_0_b0, 0, none⟩ [.func (.func 71) #[] #[]] := (At.mono (Le.new C3.lt) u6_0_h0)
 have hAu6_0_b1 : At (rd w6 Y3) ⟨u6_0_b1, 0, none⟩ [.int .i64 y5] := (At.mono (Le.new C3.lt) u6_0_h1)
 refine zz 6 ?_
 refine zo 0 C6 ?_
 refine bndk hp fun y8 hy8 hp => ?_
 refine zc C6 (dynamics_grid_c _ _ C6.lt p0 _ (hVp0.mono (Le2 j3 j6)) y8 hy8) ?_
 rintro v9 w9 C9 j9 hu9 ⟨u9_0_1, u9_0_2, rfl, u9_0__h0⟩
 refine bndk hp fun y11 hy11 hp => ?_
 refine zc C9 (interp_Check_c _ X0 (X0_lt _) y8 _ ⟨_, _, rfl, (u9_0__h0.mono Le.x0)⟩ y11 hy11) ?_
 rintro v12 w12 C12 j12 hu12 rfl
 refine zz 11 ?_
 refine zb 17 (b := ((y11) != 0)) (fun hc13 => ?_) (fun hc13 => ?_)
 ·
  have hp := ipb hc13 hp
  refine zz 10 ?_
  refine zr' (v := .int .i64 y11) ?_
  have hob := Option.some.inj hp
  subst hob
  exact ⟨C12.upd, _, rfl, rfl⟩
 have hp := iqb hc13 hp
 refine zz 2 ?_
 refine zdr C12 ?_
 refine gz [1] ?_
 refine gw 2 0 ?_
 refine bndk hp fun y15 hy15 hp => ?_
 refine gC 0 (fun w14 Y14 _ C14 j14 => (dynamics_within_c _ X0 (X0_lt _) (50000 : Int) y15 hy15)) ?_
 rintro v16 w14 Y16 w16 C14 j16 ⟨u16_0_b0, u16_0_b1, rfl, u16_0_h0, u16_0_h1⟩
 have hAu16_0_b0 : At (rd w16 Y16) ⟨u16_0_b0, 0, none⟩ [.func (.func 71) #[] #[]] := (At.mono (Le.new C14.lt) u16_0_h0)
 have hAu16_0_b1 : At (rd w16 Y16) ⟨u16_0_b1, 0, none⟩ [.int .i64 y15] := (At.mono (Le.new C14.lt) u16_0_h1)
 have hc1_ := (Le4 j3 j6 j9 j12).trans j16
 refine bndk hp fun y18 hy18 hp => ?_
 refine gC 3 (fun w17 Y17 _ C17 j17 => (dynamics_within_1_c _ X0 (X0_lt _) p0.height _ ⟨_, _, rfl, ((p0a_h0.mono (hc1_.trans j17)).mono Le.x0)⟩ _ ((hAu16_0_b0.mono j17).mono Le.x0) y15 _ ((hAu16_0_b1.mono j17).mono Le.x0) y18 hy18)) ?_
 rintro v19 w17 Y19 w19 C17 j19 rfl
 refine gz [4, 5] ?_
 refine gb 27 (b := !y18) (fun hc20 => ?_) (fun hc20 => ?_)
 ·
  have hp := ipb hc20 hp
  refine gz [6, 7, 8, 9, 10, 11, 12, 13, 14, 15, 16, 17, 18, 19] ?_
  refine gend (fun w21 Y21 C21 j21 => ?_)
  refine zz 10 ?_
  refine zr' (v := .int .i64 1) ?_
  have hob := Option.some.inj hp
  subst hob
  exact ⟨C21.upd, _, rfl, rfl⟩
 have hp := iqb hc20 hp
 refine gz [6, 7] ?_
 refine gw 8 0 ?_
 have hc2_ := hc1_.trans j19
 have hc3_ := (Le3 j9 j12 j16).trans j19
 refine bndk hp fun y23 hy23 hp => ?_
 refine gC 9 (fun w22 Y22 _ C22 j22 => (dynamics_within_1_c _ X0 (X0_lt _) p0.own _ ⟨_, _, rfl, ((p0a_h1.mono (hc2_.trans j22)).mono Le.x0)⟩ _ ((hAu6_0_b0.mono (hc3_.trans j22)).mono Le.x0) y5 _ ((hAu6_0_b1.mono (hc3_.trans j22)).mono Le.x0) y23 hy23)) ?_
 rintro v24 w22 Y24 w24 C22 j24 rfl
 refine gz [10, 11, 12] ?_
 refine gb 34 (b := !y23) (fun hc25 => ?_) (fun hc25 => ?_)
 ·
  have hp := ipb hc25 hp
  refine gz [13, 14, 15, 16, 17, 18, 19] ?_
  refine gend (fun w26 Y26 C26 j26 => ?_)
  refine zz 10 ?_
  refine zr' (v := .int .i64 1) ?_
  have hob := Option.some.inj hp
  subst hob
  exact ⟨C26.upd, _, rfl, rfl⟩
 have hp := iqb hc25 hp
 refine gz [13, 14] ?_
 refine gw 15 0 ?_
 have hc4_ := hc2_.trans j24
 have hc5_ := hc3_.trans j24
 refine bndk hp fun y28 hy28 hp => ?_
 refine gC 16 (fun w27 Y27 _ C27 j27 => (dynamics_within_1_c _ X0 (X0_lt _) p0.other _ ⟨_, _, rfl, ((p0a_h2.mono (hc4_.trans j27)).mono Le.x0)⟩ _ ((hAu6_0_b0.mono (hc5_.trans j27)).mono Le.x0) y5 _ ((hAu6_0_b1.mono (hc5_.trans j27)).mono Le.x0) y28 hy28)) ?_
 rintro v29 w27 Y29 w29 C27 j29 rfl
 refine gz [17, 18, 19] ?_
 refine gend (fun w30 Y30 C30 j30 => ?_)
 refine zz 1 ?_
 refine zb 21 (b := !y28) (fun hc31 => ?_) (fun hc31 => ?_)
 ·
  have hp := ipb hc31 hp
  refine zz 9 ?_
  refine zr' (v := .int .i64 1) ?_
  have hob := Option.some.inj hp
  subst hob
  exact ⟨C30.upd, _, rfl, rfl⟩
 have hp := iqb hc31 hp
 refine zz 4 ?_
 refine zo 0 C30 ?_
 refine zz 5 ?_
 refine zb 41 (b := ((p0.advisories.length : Int) == 0)) (fun hc32 => ?_) (fun hc32 => ?_)
 ·
  have hp := ipb hc32 hp
  refine zz 9 ?_
  refine zr' (v := .int .i64 3) ?_
  have hob := Option.some.inj hp
  subst hob
  exact ⟨C30.upd, _, rfl, rfl⟩
 have hp := iqb hc32 hp
 refine zz 4 ?_
 refine zo 0 C30 ?_
 refine zz 5 ?_
 refine zt 46 (p := (p0.advisories.length : Int) > 6) (fun ht33 => ?_) (fun ht33 => ?_)
 ·
  have hp := ip ht33 hp
  refine zz 9 ?_
  refine zr' (v := .int .i64 4) ?_
  have hob := Option.some.inj hp
  subst hob
  exact ⟨C30.upd, _, rfl, rfl⟩
 have hp := iq ht33 hp
 refine zz 4 ?_
 have hob := ltd0 hp
 obtain ⟨J34, hJ34, hp⟩ := hob
 refine zjoin (fun (_ : Unit) => [(1, .pointer (some ⟨b3, 0, none⟩))]) (fun (_ : Unit) w1 => ∃ Y1 : Hid, St E0 w X w1 Y1 [(b3, .cells #[.slice p0a1 p0.height.length p0a2, .slice p0a3 p0.own.length p0a4, .slice p0a5 p0.other.length p0a6, .slice p0a7 p0.advisories.length p0a8, .int .i64 p0.pull, .int .i64 p0.near, .int .i64 p0.steps, .slice p0a9 p0.ownNoise.length p0a10, .slice p0a11 p0.otherNoise.length p0a12, .bool p0.alert.neg, .slice p0a13 p0.alert.ln.length p0a14, .slice p0a15 p0.alert.ld.length p0a16, .bool p0.strengthen.neg, .slice p0a17 p0.strengthen.ln.length p0a18, .slice p0a19 p0.strengthen.ld.length p0a20, .bool p0.reversal.neg, .slice p0a21 p0.reversal.ln.length p0a22, .slice p0a23 p0.reversal.ld.length p0a24] 30 (0, 0))] ∧ Le (rd w30 Y30) (rd w1 Y1) ∧ J34 = some y) ?_ ?_
 ·
  rintro _ w34 ⟨Y34, C34, j34, hp⟩
  have hp := hJ34.symm.trans hp
  refine zz 5 ?_
  refine zo 0 C34 ?_
  refine zn (fun b => .slice (some ⟨b, 0, none⟩) 1 1) (.cells #[.int .i64 p0.pull] 3 (0, 0)) C34 ?_
  intro b36 w36 Y36 C36 j36 hu36
  refine bndk hp fun y38 hy38 hp => ?_
  refine zc C36 (dynamics_span_has_c _ X0 (X0_lt _) (SpanD.mk 0 100) _ rfl ([p0.pull]) _ ⟨_, _, rfl, (SlR.lit (El := IntAt) (size := 1) (n := 1) [⟨(p0.pull : Int), [.int .i64 p0.pull]⟩] (C36.at0 0 rfl rfl) (List.forall_mem_cons.2 ⟨⟨rfl, fun r2 h2 b o h9 => h9⟩, (List.forall_mem_nil _)⟩) rfl (by decide))⟩ y38 hy38) ?_ (vs := #[.agg #[.int .i64 0, .int .i64 100], .slice (some ⟨b36, 0, none⟩) 1 1])
  rintro v39 w39 C39 j39 hu39 rfl
  refine zz 2 ?_
  refine zb 91 (b := !y38) (fun hc40 => ?_) (fun hc40 => ?_)
  ·
   have hp := ipb hc40 hp
   refine zz 25 ?_
   refine zr' (v := .int .i64 1) ?_
   have hob := Option.some.inj hp
   subst hob
   exact ⟨C39.upd, _, rfl, rfl⟩
  have hp := iqb hc40 hp
  refine zz 2 ?_
  refine zo 1 C39 ?_
  refine zn (fun b => .slice (some ⟨b, 0, none⟩) 1 1) (.cells #[.int .i64 p0.near] 3 (0, 0)) C39 ?_
  intro b42 w42 Y42 C42 j42 hu42
  refine bndk hp fun y44 hy44 hp => ?_
  refine zc C42 (dynamics_span_has_c _ X0 (X0_lt _) (SpanD.mk 0 50000) _ rfl ([p0.near]) _ ⟨_, _, rfl, (SlR.lit (El := IntAt) (size := 1) (n := 1) [⟨(p0.near : Int), [.int .i64 p0.near]⟩] (C42.at0 0 rfl rfl) (List.forall_mem_cons.2 ⟨⟨rfl, fun r2 h2 b o h9 => h9⟩, (List.forall_mem_nil _)⟩) rfl (by decide))⟩ y44 hy44) ?_ (vs := #[.agg #[.int .i64 0, .int .i64 50000], .slice (some ⟨b42, 0, none⟩) 1 1])
  rintro v45 w45 C45 j45 hu45 rfl
  refine zz 3 ?_
  refine zb 99 (b := !y44) (fun hc46 => ?_) (fun hc46 => ?_)
  ·
   have hp := ipb hc46 hp
   refine zz 17 ?_
   refine zr' (v := .int .i64 1) ?_
   have hob := Option.some.inj hp
   subst hob
   exact ⟨C45.upd, _, rfl, rfl⟩
  have hp := iqb hc46 hp
  refine zz 2 ?_
  refine zo 2 C45 ?_
  refine zn (fun b => .slice (some ⟨b, 0, none⟩) 1 1) (.cells #[.int .i64 p0.steps] 3 (0, 0)) C45 ?_
  intro b48 w48 Y48 C48 j48 hu48
  refine bndk hp fun y50 hy50 hp => ?_
  refine zc C48 (dynamics_span_has_c _ X0 (X0_lt _) (SpanD.mk 0 24) _ rfl ([p0.steps]) _ ⟨_, _, rfl, (SlR.lit (El := IntAt) (size := 1) (n := 1) [⟨(p0.steps : Int), [.int .i64 p0.steps]⟩] (C48.at0 0 rfl rfl) (List.forall_mem_cons.2 ⟨⟨rfl, fun r2 h2 b o h9 => h9⟩, (List.forall_mem_nil _)⟩) rfl (by decide))⟩ y50 hy50) ?_ (vs := #[.agg #[.int .i64 0, .int .i64 24], .slice (some ⟨b48, 0, none⟩) 1 1])
  rintro v51 w51 C51 j51 hu51 rfl
  refine zz 4 ?_
  refine zb 106 (b := !y50) (fun hc52 => ?_) (fun hc52 => ?_)
  ·
   have hp := ipb hc52 hp
   refine zz 8 ?_
   refine zr' (v := .int .i64 1) ?_
   have hob := Option.some.inj hp
   subst hob
   exact ⟨C51.upd, _, rfl, rfl⟩
  have hp := iqb hc52 hp
  refine zz 3 ?_
  have hob := ltd0 hp
  obtain ⟨J53, hJ53, hp⟩ := hob
  refine zjoin (fun (_ : Unit) => [(1, .pointer (some ⟨b3, 0, none⟩))]) (fun (_ : Unit) w1 => ∃ Y1 : Hid, St E0 w X w1 Y1 [(b48, .cells #[.int .i64 p0.steps] 3 (0, 0)), (b42, .cells #[.int .i64 p0.near] 3 (0, 0)), (b36, .cells #[.int .i64 p0.pull] 3 (0, 0)), (b3, .cells #[.slice p0a1 p0.height.length p0a2, .slice p0a3 p0.own.length p0a4, .slice p0a5 p0.other.length p0a6, .slice p0a7 p0.advisories.length p0a8, .int .i64 p0.pull, .int .i64 p0.near, .int .i64 p0.steps, .slice p0a9 p0.ownNoise.length p0a10, .slice p0a11 p0.otherNoise.length p0a12, .bool p0.alert.neg, .slice p0a13 p0.alert.ln.length p0a14, .slice p0a15 p0.alert.ld.length p0a16, .bool p0.strengthen.neg, .slice p0a17 p0.strengthen.ln.length p0a18, .slice p0a19 p0.strengthen.ld.length p0a20, .bool p0.reversal.neg, .slice p0a21 p0.reversal.ln.length p0a22, .slice p0a23 p0.reversal.ld.length p0a24] 30 (0, 0))] ∧ Le (rd w51 Y48) (rd w1 Y1) ∧ J53 = some y) ?_ ?_
  ·
   rintro _ w53 ⟨Y53, C53, j53, hp⟩
   have hp := hJ53.symm.trans hp
   have hob := ltd0 hp
   obtain ⟨J54, hJ54, hp⟩ := hob
   refine zjoin (fun (_ : Unit) => [(1, .pointer (some ⟨b3, 0, none⟩))]) (fun (_ : Unit) w1 => ∃ Y1 : Hid, St E0 w X w1 Y1 [(b48, .cells #[.int .i64 p0.steps] 3 (0, 0)), (b42, .cells #[.int .i64 p0.near] 3 (0, 0)), (b36, .cells #[.int .i64 p0.pull] 3 (0, 0)), (b3, .cells #[.slice p0a1 p0.height.length p0a2, .slice p0a3 p0.own.length p0a4, .slice p0a5 p0.other.length p0a6, .slice p0a7 p0.advisories.length p0a8, .int .i64 p0.pull, .int .i64 p0.near, .int .i64 p0.steps, .slice p0a9 p0.ownNoise.length p0a10, .slice p0a11 p0.otherNoise.length p0a12, .bool p0.alert.neg, .slice p0a13 p0.alert.ln.length p0a14, .slice p0a15 p0.alert.ld.length p0a16, .bool p0.strengthen.neg, .slice p0a17 p0.strengthen.ln.length p0a18, .slice p0a19 p0.strengthen.ld.length p0a20, .bool p0.reversal.neg, .slice p0a21 p0.reversal.ln.length p0a22, .slice p0a23 p0.reversal.ld.length p0a24] 30 (0, 0))] ∧ Le (rd w53 Y53) (rd w1 Y1) ∧ J54 = some y) ?_ ?_
   ·
    rintro _ w54 ⟨Y54, C54, j54, hp⟩
    have hp := hJ54.symm.trans hp
    refine zz 3 ?_
    refine zo 3 C54 ?_
    have hc6_ := ((((((((((hc4_.trans j29).trans j30).trans j34).trans j36).trans j39).trans j42).trans j45).trans j48).trans j51).trans j53).trans j54
    refine bndk hp fun y56 hy56 hp => ?_
    refine zc C54 (dynamics_size_c _ X0 (X0_lt _) p0 _ ((hVp0.mono hc6_).mono Le.x0) y56 hy56) ?_
    rintro v57 w57 C57 j57 hu57 rfl
    refine zz 3 ?_
    refine zt 145 (p := (y56) > 200) (fun ht58 => ?_) (fun ht58 => ?_)
    ·
     have hp := ip ht58 hp
     refine zz 8 ?_
     refine zr' (v := .int .i64 10) ?_
     have hob := Option.some.inj hp
     subst hob
     exact ⟨C57.upd, _, rfl, rfl⟩
    have hp := iq ht58 hp
    refine zz 9 ?_
    refine zr' (v := .int .i64 0) ?_
    have hob := Option.some.inj hp
    subst hob
    exact ⟨C57.upd, _, rfl, rfl⟩
   intro K59 H59
   refine zz 3 ?_
   refine zo 3 C53 ?_
   refine zz 1 ?_
   refine zo 3 C53 ?_
   refine zz 1 ?_
   refine zo 3 C53 ?_
   refine zn (fun b => .slice (some ⟨b, 0, none⟩) 3 3) (.cells #[.bool p0.alert.neg, .slice p0a13 p0.alert.ln.length p0a14, .slice p0a15 p0.alert.ld.length p0a16, .bool p0.strengthen.neg, .slice p0a17 p0.strengthen.ln.length p0a18, .slice p0a19 p0.strengthen.ld.length p0a20, .bool p0.reversal.neg, .slice p0a21 p0.reversal.ln.length p0a22, .slice p0a23 p0.reversal.ld.length p0a24] 28 (0, 0)) C53 ?_
   intro b61 w61 Y61 C61 j61 hu61
   refine zz 5 ?_
   have hob := St.pubAt 0 C61 rfl
   obtain ⟨Y63, hSx63, j63, hat63, hatN63⟩ := hob
   have C63 : St E0 w X w61 Y63 [(b48, .cells #[.int .i64 p0.steps] 3 (0, 0)), (b42, .cells #[.int .i64 p0.near] 3 (0, 0)), (b36, .cells #[.int .i64 p0.pull] 3 (0, 0)), (b3, .cells #[.slice p0a1 p0.height.length p0a2, .slice p0a3 p0.own.length p0a4, .slice p0a5 p0.other.length p0a6, .slice p0a7 p0.advisories.length p0a8, .int .i64 p0.pull, .int .i64 p0.near, .int .i64 p0.steps, .slice p0a9 p0.ownNoise.length p0a10, .slice p0a11 p0.otherNoise.length p0a12, .bool p0.alert.neg, .slice p0a13 p0.alert.ln.length p0a14, .slice p0a15 p0.alert.ld.length p0a16, .bool p0.strengthen.neg, .slice p0a17 p0.strengthen.ln.length p0a18, .slice p0a19 p0.strengthen.ld.length p0a20, .bool p0.reversal.neg, .slice p0a21 p0.reversal.ln.length p0a22, .slice p0a23 p0.reversal.ld.length p0a24] 30 (0, 0))] := hSx63
   have hc7_ := (((((((((((hc4_.trans j29).trans j30).trans j34).trans j36).trans j39).trans j42).trans j45).trans j48).trans j51).trans j53).trans j61).trans j63
   have hR63 : Rats (rd w61 Y63) (some ⟨b61, 0, none⟩) 3 3 [p0.alert, p0.strengthen, p0.reversal] := (Rats.ofSl (SlR.lit (El := RatAt) (size := 3) (n := 3) [⟨p0.alert, [.bool p0.alert.neg, .slice p0a13 p0.alert.ln.length p0a14, .slice p0a15 p0.alert.ld.length p0a16]⟩, ⟨p0.strengthen, [.bool p0.strengthen.neg, .slice p0a17 p0.strengthen.ln.length p0a18, .slice p0a19 p0.strengthen.ld.length p0a20]⟩, ⟨p0.reversal, [.bool p0.reversal.neg, .slice p0a21 p0.reversal.ln.length p0a22, .slice p0a23 p0.reversal.ld.length p0a24]⟩] hat63 (List.forall_mem_cons.2 ⟨⟨rfl, fun r2 h2 b o h9 => ⟨_, _, _, _, _, _, h9, ((p0a_h6.mono hc7_).mono h2), ((p0a_h7.mono hc7_).mono h2)⟩⟩, (List.forall_mem_cons.2 ⟨⟨rfl, fun r2 h2 b o h9 => ⟨_, _, _, _, _, _, h9, ((p0a_h8.mono hc7_).mono h2), ((p0a_h9.mono hc7_).mono h2)⟩⟩, (List.forall_mem_cons.2 ⟨⟨rfl, fun r2 h2 b o h9 => ⟨_, _, _, _, _, _, h9, ((p0a_h10.mono hc7_).mono h2), ((p0a_h11.mono hc7_).mono h2)⟩⟩, (List.forall_mem_nil _)⟩)⟩)⟩) rfl (by decide)))
   refine zlp Tryz.f26 [K59] [1, 1, 1, 1, 1, 1, 9, 1, 0] (fun (k62 : Nat) => [(1, .pointer (some ⟨b3, 0, none⟩)), (129, .slice (some ⟨b61, 0, none⟩) 3 3), (130, .int .i64 3), (131, .int .i64 (k62 : Int))]) (fun (k62 : Nat) w1 => ∃ Y1 : Hid, St E0 w X w1 Y1 [(b48, .cells #[.int .i64 p0.steps] 3 (0, 0)), (b42, .cells #[.int .i64 p0.near] 3 (0, 0)), (b36, .cells #[.int .i64 p0.pull] 3 (0, 0)), (b3, .cells #[.slice p0a1 p0.height.length p0a2, .slice p0a3 p0.own.length p0a4, .slice p0a5 p0.other.length p0a6, .slice p0a7 p0.advisories.length p0a8, .int .i64 p0.pull, .int .i64 p0.near, .int .i64 p0.steps, .slice p0a9 p0.ownNoise.length p0a10, .slice p0a11 p0.otherNoise.length p0a12, .bool p0.alert.neg, .slice p0a13 p0.alert.ln.length p0a14, .slice p0a15 p0.alert.ld.length p0a16, .bool p0.strengthen.neg, .slice p0a17 p0.strengthen.ln.length p0a18, .slice p0a19 p0.strengthen.ld.length p0a20, .bool p0.reversal.neg, .slice p0a21 p0.reversal.ln.length p0a22, .slice p0a23 p0.reversal.ld.length p0a24] 30 (0, 0))] ∧ Le (rd w61 Y63) (rd w1 Y1) ∧ dynamics_Check_l62 p0 J54 ((3 : Int).toNat - k62) k62 = some y) (fun (k62 : Nat) => (3 : Int).toNat - k62) 0 ?_ ?_
   ·
    exact ⟨_, C63, Le.refl _, hp⟩
   rintro k62 w62 K62 H62 ⟨Y62, C62, j62, hp⟩
   refine zz 6 ?_
   refine zt 132 (p := (k62 : Int) < 3) (fun ht64 => ?_) (fun ht64 => ?_)
   ·
    have hob := cnt_ltI (N := (3 : Int)) (k := k62) ht64
    obtain ⟨r62, hm62, hn62⟩ := hob
    rw [hm62, dynamics_Check_l62] at hp
    refine zz 7 ?_
    refine bndk hp fun x65 hx65 hp => ?_
    have hob := ix_some hx65
    obtain ⟨hzx65, hqx65⟩ := hob
    have hwx65 : ([p0.alert, p0.strengthen, p0.reversal])[k62]? = some x65 := hqx65
    have hob := hR63.sl.opn2 hwx65
    obtain ⟨j66, hEe66⟩ := hob
    obtain ⟨e661, e662, e663, e664, e665, e666, e66_at, e66_h0, e66_h1⟩ := hEe66
    have hob := e66_h0.hlen
    subst hob
    have hob := e66_h1.hlen
    subst hob
    refine zi (b := b61) (off := 0) (len := 3) (cap := 3) (kd := .i64) (i := (k62 : Int)) 3 (0 + k62 * 3) ?_ (h0 := hzx65) (h1 := (ix_b hzx65 j66))
    refine zl ((e66_at.mono j62)).cells ?_
    refine zn pn (.cells #[.bool false, .slice none 0 0, .slice none 0 0] 28 (0, 0)) C62 ?_
    intro b68 w68 Y68 C68 j68 hu68
    refine zx 0 #[.bool x65.neg, .slice e661 x65.ln.length e663, .slice e664 x65.ld.length e666] C68 ?_
    intro w69 C69 j69
    refine zz 5 ?_
    refine zo 0 C69 ?_
    refine bndk hp fun y71 hy71 hp => ?_
    refine zc C69 (dynamics_checkRat_c _ X0 (X0_lt _) x65 _ ⟨_, _, _, _, _, _, rfl, ((e66_h0.mono (Le3 j62 j68 j69)).mono Le.x0), ((e66_h1.mono (Le3 j62 j68 j69)).mono Le.x0)⟩ y71 hy71) ?_
    rintro v72 w72 C72 j72 hu72 rfl
    refine zz 9 ?_
    refine zb 138 (b := ((y71) != 0)) (fun hc73 => ?_) (fun hc73 => ?_)
    ·
     have hp := ipb hc73 hp
     refine zz 14 ?_
     refine zr' (v := .int .i64 y71) ?_
     have hob := Option.some.inj hp
     subst hob
     exact ⟨C72.upd, _, rfl, rfl⟩
    have hp := iqb hc73 hp
    refine zz 6 ?_
    refine zo 0 C72 ?_
    refine zz 2 ?_
    refine zb 141 (b := x65.neg) (fun hc74 => ?_) (fun hc74 => ?_)
    ·
     have hp := ipb hc74 hp
     refine zz 12 ?_
     refine zr' (v := .int .i64 1) ?_
     have hob := Option.some.inj hp
     subst hob
     exact ⟨C72.upd, _, rfl, rfl⟩
    have hp := iqb hc74 hp
    refine zz 6 ?_
    refine zs 142 (v := .int .i64 (IntKind.i64.wrap ((k62 : Int) + 1))) (v' := .int .i64 ((k62 : Int) + 1)) (vint (wi64 (wk0 k62) (wk1 ht64 (by decide)))) ?_
    refine zz 2 ?_
    have hc8_ := (Le3 j62 j68 j69).trans j72
    refine znext (fun a h => H62 (k62 + 1) _ a h ⟨_, C72.tail, hc8_, (by rw [hn62]; exact hp)⟩ ?_)
    exact mu_ltN ht64
   rw [cnt_end (N := (3 : Int)) ht64, dynamics_Check_l62] at hp
   refine zz 5 ?_
   exact znext (fun a h => H59 () _ a h ⟨_, C62, (Le3 j61 j63 j62), hp⟩)
  intro K75 H75
  refine zz 3 ?_
  refine zo 3 C51 ?_
  refine zz 1 ?_
  refine zo 3 C51 ?_
  refine zn (fun b => .slice (some ⟨b, 0, none⟩) 2 2) (.cells #[.slice p0a9 p0.ownNoise.length p0a10, .slice p0a11 p0.otherNoise.length p0a12] 24 (0, 0)) C51 ?_
  intro b77 w77 Y77 C77 j77 hu77
  refine zz 5 ?_
  have hob := St.pubAt 0 C77 rfl
  obtain ⟨Y79, hSx79, j79, hat79, hatN79⟩ := hob
  have C79 : St E0 w X w77 Y79 [(b48, .cells #[.int .i64 p0.steps] 3 (0, 0)), (b42, .cells #[.int .i64 p0.near] 3 (0, 0)), (b36, .cells #[.int .i64 p0.pull] 3 (0, 0)), (b3, .cells #[.slice p0a1 p0.height.length p0a2, .slice p0a3 p0.own.length p0a4, .slice p0a5 p0.other.length p0a6, .slice p0a7 p0.advisories.length p0a8, .int .i64 p0.pull, .int .i64 p0.near, .int .i64 p0.steps, .slice p0a9 p0.ownNoise.length p0a10, .slice p0a11 p0.otherNoise.length p0a12, .bool p0.alert.neg, .slice p0a13 p0.alert.ln.length p0a14, .slice p0a15 p0.alert.ld.length p0a16, .bool p0.strengthen.neg, .slice p0a17 p0.strengthen.ln.length p0a18, .slice p0a19 p0.strengthen.ld.length p0a20, .bool p0.reversal.neg, .slice p0a21 p0.reversal.ln.length p0a22, .slice p0a23 p0.reversal.ld.length p0a24] 30 (0, 0))] := hSx79
  have hc9_ := ((((((((((hc4_.trans j29).trans j30).trans j34).trans j36).trans j39).trans j42).trans j45).trans j48).trans j51).trans j77).trans j79
  have hR79 : NoiseDSS (rd w77 Y79) (some ⟨b77, 0, none⟩) 2 2 [p0.ownNoise, p0.otherNoise] := (SlR.lit (El := NoiseDSAt) (size := 1) (n := 2) [⟨p0.ownNoise, [.slice p0a9 p0.ownNoise.length p0a10]⟩, ⟨p0.otherNoise, [.slice p0a11 p0.otherNoise.length p0a12]⟩] hat79 (List.forall_mem_cons.2 ⟨⟨rfl, fun r2 h2 b o h9 => ⟨_, _, h9, ((p0a_h4.mono hc9_).mono h2)⟩⟩, (List.forall_mem_cons.2 ⟨⟨rfl, fun r2 h2 b o h9 => ⟨_, _, h9, ((p0a_h5.mono hc9_).mono h2)⟩⟩, (List.forall_mem_nil _)⟩)⟩) rfl (by decide))
  refine zlp Tryz.f26 [K75] [1, 1, 1, 1, 1, 9, 1, 0] (fun (k78 : Nat) => [(1, .pointer (some ⟨b3, 0, none⟩)), (111, .slice (some ⟨b77, 0, none⟩) 2 2), (112, .int .i64 2), (113, .int .i64 (k78 : Int))]) (fun (k78 : Nat) w1 => ∃ Y1 : Hid, St E0 w X w1 Y1 [(b48, .cells #[.int .i64 p0.steps] 3 (0, 0)), (b42, .cells #[.int .i64 p0.near] 3 (0, 0)), (b36, .cells #[.int .i64 p0.pull] 3 (0, 0)), (b3, .cells #[.slice p0a1 p0.height.length p0a2, .slice p0a3 p0.own.length p0a4, .slice p0a5 p0.other.length p0a6, .slice p0a7 p0.advisories.length p0a8, .int .i64 p0.pull, .int .i64 p0.near, .int .i64 p0.steps, .slice p0a9 p0.ownNoise.length p0a10, .slice p0a11 p0.otherNoise.length p0a12, .bool p0.alert.neg, .slice p0a13 p0.alert.ln.length p0a14, .slice p0a15 p0.alert.ld.length p0a16, .bool p0.strengthen.neg, .slice p0a17 p0.strengthen.ln.length p0a18, .slice p0a19 p0.strengthen.ld.length p0a20, .bool p0.reversal.neg, .slice p0a21 p0.reversal.ln.length p0a22, .slice p0a23 p0.reversal.ld.length p0a24] 30 (0, 0))] ∧ Le (rd w77 Y79) (rd w1 Y1) ∧ dynamics_Check_l78 p0 J53 ((2 : Int).toNat - k78) k78 = some y) (fun (k78 : Nat) => (2 : Int).toNat - k78) 0 ?_ ?_
  ·
   exact ⟨_, C79, Le.refl _, hp⟩
  rintro k78 w78 K78 H78 ⟨Y78, C78, j78, hp⟩
  refine zz 6 ?_
  refine zt 114 (p := (k78 : Int) < 2) (fun ht80 => ?_) (fun ht80 => ?_)
  ·
   have hob := cnt_ltI (N := (2 : Int)) (k := k78) ht80
   obtain ⟨r78, hm78, hn78⟩ := hob
   rw [hm78, dynamics_Check_l78] at hp
   refine zz 7 ?_
   refine bndk hp fun x81 hx81 hp => ?_
   have hob := ix_some hx81
   obtain ⟨hzx81, hqx81⟩ := hob
   have hwx81 : ([p0.ownNoise, p0.otherNoise])[k78]? = some x81 := hqx81
   have hob := hR79.opn2 hwx81
   obtain ⟨j82, hEe82⟩ := hob
   obtain ⟨e821, e822, e82_at, e82_h0⟩ := hEe82
   refine zi (b := b77) (off := 0) (len := 2) (cap := 2) (kd := .i64) (i := (k78 : Int)) 1 (0 + k78 * 1) ?_ (h0 := hzx81) (h1 := (ix_b hzx81 j82))
   refine zl ((e82_at.mono j78)).cells ?_
   refine zz 6 ?_
   refine bndk hp fun y84 hy84 hp => ?_
   refine zc C78 (dynamics_checkNoise_c _ X0 (X0_lt _) x81 _ ⟨_, _, rfl, ((e82_h0.mono j78).mono Le.x0)⟩ y84 hy84) ?_
   rintro v85 w85 C85 j85 hu85 rfl
   refine zz 9 ?_
   refine zb 120 (b := ((y84) != 0)) (fun hc86 => ?_) (fun hc86 => ?_)
   ·
    have hp := ipb hc86 hp
    refine zz 13 ?_
    refine zr' (v := .int .i64 y84) ?_
    have hob := Option.some.inj hp
    subst hob
    exact ⟨C85.upd, _, rfl, rfl⟩
   have hp := iqb hc86 hp
   refine zz 6 ?_
   refine zs 122 (v := .int .i64 (IntKind.i64.wrap ((k78 : Int) + 1))) (v' := .int .i64 ((k78 : Int) + 1)) (vint (wi64 (wk0 k78) (wk1 ht80 (by decide)))) ?_
   refine zz 2 ?_
   refine znext (fun a h => H78 (k78 + 1) _ a h ⟨_, C85, (Le2 j78 j85), (by rw [hn78]; exact hp)⟩ ?_)
   exact mu_ltN ht80
  rw [cnt_end (N := (2 : Int)) ht80, dynamics_Check_l78] at hp
  refine zz 5 ?_
  exact znext (fun a h => H75 () _ a h ⟨_, C78, (Le3 j77 j79 j78), hp⟩)
 intro K87 H87
 refine zz 3 ?_
 refine zo 0 C30 ?_
 have hob := grdp hp
 obtain ⟨hg89, hp⟩ := hob
 have hob := SlR.cutN (k := 1) (n := p0.advisories.length) (p0a_h3) (cutbn hg89) (Nat.le_refl _)
 obtain ⟨ad90, cap90, hcu90, hsl90⟩ := hob
 have hpe90 : ((p0.advisories.take p0.advisories.length).drop 1) = (p0.advisories.drop 1) := by simp
 rw [hpe90] at hsl90 hcu90
 have hsf90 : BoundsDS (rd w X) ad90 (p0.advisories.drop 1).length cap90 (p0.advisories.drop 1) := hsl90
 refine zop (at1 [K87] Tryz.f26 [1, 1, 1, 9, 0]) 2 (fun a88 _ G88 hz88 => zF (d := 53) (v := .slice ad90 ((p0.advisories.drop 1).length) cap90) G88 kr (run_cutLoN (kd := .i64) (i := 1) (t := 23) (e := 60) (g := true) (m := 3) (ad := p0a7) (len := p0.advisories.length) (cap := p0a8) hcu90 rfl kr kr kr kr hg89.1 hg89.2.1 rfl _) ?_)
 intro a91 G91
 refine hz88 G91 ?_
 refine zz 5 ?_
 have hb92 : ((p0.advisories.drop 1).length : Int) ≤ 9223372036854775807 := lenb (hsf90).hcap (hsf90).hbig
 refine zlp Tryz.f26 [K87] [1, 1, 1, 9, 1, 0] (fun (k92 : Nat) => [(1, .pointer (some ⟨b3, 0, none⟩)), (3, .func (.func 96) #[] #[.pointer (some ⟨u6_0_b0, 0, none⟩), .pointer (some ⟨u6_0_b1, 0, none⟩)]), (53, .slice ad90 ((p0.advisories.drop 1).length) cap90), (54, .int .i64 ((p0.advisories.drop 1).length : Int)), (55, .int .i64 (k92 : Int))]) (fun (k92 : Nat) w1 => ∃ Y1 : Hid, St E0 w X w1 Y1 [(b3, .cells #[.slice p0a1 p0.height.length p0a2, .slice p0a3 p0.own.length p0a4, .slice p0a5 p0.other.length p0a6, .slice p0a7 p0.advisories.length p0a8, .int .i64 p0.pull, .int .i64 p0.near, .int .i64 p0.steps, .slice p0a9 p0.ownNoise.length p0a10, .slice p0a11 p0.otherNoise.length p0a12, .bool p0.alert.neg, .slice p0a13 p0.alert.ln.length p0a14, .slice p0a15 p0.alert.ld.length p0a16, .bool p0.strengthen.neg, .slice p0a17 p0.strengthen.ln.length p0a18, .slice p0a19 p0.strengthen.ld.length p0a20, .bool p0.reversal.neg, .slice p0a21 p0.reversal.ln.length p0a22, .slice p0a23 p0.reversal.ld.length p0a24] 30 (0, 0))] ∧ Le (rd w30 Y30) (rd w1 Y1) ∧ dynamics_Check_l92 y5 J34 ((p0.advisories.drop 1).drop k92)  = some y) (fun (k92 : Nat) => (p0.advisories.drop 1).length - k92) 0 ?_ ?_
 ·
  exact ⟨_, C30, Le.refl _, hp⟩
 rintro k92 w92 K92 H92 ⟨Y92, C92, j92, hp⟩
 refine zz 6 ?_
 refine zt 56 (p := (k92 : Int) < ((p0.advisories.drop 1).length : Int)) (fun ht93 => ?_) (fun ht93 => ?_)
 ·
  have hob := get_lt (l := (p0.advisories.drop 1)) (k := k92) (lt_of_int ht93)
  obtain ⟨x92, hqx92⟩ := hob
  rw [dropC hqx92, dynamics_Check_l92] at hp
  have hzx92 : (0 : Int) ≤ (k92 : Int) := Int.natCast_nonneg _
  refine zz 7 ?_
  have hob := hsf90.opn hqx92
  obtain ⟨be94, oe94, rfl, j94, hEe94⟩ := hob
  have e94_at : At (rd w X) ⟨be94, oe94 + k92 * 3, none⟩ [.int .u8 x92.sense, .int .i64 x92.lo, .int .i64 x92.hi] := hEe94
  refine zi (b := be94) (off := oe94) (len := (p0.advisories.drop 1).length) (cap := cap90) (kd := .i64) (i := (k92 : Int)) 3 (oe94 + k92 * 3) ?_ (h0 := hzx92) (h1 := (ix_b hzx92 j94))
  have hc10_ := ((hc4_.trans j29).trans j30).trans j92
  refine zl ((e94_at.mono hc10_)).cells ?_
  refine zn pn (.cells #[.int .u8 0, .int .i64 0, .int .i64 0] 60 (0, 0)) C92 ?_
  intro b96 w96 Y96 C96 j96 hu96
  refine zx 0 #[.int .u8 x92.sense, .int .i64 x92.lo, .int .i64 x92.hi] C96 ?_
  intro w97 C97 j97
  refine zz 3 ?_
  have hob := ltd1 hp
  obtain ⟨J98, hJ98, hp⟩ := hob
  refine zjoin (fun (v98_0 : Bool) => [(59, .bool v98_0), (1, .pointer (some ⟨b3, 0, none⟩)), (3, .func (.func 96) #[] #[.pointer (some ⟨u6_0_b0, 0, none⟩), .pointer (some ⟨u6_0_b1, 0, none⟩)]), (6, .pointer (some ⟨b96, 0, none⟩)), (53, .slice (some ⟨be94, oe94, none⟩) ((p0.advisories.drop 1).length) cap90), (54, .int .i64 ((p0.advisories.drop 1).length : Int)), (55, .int .i64 (k92 : Int))]) (fun (v98_0 : Bool) w1 => ∃ Y1 : Hid, St E0 w X w1 Y1 [(b96, .cells #[.int .u8 x92.sense, .int .i64 x92.lo, .int .i64 x92.hi] 60 (0, 0)), (b3, .cells #[.slice p0a1 p0.height.length p0a2, .slice p0a3 p0.own.length p0a4, .slice p0a5 p0.other.length p0a6, .slice p0a7 p0.advisories.length p0a8, .int .i64 p0.pull, .int .i64 p0.near, .int .i64 p0.steps, .slice p0a9 p0.ownNoise.length p0a10, .slice p0a11 p0.otherNoise.length p0a12, .bool p0.alert.neg, .slice p0a13 p0.alert.ln.length p0a14, .slice p0a15 p0.alert.ld.length p0a16, .bool p0.strengthen.neg, .slice p0a17 p0.strengthen.ln.length p0a18, .slice p0a19 p0.strengthen.ld.length p0a20, .bool p0.reversal.neg, .slice p0a21 p0.reversal.ln.length p0a22, .slice p0a23 p0.reversal.ld.length p0a24] 30 (0, 0))] ∧ Le (rd w97 Y96) (rd w1 Y1) ∧ J98 v98_0 = some y) ?_ ?_
  ·
   rintro v98_0 w98 ⟨Y98, C98, j98, hp⟩
   have hp := (hJ98 _).symm.trans hp
   refine zb 59 (b := v98_0) (fun hc99 => ?_) (fun hc99 => ?_)
   ·
    have hp := ipb hc99 hp
    refine zz 13 ?_
    refine zr' (v := .int .i64 6) ?_
    have hob := Option.some.inj hp
    subst hob
    exact ⟨C98.upd, _, rfl, rfl⟩
   have hp := iqb hc99 hp
   refine zz 4 ?_
   refine zo 0 C98 ?_
   refine zz 1 ?_
   refine zo 0 C98 ?_
   refine zz 2 ?_
   refine zt 74 (p := (x92.lo) > x92.hi) (fun ht100 => ?_) (fun ht100 => ?_)
   ·
    have hp := ip ht100 hp
    refine zz 25 ?_
    refine zr' (v := .int .i64 1) ?_
    have hob := Option.some.inj hp
    subst hob
    exact ⟨C98.upd, _, rfl, rfl⟩
   have hp := iq ht100 hp
   refine zz 2 ?_
   refine zo 0 C98 ?_
   refine zz 1 ?_
   refine zo 0 C98 ?_
   refine zn (fun b => .slice (some ⟨b, 0, none⟩) 2 2) (.cells #[.int .i64 x92.lo, .int .i64 x92.hi] 3 (0, 0)) C98 ?_
   intro b102 w102 Y102 C102 j102 hu102
   have hc11_ := ((((((hc5_.trans j29).trans j30).trans j92).trans j96).trans j97).trans j98).trans j102
   refine bndk hp fun y104 hy104 hp => ?_
   refine zc C102 (dynamics_within_1_c _ X0 (X0_lt _) ([x92.lo, x92.hi]) _ ⟨_, _, rfl, (SlR.lit (El := IntAt) (size := 1) (n := 2) [⟨(x92.lo : Int), [.int .i64 x92.lo]⟩, ⟨(x92.hi : Int), [.int .i64 x92.hi]⟩] (C102.at0 0 rfl rfl) (List.forall_mem_cons.2 ⟨⟨rfl, fun r2 h2 b o h9 => h9⟩, (List.forall_mem_cons.2 ⟨⟨rfl, fun r2 h2 b o h9 => h9⟩, (List.forall_mem_nil _)⟩)⟩) rfl (by decide))⟩ _ ((hAu6_0_b0.mono hc11_).mono Le.x0) y5 _ ((hAu6_0_b1.mono hc11_).mono Le.x0) y104 hy104) ?_ (vs := #[.slice (some ⟨b102, 0, none⟩) 2 2, .pointer (some ⟨u6_0_b0, 0, none⟩), .pointer (some ⟨u6_0_b1, 0, none⟩)])
   rintro v105 w105 C105 j105 hu105 rfl
   refine zz 5 ?_
   refine zb 68 (b := !y104) (fun hc106 => ?_) (fun hc106 => ?_)
   ·
    have hp := ipb hc106 hp
    refine zz 13 ?_
    refine zr' (v := .int .i64 1) ?_
    have hob := Option.some.inj hp
    subst hob
    exact ⟨C105.upd, _, rfl, rfl⟩
   have hp := iqb hc106 hp
   refine zz 7 ?_
   refine zs 84 (v := .int .i64 (IntKind.i64.wrap ((k92 : Int) + 1))) (v' := .int .i64 ((k92 : Int) + 1)) (vint (wi64 (wk0 k92) (wk1 ht93 hb92))) ?_
   refine zz 2 ?_
   have hc12_ := (Le5 j92 j96 j97 j98 j102).trans j105
   refine znext (fun a h => H92 (k92 + 1) _ a h ⟨_, C105.tail.tail, hc12_, hp⟩ ?_)
   exact mu_lt ht93
  intro K107 H107
  refine zz 2 ?_
  refine zo 0 C97 ?_
  refine zz 2 ?_
  refine zb 63 (b := ((x92.sense) != 1)) (fun hc108 => ?_) (fun hc108 => ?_)
  ·
   have hp := ipb hc108 hp
   refine zz 1 ?_
   refine zo 0 C97 ?_
   refine zz 4 ?_
   exact znext (fun a h => H107 ((x92.sense) != 2) _ a h ⟨_, C97, (Le.refl _), hp⟩)
  have hp := iqb hc108 hp
  refine zz 6 ?_
  exact znext (fun a h => H107 false _ a h ⟨_, C97, (Le.refl _), hp⟩)
 rw [List.drop_eq_nil_of_le (nlt_of_int ht93), dynamics_Check_l92] at hp
 refine zz 5 ?_
 exact znext (fun a h => H87 () _ a h ⟨_, C92, j92, hp⟩)
end Go.Proofs.YtppalofalmieaaaGreat
namespace Go.Proofs.YtppalofalmieaaaGreat
open Go Go.Gv Go.RowKit
set_option maxRecDepth 100000
set_option maxHeartbeats 1000000
noncomputable def dynamics_known_p (p0 : ModelD) (p1 : List Int) : Option (Int) :=
  (dynamics_Check_p p0).bind fun y5 => if ((y5) != 0) = true then (some y5) else ((dynamics_span_has_p (SpanD.mk 0 (IntKind.i64.wrap ((p0.advisories.length : Int) - 1))) p1).bind fun y9 => if (!y9) = true then (some 8) else (some 0))
theorem dynamics_known_c (w : World) (X : Hid) (hX : ∀ k o, X k o → k < w.heap.size) (p0 : ModelD) (vp0 : Value) (hp0 : ModelDV (rd w X) vp0 p0) (p1 : List Int) (vp1 : Value) (hp1 : SV Ints (rd w X) vp1 p1) (y : Int) (hp : dynamics_known_p p0 p1 = some y) : Calls Tryz.prog 53 #[vp0, vp1] w (Ret E0 w fun _ v => v = .int .i64 y) := by
 have hVp0 := hp0
 refine ModelDV.op hp0 fun p0a1 p0a2 p0a3 p0a4 p0a5 p0a6 p0a7 p0a8 p0a9 p0a10 p0a11 p0a12 p0a13 p0a14 p0a15 p0a16 p0a17 p0a18 p0a19 p0a20 p0a21 p0a22 p0a23 p0a24 hv9 p0a_h0 p0a_h1 p0a_h2 p0a_h3 p0a_h4 p0a_h5 p0a_h6 p0a_h7 p0a_h8 p0a_h9 p0a_h10 p0a_h11 => ?_
 subst hv9
 obtain ⟨p1a1, p1a2, rfl, p1a_h0⟩ := hp1
 unfold dynamics_known_p at hp
 refine zen Tryz.func53 ?_
 have C0 : St E0 w X w X [] := St.start hX
 refine zz 2 ?_
 refine zn pn (.cells #[.slice p0a1 p0.height.length p0a2, .slice p0a3 p0.own.length p0a4, .slice p0a5 p0.other.length p0a6, .slice p0a7 p0.advisories.length p0a8, .int .i64 p0.pull, .int .i64 p0.near, .int .i64 p0.steps, .slice p0a9 p0.ownNoise.length p0a10, .slice p0a11 p0.otherNoise.length p0a12, .bool p0.alert.neg, .slice p0a13 p0.alert.ln.length p0a14, .slice p0a15 p0.alert.ld.length p0a16, .bool p0.strengthen.neg, .slice p0a17 p0.strengthen.ln.length p0a18, .slice p0a19 p0.strengthen.ld.length p0a20, .bool p0.reversal.neg, .slice p0a21 p0.reversal.ln.length p0a22, .slice p0a23 p0.reversal.ld.length p0a24] 30 (0, 0)) C0 ?_
 intro b3 w3 Y3 C3 j3 hu3
 refine zz 6 ?_
 refine zo 0 C3 ?_
 refine bndk hp fun y5 hy5 hp => ?_
 refine zc C3 (dynamics_Check_c _ X0 (X0_lt _) p0 _ ((hVp0.mono j3).mono Le.x0) y5 hy5) ?_
 rintro v6 w6 C6 j6 hu6 rfl
 refine zz 9 ?_
 refine zb 9 (b := ((y5) != 0)) (fun hc7 => ?_) (fun hc7 => ?_)
 ·
  have hp := ipb hc7 hp
  refine zz 9 ?_
  refine zr' (v := .int .i64 y5) ?_
  have hob := Option.some.inj hp
  subst hob
  exact ⟨C6.upd, _, rfl, rfl⟩
 have hp := iqb hc7 hp
 refine zz 7 ?_
 refine zo 0 C6 ?_
 refine zz 4 ?_
 refine bndk hp fun y9 hy9 hp => ?_
 refine zc C6 (dynamics_span_has_c _ X0 (X0_lt _) (SpanD.mk 0 (IntKind.i64.wrap ((p0.advisories.length : Int) - 1))) _ rfl p1 _ ⟨_, _, rfl, ((p1a_h0.mono (Le2 j3 j6)).mono Le.x0)⟩ y9 hy9) ?_
 rintro v10 w10 C10 j10 hu10 rfl
 refine zz 3 ?_
 refine zb 18 (b := !y9) (fun hc11 => ?_) (fun hc11 => ?_)
 ·
  have hp := ipb hc11 hp
  refine zz 8 ?_
  refine zr' (v := .int .i64 8) ?_
  have hob := Option.some.inj hp
  subst hob
  exact ⟨C10.upd, _, rfl, rfl⟩
 have hp := iqb hc11 hp
 refine zz 9 ?_
 refine zr' (v := .int .i64 0) ?_
 have hob := Option.some.inj hp
 subst hob
 exact ⟨C10.upd, _, rfl, rfl⟩
noncomputable def dynamics_Size_p (p0 : ModelD) : Option (Int × Int) :=
  (dynamics_Check_p p0).bind fun y5 => if ((y5) != 0) = true then (some (0, y5)) else ((dynamics_size_p p0).bind fun y9 => some (y9, 0))
theorem dynamics_Size_c (w : World) (X : Hid) (hX : ∀ k o, X k o → k < w.heap.size) (p0 : ModelD) (vp0 : Value) (hp0 : ModelDV (rd w X) vp0 p0) (y : Int × Int) (hp : dynamics_Size_p p0 = some y) : Calls Tryz.prog 23 #[vp0] w (Ret E0 w fun _ v => v = .tuple #[.int .i64 y.1, .int .i64 y.2]) := by
 have hVp0 := hp0
 refine ModelDV.op hp0 fun p0a1 p0a2 p0a3 p0a4 p0a5 p0a6 p0a7 p0a8 p0a9 p0a10 p0a11 p0a12 p0a13 p0a14 p0a15 p0a16 p0a17 p0a18 p0a19 p0a20 p0a21 p0a22 p0a23 p0a24 hv9 p0a_h0 p0a_h1 p0a_h2 p0a_h3 p0a_h4 p0a_h5 p0a_h6 p0a_h7 p0a_h8 p0a_h9 p0a_h10 p0a_h11 => ?_
 subst hv9
 unfold dynamics_Size_p at hp
 refine zen Tryz.func23 ?_
 have C0 : St E0 w X w X [] := St.start hX
 refine zz 2 ?_
 refine zn pn (.cells #[.slice p0a1 p0.height.length p0a2, .slice p0a3 p0.own.length p0a4, .slice p0a5 p0.other.length p0a6, .slice p0a7 p0.advisories.length p0a8, .int .i64 p0.pull, .int .i64 p0.near, .int .i64 p0.steps, .slice p0a9 p0.ownNoise.length p0a10, .slice p0a11 p0.otherNoise.length p0a12, .bool p0.alert.neg, .slice p0a13 p0.alert.ln.length p0a14, .slice p0a15 p0.alert.ld.length p0a16, .bool p0.strengthen.neg, .slice p0a17 p0.strengthen.ln.length p0a18, .slice p0a19 p0.strengthen.ld.length p0a20, .bool p0.reversal.neg, .slice p0a21 p0.reversal.ln.length p0a22, .slice p0a23 p0.reversal.ld.length p0a24] 30 (0, 0)) C0 ?_
 intro b3 w3 Y3 C3 j3 hu3
 refine zz 7 ?_
 refine zo 0 C3 ?_
 refine bndk hp fun y5 hy5 hp => ?_
 refine zc C3 (dynamics_Check_c _ X0 (X0_lt _) p0 _ ((hVp0.mono j3).mono Le.x0) y5 hy5) ?_
 rintro v6 w6 C6 j6 hu6 rfl
 refine zz 9 ?_
 refine zb 8 (b := ((y5) != 0)) (fun hc7 => ?_) (fun hc7 => ?_)
 ·
  have hp := ipb hc7 hp
  refine zz 10 ?_
  refine zr' (v := .tuple #[.int .i64 0, .int .i64 y5]) ?_
  have hob := Option.some.inj hp
  subst hob
  exact ⟨C6.upd, _, rfl, rfl⟩
 have hp := iqb hc7 hp
 refine zz 5 ?_
 refine zo 0 C6 ?_
 refine bndk hp fun y9 hy9 hp => ?_
 refine zc C6 (dynamics_size_c _ X0 (X0_lt _) p0 _ ((hVp0.mono (Le2 j3 j6)).mono Le.x0) y9 hy9) ?_
 rintro v10 w10 C10 j10 hu10 rfl
 refine zz 5 ?_
 refine zr' (v := .tuple #[.int .i64 y9, .int .i64 0]) ?_
 have hob := Option.some.inj hp
 subst hob
 exact ⟨C10.upd, _, rfl, rfl⟩
noncomputable def dynamics_Number_p (p0 : ModelD) (p1 : Int) (p2 : Int) : Option (Int × Int) :=
  (dynamics_known_p p0 ([p2])).bind fun y7 => if ((y7) != 0) = true then (some (0, y7)) else (if (p1) < 0 then (some (0, 8)) else ((dynamics_size_p p0).bind fun y13 => grd ((p0.advisories.length : Int) ≠ 0) <| if (p1) ≥ (IntKind.i64.wrap (Int.tdiv y13 (p0.advisories.length : Int))) then (some (0, 8)) else (some (IntKind.i64.wrap ((IntKind.i64.wrap ((p1) * (p0.advisories.length : Int))) + p2), 0))))
theorem dynamics_Number_c (w : World) (X : Hid) (hX : ∀ k o, X k o → k < w.heap.size) (p0 : ModelD) (vp0 : Value) (hp0 : ModelDV (rd w X) vp0 p0) (p1 : Int) (p2 : Int) (y : Int × Int) (hp : dynamics_Number_p p0 p1 p2 = some y) : Calls Tryz.prog 24 #[vp0, .int .i64 p1, .int .i64 p2] w (Ret E0 w fun _ v => v = .tuple #[.int .i64 y.1, .int .i64 y.2]) := by
 have hVp0 := hp0
 refine ModelDV.op hp0 fun p0a1 p0a2 p0a3 p0a4 p0a5 p0a6 p0a7 p0a8 p0a9 p0a10 p0a11 p0a12 p0a13 p0a14 p0a15 p0a16 p0a17 p0a18 p0a19 p0a20 p0a21 p0a22 p0a23 p0a24 hv9 p0a_h0 p0a_h1 p0a_h2 p0a_h3 p0a_h4 p0a_h5 p0a_h6 p0a_h7 p0a_h8 p0a_h9 p0a_h10 p0a_h11 => ?_
 subst hv9
 unfold dynamics_Number_p at hp
 refine zen Tryz.func24 ?_
 have C0 : St E0 w X w X [] := St.start hX
 refine zz 2 ?_
 refine zn pn (.cells #[.slice p0a1 p0.height.length p0a2, .slice p0a3 p0.own.length p0a4, .slice p0a5 p0.other.length p0a6, .slice p0a7 p0.advisories.length p0a8, .int .i64 p0.pull, .int .i64 p0.near, .int .i64 p0.steps, .slice p0a9 p0.ownNoise.length p0a10, .slice p0a11 p0.otherNoise.length p0a12, .bool p0.alert.neg, .slice p0a13 p0.alert.ln.length p0a14, .slice p0a15 p0.alert.ld.length p0a16, .bool p0.strengthen.neg, .slice p0a17 p0.strengthen.ln.length p0a18, .slice p0a19 p0.strengthen.ld.length p0a20, .bool p0.reversal.neg, .slice p0a21 p0.reversal.ln.length p0a22, .slice p0a23 p0.reversal.ld.length p0a24] 30 (0, 0)) C0 ?_
 intro b3 w3 Y3 C3 j3 hu3
 refine zz 7 ?_
 refine zo 0 C3 ?_
 refine zz 1 ?_
 refine zn (fun b => .slice (some ⟨b, 0, none⟩) 1 1) (.cells #[.int .i64 p2] 3 (0, 0)) C3 ?_
 intro b5 w5 Y5 C5 j5 hu5
 refine bndk hp fun y7 hy7 hp => ?_
 refine zc C5 (dynamics_known_c _ X0 (X0_lt _) p0 _ ((hVp0.mono (Le2 j3 j5)).mono Le.x0) ([p2]) _ ⟨_, _, rfl, (SlR.lit (El := IntAt) (size := 1) (n := 1) [⟨(p2 : Int), [.int .i64 p2]⟩] (C5.at0 0 rfl rfl) (List.forall_mem_cons.2 ⟨⟨rfl, fun r2 h2 b o h9 => h9⟩, (List.forall_mem_nil _)⟩) rfl (by decide))⟩ y7 hy7) ?_ (vs := #[.agg #[.slice p0a1 p0.height.length p0a2, .slice p0a3 p0.own.length p0a4, .slice p0a5 p0.other.length p0a6, .slice p0a7 p0.advisories.length p0a8, .int .i64 p0.pull, .int .i64 p0.near, .int .i64 p0.steps, .slice p0a9 p0.ownNoise.length p0a10, .slice p0a11 p0.otherNoise.length p0a12, .bool p0.alert.neg, .slice p0a13 p0.alert.ln.length p0a14, .slice p0a15 p0.alert.ld.length p0a16, .bool p0.strengthen.neg, .slice p0a17 p0.strengthen.ln.length p0a18, .slice p0a19 p0.strengthen.ld.length p0a20, .bool p0.reversal.neg, .slice p0a21 p0.reversal.ln.length p0a22, .slice p0a23 p0.reversal.ld.length p0a24], .slice (some ⟨b5, 0, none⟩) 1 1])
 rintro v8 w8 C8 j8 hu8 rfl
 refine zz 11 ?_
 refine zb 13 (b := ((y7) != 0)) (fun hc9 => ?_) (fun hc9 => ?_)
 ·
  have hp := ipb hc9 hp
  refine zz 11 ?_
  refine zr' (v := .tuple #[.int .i64 0, .int .i64 y7]) ?_
  have hob := Option.some.inj hp
  subst hob
  exact ⟨C8.upd, _, rfl, rfl⟩
 have hp := iqb hc9 hp
 refine zz 2 ?_
 refine zdr C8 ?_
 refine gz [0, 1, 2] ?_
 refine gt 20 (p := (p1) < 0) (fun ht10 => ?_) (fun ht10 => ?_)
 ·
  have hp := ip ht10 hp
  refine gz [3, 4, 5, 6, 7, 8, 9, 10, 11, 12] ?_
  refine gend (fun w11 Y11 C11 j11 => ?_)
  refine zz 11 ?_
  refine zr' (v := .tuple #[.int .i64 0, .int .i64 8]) ?_
  have hob := Option.some.inj hp
  subst hob
  exact ⟨C11.upd, _, rfl, rfl⟩
 have hp := iq ht10 hp
 refine gz [3] ?_
 refine gw 4 1 ?_
 refine gz [6] ?_
 refine gw 7 1 ?_
 refine gz [8] ?_
 have hc1_ := (Le2 j3 j5).trans j8
 refine bndk hp fun y13 hy13 hp => ?_
 refine gC 5 (fun w12 Y12 _ C12 j12 => (dynamics_size_c _ X0 (X0_lt _) p0 _ ((hVp0.mono (hc1_.trans j12)).mono Le.x0) y13 hy13)) ?_
 rintro v14 w12 Y14 w14 C12 j14 rfl
 have hob := grdp hp
 obtain ⟨hg15, hp⟩ := hob
 refine gH (v := .int .i64 (IntKind.i64.wrap (Int.tdiv y13 (p0.advisories.length : Int)))) 9 (fun w => run_quoV (a := y13) (b := (p0.advisories.length : Int)) rfl kr kr hg15 _) ?_
 refine gz [10, 11, 12] ?_
 refine gend (fun w16 Y16 C16 j16 => ?_)
 refine zz 1 ?_
 refine zt 17 (p := (p1) ≥ (IntKind.i64.wrap (Int.tdiv y13 (p0.advisories.length : Int)))) (fun ht17 => ?_) (fun ht17 => ?_)
 ·
  have hp := ip ht17 hp
  refine zz 10 ?_
  refine zr' (v := .tuple #[.int .i64 0, .int .i64 8]) ?_
  have hob := Option.some.inj hp
  subst hob
  exact ⟨C16.upd, _, rfl, rfl⟩
 have hp := iq ht17 hp
 refine zz 8 ?_
 refine zo 1 C16 ?_
 refine zz 9 ?_
 refine zr' (v := .tuple #[.int .i64 (IntKind.i64.wrap ((IntKind.i64.wrap ((p1) * (p0.advisories.length : Int))) + p2)), .int .i64 0]) ?_
 have hob := Option.some.inj hp
 subst hob
 exact ⟨C16.upd, _, rfl, rfl⟩
noncomputable def dynamics_Split_p (p0 : ModelD) (p1 : Int) : Option (Int × Int × Int) :=
  (dynamics_Check_p p0).bind fun y5 => if ((y5) != 0) = true then (some (0, 0, y5)) else (if (p1) < 0 then (some (0, 0, 8)) else ((dynamics_size_p p0).bind fun y10 => if (p1) ≥ y10 then (some (0, 0, 8)) else (grd ((p0.advisories.length : Int) ≠ 0) <| grd ((p0.advisories.length : Int) ≠ 0) <| some (IntKind.i64.wrap (Int.tdiv p1 (p0.advisories.length : Int)), Int.tmod p1 (p0.advisories.length : Int), 0))))
theorem dynamics_Split_c (w : World) (X : Hid) (hX : ∀ k o, X k o → k < w.heap.size) (p0 : ModelD) (vp0 : Value) (hp0 : ModelDV (rd w X) vp0 p0) (p1 : Int) (y : Int × Int × Int) (hp : dynamics_Split_p p0 p1 = some y) : Calls Tryz.prog 13 #[vp0, .int .i64 p1] w (Ret E0 w fun _ v => v = .tuple #[.int .i64 y.1, .int .i64 y.2.1, .int .i64 y.2.2]) := by
 have hVp0 := hp0
 refine ModelDV.op hp0 fun p0a1 p0a2 p0a3 p0a4 p0a5 p0a6 p0a7 p0a8 p0a9 p0a10 p0a11 p0a12 p0a13 p0a14 p0a15 p0a16 p0a17 p0a18 p0a19 p0a20 p0a21 p0a22 p0a23 p0a24 hv9 p0a_h0 p0a_h1 p0a_h2 p0a_h3 p0a_h4 p0a_h5 p0a_h6 p0a_h7 p0a_h8 p0a_h9 p0a_h10 p0a_h11 => ?_
 subst hv9
 unfold dynamics_Split_p at hp
 refine zen Tryz.func13 ?_
 have C0 : St E0 w X w X [] := St.start hX
 refine zz 2 ?_
 refine zn pn (.cells #[.slice p0a1 p0.height.length p0a2, .slice p0a3 p0.own.length p0a4, .slice p0a5 p0.other.length p0a6, .slice p0a7 p0.advisories.length p0a8, .int .i64 p0.pull, .int .i64 p0.near, .int .i64 p0.steps, .slice p0a9 p0.ownNoise.length p0a10, .slice p0a11 p0.otherNoise.length p0a12, .bool p0.alert.neg, .slice p0a13 p0.alert.ln.length p0a14, .slice p0a15 p0.alert.ld.length p0a16, .bool p0.strengthen.neg, .slice p0a17 p0.strengthen.ln.length p0a18, .slice p0a19 p0.strengthen.ld.length p0a20, .bool p0.reversal.neg, .slice p0a21 p0.reversal.ln.length p0a22, .slice p0a23 p0.reversal.ld.length p0a24] 30 (0, 0)) C0 ?_
 intro b3 w3 Y3 C3 j3 hu3
 refine zz 8 ?_
 refine zo 0 C3 ?_
 refine bndk hp fun y5 hy5 hp => ?_
 refine zc C3 (dynamics_Check_c _ X0 (X0_lt _) p0 _ ((hVp0.mono j3).mono Le.x0) y5 hy5) ?_
 rintro v6 w6 C6 j6 hu6 rfl
 refine zz 11 ?_
 refine zb 10 (b := ((y5) != 0)) (fun hc7 => ?_) (fun hc7 => ?_)
 ·
  have hp := ipb hc7 hp
  refine zz 12 ?_
  refine zr' (v := .tuple #[.int .i64 0, .int .i64 0, .int .i64 y5]) ?_
  have hob := Option.some.inj hp
  subst hob
  exact ⟨C6.upd, _, rfl, rfl⟩
 have hp := iqb hc7 hp
 refine zz 6 ?_
 refine zt 17 (p := (p1) < 0) (fun ht8 => ?_) (fun ht8 => ?_)
 ·
  have hp := ip ht8 hp
  refine zz 19 ?_
  refine zr' (v := .tuple #[.int .i64 0, .int .i64 0, .int .i64 8]) ?_
  have hob := Option.some.inj hp
  subst hob
  exact ⟨C6.upd, _, rfl, rfl⟩
 have hp := iq ht8 hp
 refine zz 1 ?_
 refine zo 0 C6 ?_
 refine bndk hp fun y10 hy10 hp => ?_
 refine zc C6 (dynamics_size_c _ X0 (X0_lt _) p0 _ ((hVp0.mono (Le2 j3 j6)).mono Le.x0) y10 hy10) ?_
 rintro v11 w11 C11 j11 hu11 rfl
 refine zz 5 ?_
 refine zt 14 (p := (p1) ≥ y10) (fun ht12 => ?_) (fun ht12 => ?_)
 ·
  have hp := ip ht12 hp
  refine zz 11 ?_
  refine zr' (v := .tuple #[.int .i64 0, .int .i64 0, .int .i64 8]) ?_
  have hob := Option.some.inj hp
  subst hob
  exact ⟨C11.upd, _, rfl, rfl⟩
 have hp := iq ht12 hp
 refine zz 5 ?_
 refine zdr C11 ?_
 refine gz [0, 1] ?_
 refine gw 2 0 ?_
 refine gz [3] ?_
 have hob := grdp hp
 obtain ⟨hg13, hp⟩ := hob
 refine gH (v := .int .i64 (IntKind.i64.wrap (Int.tdiv p1 (p0.advisories.length : Int)))) 4 (fun w => run_quoV (a := p1) (b := (p0.advisories.length : Int)) rfl kr kr hg13 _) ?_
 refine gz [5, 6] ?_
 refine gw 7 0 ?_
 refine gz [8] ?_
 have hob := grdp hp
 obtain ⟨hg14, hp⟩ := hob
 refine gH (v := .int .i64 (Int.tmod p1 (p0.advisories.length : Int))) 9 (fun w => run_remV (a := p1) (b := (p0.advisories.length : Int)) rfl kr kr hg14 _) ?_
 refine gz [10, 11, 12] ?_
 refine gend (fun w15 Y15 C15 j15 => ?_)
 refine zz 2 ?_
 refine zr' (v := .tuple #[.int .i64 (IntKind.i64.wrap (Int.tdiv p1 (p0.advisories.length : Int))), .int .i64 (Int.tmod p1 (p0.advisories.length : Int)), .int .i64 0]) ?_
 have hob := Option.some.inj hp
 subst hob
 exact ⟨C15.upd, _, rfl, rfl⟩
noncomputable def dynamics_respond_p (p0 : ModelD) (p1 : Int) (p2 : Int) : Option (Int) :=
  (ix p0.advisories (p2)).bind fun x4 => if ((p2) == 0) = true then (some p1) else (if (p1) < x4.lo then ((some (if (x4.lo) < (IntKind.i64.wrap ((p1) + p0.pull)) then x4.lo else IntKind.i64.wrap ((p1) + p0.pull))).bind fun z11 => some z11) else (if (p1) > x4.hi then ((some (if (x4.hi) > (IntKind.i64.wrap ((p1) - p0.pull)) then x4.hi else IntKind.i64.wrap ((p1) - p0.pull))).bind fun z13 => some z13) else (some p1)))
theorem dynamics_respond_c (w : World) (X : Hid) (hX : ∀ k o, X k o → k < w.heap.size) (p0 : ModelD) (vp0 : Value) (hp0 : ModelDV (rd w X) vp0 p0) (p1 : Int) (p2 : Int) (y : Int) (hp : dynamics_respond_p p0 p1 p2 = some y) : Calls Tryz.prog 68 #[vp0, .int .i64 p1, .int .i64 p2] w (Ret E0 w fun _ v => v = .int .i64 y) := by
 have hVp0 := hp0
 refine ModelDV.op hp0 fun p0a1 p0a2 p0a3 p0a4 p0a5 p0a6 p0a7 p0a8 p0a9 p0a10 p0a11 p0a12 p0a13 p0a14 p0a15 p0a16 p0a17 p0a18 p0a19 p0a20 p0a21 p0a22 p0a23 p0a24 hv9 p0a_h0 p0a_h1 p0a_h2 p0a_h3 p0a_h4 p0a_h5 p0a_h6 p0a_h7 p0a_h8 p0a_h9 p0a_h10 p0a_h11 => ?_
 subst hv9
 unfold dynamics_respond_p at hp
 refine zen Tryz.func68 ?_
 have C0 : St E0 w X w X [] := St.start hX
 refine zz 2 ?_
 refine zn pn (.cells #[.slice p0a1 p0.height.length p0a2, .slice p0a3 p0.own.length p0a4, .slice p0a5 p0.other.length p0a6, .slice p0a7 p0.advisories.length p0a8, .int .i64 p0.pull, .int .i64 p0.near, .int .i64 p0.steps, .slice p0a9 p0.ownNoise.length p0a10, .slice p0a11 p0.otherNoise.length p0a12, .bool p0.alert.neg, .slice p0a13 p0.alert.ln.length p0a14, .slice p0a15 p0.alert.ld.length p0a16, .bool p0.strengthen.neg, .slice p0a17 p0.strengthen.ln.length p0a18, .slice p0a19 p0.strengthen.ld.length p0a20, .bool p0.reversal.neg, .slice p0a21 p0.reversal.ln.length p0a22, .slice p0a23 p0.reversal.ld.length p0a24] 30 (0, 0)) C0 ?_
 intro b3 w3 Y3 C3 j3 hu3
 refine zz 7 ?_
 refine zo 0 C3 ?_
 refine zz 1 ?_
 refine bndk hp fun x4 hx4 hp => ?_
 have hob := ix_some hx4
 obtain ⟨hzx4, hqx4⟩ := hob
 have hob := p0a_h3.opn hqx4
 obtain ⟨be5, oe5, rfl, j5, hEe5⟩ := hob
 have e5_at : At (rd w X) ⟨be5, oe5 + (p2).toNat * 3, none⟩ [.int .u8 x4.sense, .int .i64 x4.lo, .int .i64 x4.hi] := hEe5
 refine zi (b := be5) (off := oe5) (len := p0.advisories.length) (cap := p0a8) (kd := .i64) (i := p2) 3 (oe5 + (p2).toNat * 3) ?_ (h0 := hzx4) (h1 := (ix_b hzx4 j5))
 refine zl ((e5_at.mono j3)).cells ?_
 refine zn pn (.cells #[.int .u8 0, .int .i64 0, .int .i64 0] 60 (0, 0)) C3 ?_
 intro b7 w7 Y7 C7 j7 hu7
 refine zx 0 #[.int .u8 x4.sense, .int .i64 x4.lo, .int .i64 x4.hi] C7 ?_
 intro w8 C8 j8
 refine zz 10 ?_
 refine zb 13 (b := ((p2) == 0)) (fun hc9 => ?_) (fun hc9 => ?_)
 ·
  have hp := ipb hc9 hp
  refine zz 10 ?_
  refine zr' (v := .int .i64 p1) ?_
  have hob := Option.some.inj hp
  subst hob
  exact ⟨C8.upd, _, rfl, rfl⟩
 have hp := iqb hc9 hp
 refine zz 5 ?_
 refine zo 0 C8 ?_
 refine zz 4 ?_
 refine zt 17 (p := (p1) < x4.lo) (fun ht10 => ?_) (fun ht10 => ?_)
 ·
  have hp := ip ht10 hp
  refine zz 5 ?_
  refine zo 1 C8 ?_
  refine zz 2 ?_
  refine zo 0 C8 ?_
  refine bndk hp fun z11 hz11 hp => ?_
  refine zz 1 ?_
  refine zs 28 (v := .int .i64 (if (x4.lo) < (IntKind.i64.wrap ((p1) + p0.pull)) then x4.lo else IntKind.i64.wrap ((p1) + p0.pull))) (v' := .int .i64 z11) (vint (Option.some.inj hz11)) ?_
  refine zz 6 ?_
  refine zr' (v := .int .i64 z11) ?_
  have hob := Option.some.inj hp
  subst hob
  exact ⟨C8.upd, _, rfl, rfl⟩
 have hp := iq ht10 hp
 refine zz 5 ?_
 refine zo 0 C8 ?_
 refine zz 4 ?_
 refine zt 29 (p := (p1) > x4.hi) (fun ht12 => ?_) (fun ht12 => ?_)
 ·
  have hp := ip ht12 hp
  refine zz 5 ?_
  refine zo 1 C8 ?_
  refine zz 2 ?_
  refine zo 0 C8 ?_
  refine bndk hp fun z13 hz13 hp => ?_
  refine zz 1 ?_
  refine zs 40 (v := .int .i64 (if (x4.hi) > (IntKind.i64.wrap ((p1) - p0.pull)) then x4.hi else IntKind.i64.wrap ((p1) - p0.pull))) (v' := .int .i64 z13) (vint (Option.some.inj hz13)) ?_
  refine zz 6 ?_
  refine zr' (v := .int .i64 z13) ?_
  have hob := Option.some.inj hp
  subst hob
  exact ⟨C8.upd, _, rfl, rfl⟩
 have hp := iq ht12 hp
 refine zz 11 ?_
 refine zr' (v := .int .i64 p1) ?_
 have hob := Option.some.inj hp
 subst hob
 exact ⟨C8.upd, _, rfl, rfl⟩
noncomputable def dynamics_Respond_p (p0 : ModelD) (p1 : Int) (p2 : Int) : Option (Int × Int) :=
  (dynamics_Check_p p0).bind fun y5 => if ((y5) != 0) = true then (some (0, y5)) else ((dynamics_within_p (100 : Int)).bind fun y9 => (dynamics_within_1_p ([p1]) y9).bind fun y14 => if (!y14) = true then (some (0, 1)) else ((dynamics_known_p p0 ([p2])).bind fun y20 => if ((y20) != 0) = true then (some (0, y20)) else ((dynamics_respond_p p0 (p1) (p2)).bind fun y24 => some (y24, 0))))
theorem dynamics_Respond_c (w : World) (X : Hid) (hX : ∀ k o, X k o → k < w.heap.size) (p0 : ModelD) (vp0 : Value) (hp0 : ModelDV (rd w X) vp0 p0) (p1 : Int) (p2 : Int) (y : Int × Int) (hp : dynamics_Respond_p p0 p1 p2 = some y) : Calls Tryz.prog 25 #[vp0, .int .i64 p1, .int .i64 p2] w (Ret E0 w fun _ v => v = .tuple #[.int .i64 y.1, .int .i64 y.2]) := by
 have hVp0 := hp0
 refine ModelDV.op hp0 fun p0a1 p0a2 p0a3 p0a4 p0a5 p0a6 p0a7 p0a8 p0a9 p0a10 p0a11 p0a12 p0a13 p0a14 p0a15 p0a16 p0a17 p0a18 p0a19 p0a20 p0a21 p0a22 p0a23 p0a24 hv9 p0a_h0 p0a_h1 p0a_h2 p0a_h3 p0a_h4 p0a_h5 p0a_h6 p0a_h7 p0a_h8 p0a_h9 p0a_h10 p0a_h11 => ?_
 subst hv9
 unfold dynamics_Respond_p at hp
 refine zen Tryz.func25 ?_
 have C0 : St E0 w X w X [] := St.start hX
 refine zz 2 ?_
 refine zn pn (.cells #[.slice p0a1 p0.height.length p0a2, .slice p0a3 p0.own.length p0a4, .slice p0a5 p0.other.length p0a6, .slice p0a7 p0.advisories.length p0a8, .int .i64 p0.pull, .int .i64 p0.near, .int .i64 p0.steps, .slice p0a9 p0.ownNoise.length p0a10, .slice p0a11 p0.otherNoise.length p0a12, .bool p0.alert.neg, .slice p0a13 p0.alert.ln.length p0a14, .slice p0a15 p0.alert.ld.length p0a16, .bool p0.strengthen.neg, .slice p0a17 p0.strengthen.ln.length p0a18, .slice p0a19 p0.strengthen.ld.length p0a20, .bool p0.reversal.neg, .slice p0a21 p0.reversal.ln.length p0a22, .slice p0a23 p0.reversal.ld.length p0a24] 30 (0, 0)) C0 ?_
 intro b3 w3 Y3 C3 j3 hu3
 refine zz 7 ?_
 refine zo 0 C3 ?_
 refine bndk hp fun y5 hy5 hp => ?_
 refine zc C3 (dynamics_Check_c _ X0 (X0_lt _) p0 _ ((hVp0.mono j3).mono Le.x0) y5 hy5) ?_
 rintro v6 w6 C6 j6 hu6 rfl
 refine zz 11 ?_
 refine zb 12 (b := ((y5) != 0)) (fun hc7 => ?_) (fun hc7 => ?_)
 ·
  have hp := ipb hc7 hp
  refine zz 11 ?_
  refine zr' (v := .tuple #[.int .i64 0, .int .i64 y5]) ?_
  have hob := Option.some.inj hp
  subst hob
  exact ⟨C6.upd, _, rfl, rfl⟩
 have hp := iqb hc7 hp
 refine zz 3 ?_
 refine bndk hp fun y9 hy9 hp => ?_
 refine zc C6 (dynamics_within_c _ X0 (X0_lt _) (100 : Int) y9 hy9) ?_
 rintro v10 w10 C10 j10 hu10 ⟨u10_0_b0, u10_0_b1, rfl, u10_0_h0, u10_0_h1⟩
 have hAu10_0_b0 : At (rd w10 Y3) ⟨u10_0_b0, 0, none⟩ [.func (.func 71) #[] #[]] := (At.mono (Le.new C6.lt) u10_0_h0)
 have hAu10_0_b1 : At (rd w10 Y3) ⟨u10_0_b1, 0, none⟩ [.int .i64 y9] := (At.mono (Le.new C6.lt) u10_0_h1)
 refine zz 1 ?_
 refine zn (fun b => .slice (some ⟨b, 0, none⟩) 1 1) (.cells #[.int .i64 p1] 3 (0, 0)) C10 ?_
 intro b12 w12 Y12 C12 j12 hu12
 refine bndk hp fun y14 hy14 hp => ?_
 refine zc C12 (dynamics_within_1_c _ X0 (X0_lt _) ([p1]) _ ⟨_, _, rfl, (SlR.lit (El := IntAt) (size := 1) (n := 1) [⟨(p1 : Int), [.int .i64 p1]⟩] (C12.at0 0 rfl rfl) (List.forall_mem_cons.2 ⟨⟨rfl, fun r2 h2 b o h9 => h9⟩, (List.forall_mem_nil _)⟩) rfl (by decide))⟩ _ ((hAu10_0_b0.mono j12).mono Le.x0) y9 _ ((hAu10_0_b1.mono j12).mono Le.x0) y14 hy14) ?_ (vs := #[.slice (some ⟨b12, 0, none⟩) 1 1, .pointer (some ⟨u10_0_b0, 0, none⟩), .pointer (some ⟨u10_0_b1, 0, none⟩)])
 rintro v15 w15 C15 j15 hu15 rfl
 refine zz 4 ?_
 refine zb 16 (b := !y14) (fun hc16 => ?_) (fun hc16 => ?_)
 ·
  have hp := ipb hc16 hp
  refine zz 10 ?_
  refine zr' (v := .tuple #[.int .i64 0, .int .i64 1]) ?_
  have hob := Option.some.inj hp
  subst hob
  exact ⟨C15.upd, _, rfl, rfl⟩
 have hp := iqb hc16 hp
 refine zz 7 ?_
 refine zo 1 C15 ?_
 refine zz 1 ?_
 refine zn (fun b => .slice (some ⟨b, 0, none⟩) 1 1) (.cells #[.int .i64 p2] 3 (0, 0)) C15 ?_
 intro b18 w18 Y18 C18 j18 hu18
 have hc1_ := (Le5 j3 j6 j10 j12 j15).trans j18
 refine bndk hp fun y20 hy20 hp => ?_
 refine zc C18 (dynamics_known_c _ X0 (X0_lt _) p0 _ ((hVp0.mono hc1_).mono Le.x0) ([p2]) _ ⟨_, _, rfl, (SlR.lit (El := IntAt) (size := 1) (n := 1) [⟨(p2 : Int), [.int .i64 p2]⟩] (C18.at0 0 rfl rfl) (List.forall_mem_cons.2 ⟨⟨rfl, fun r2 h2 b o h9 => h9⟩, (List.forall_mem_nil _)⟩) rfl (by decide))⟩ y20 hy20) ?_ (vs := #[.agg #[.slice p0a1 p0.height.length p0a2, .slice p0a3 p0.own.length p0a4, .slice p0a5 p0.other.length p0a6, .slice p0a7 p0.advisories.length p0a8, .int .i64 p0.pull, .int .i64 p0.near, .int .i64 p0.steps, .slice p0a9 p0.ownNoise.length p0a10, .slice p0a11 p0.otherNoise.length p0a12, .bool p0.alert.neg, .slice p0a13 p0.alert.ln.length p0a14, .slice p0a15 p0.alert.ld.length p0a16, .bool p0.strengthen.neg, .slice p0a17 p0.strengthen.ln.length p0a18, .slice p0a19 p0.strengthen.ld.length p0a20, .bool p0.reversal.neg, .slice p0a21 p0.reversal.ln.length p0a22, .slice p0a23 p0.reversal.ld.length p0a24], .slice (some ⟨b18, 0, none⟩) 1 1])
 rintro v21 w21 C21 j21 hu21 rfl
 refine zz 9 ?_
 refine zb 27 (b := ((y20) != 0)) (fun hc22 => ?_) (fun hc22 => ?_)
 ·
  have hp := ipb hc22 hp
  refine zz 10 ?_
  refine zr' (v := .tuple #[.int .i64 0, .int .i64 y20]) ?_
  have hob := Option.some.inj hp
  subst hob
  exact ⟨C21.upd, _, rfl, rfl⟩
 have hp := iqb hc22 hp
 refine zz 5 ?_
 refine zo 2 C21 ?_
 refine zz 2 ?_
 have hc2_ := hc1_.trans j21
 refine bndk hp fun y24 hy24 hp => ?_
 refine zc C21 (dynamics_respond_c _ X0 (X0_lt _) p0 _ ((hVp0.mono hc2_).mono Le.x0) (p1) (p2) y24 hy24) ?_
 rintro v25 w25 C25 j25 hu25 rfl
 refine zz 5 ?_
 refine zr' (v := .tuple #[.int .i64 y24, .int .i64 0]) ?_
 have hob := Option.some.inj hp
 subst hob
 exact ⟨C25.upd, _, rfl, rfl⟩
noncomputable def clearwaylaw24_inside_p (p0 : List Int) (p1 : Int) (p2 : Int) : Option (Bool) :=
  (ix p0 (0 : Int)).bind fun x2 => if (p1) ≥ x2 then ((ix p0 (IntKind.i64.wrap ((p0.length : Int) - 1))).bind fun x5 => some (decide ((p2) ≤ x5))) else (some false)
theorem clearwaylaw24_inside_c (w : World) (X : Hid) (hX : ∀ k o, X k o → k < w.heap.size) (p0 : List Int) (vp0 : Value) (hp0 : SV Ints (rd w X) vp0 p0) (p1 : Int) (p2 : Int) (y : Bool) (hp : clearwaylaw24_inside_p p0 p1 p2 = some y) : Calls Tryz.prog 38 #[vp0, .int .i64 p1, .int .i64 p2] w (Ret E0 w fun _ v => v = .bool y) := by
 obtain ⟨p0a1, p0a2, rfl, p0a_h0⟩ := hp0
 unfold clearwaylaw24_inside_p at hp
 refine zen Tryz.func38 ?_
 have C0 : St E0 w X w X [] := St.start hX
 refine zz 9 ?_
 refine bndk hp fun x2 hx2 hp => ?_
 have hob := ix_some hx2
 obtain ⟨hzx2, hqx2⟩ := hob
 have hwx2 : p0[0]? = some x2 := hqx2
 have hob := p0a_h0.opn hwx2
 obtain ⟨be3, oe3, rfl, j3, hEe3⟩ := hob
 have hAe3 : At (rd w X) ⟨be3, oe3 + 0 * 1, none⟩ [.int .i64 x2] := hEe3
 refine zi (b := be3) (off := oe3) (len := p0.length) (cap := p0a2) (kd := .i64) (i := 0) 1 (oe3 + 0 * 1) ?_ (h0 := hzx2) (h1 := (ix_b hzx2 j3))
 refine zl (hAe3).cells ?_
 refine zz 2 ?_
 refine zt 12 (p := (p1) ≥ x2) (fun ht4 => ?_) (fun ht4 => ?_)
 ·
  have hp := ip ht4 hp
  refine zz 5 ?_
  refine bndk hp fun x5 hx5 hp => ?_
  have hob := ix_some hx5
  obtain ⟨hzx5, hqx5⟩ := hob
  have hob := p0a_h0.opn2 hqx5
  obtain ⟨j6, hEe6⟩ := hob
  have hAe6 : At (rd w X) ⟨be3, oe3 + (IntKind.i64.wrap ((p0.length : Int) - 1)).toNat * 1, none⟩ [.int .i64 x5] := hEe6
  refine zi (b := be3) (off := oe3) (len := p0.length) (cap := p0a2) (kd := .i64) (i := IntKind.i64.wrap ((p0.length : Int) - 1)) 1 (oe3 + (IntKind.i64.wrap ((p0.length : Int) - 1)).toNat * 1) ?_ (h0 := hzx5) (h1 := (ix_b hzx5 j6))
  refine zl (hAe6).cells ?_
  refine zz 6 ?_
  refine zr' (v := .bool (decide ((p2) ≤ x5))) ?_
  have hob := Option.some.inj hp
  subst hob
  exact ⟨C0.upd, _, rfl, rfl⟩
 have hp := iq ht4 hp
 refine zz 13 ?_
 refine zr' (v := .bool false) ?_
 have hob := Option.some.inj hp
 subst hob
 exact ⟨C0.upd, _, rfl, rfl⟩
noncomputable def clearwaylaw24_turned_l5 (p0 : List Int) (J2 : (List Int) → Option ((List Int))) : Nat → (List Int) → Int → Option ((List Int))
  | 0, _, _ => none
  | n5 + 1, v5_0, v5_1 => if (v5_1) ≥ 0 then ((ix p0 (v5_1)).bind fun x7 => grd ((v5_0.length + 1) * 8 ≤ 140737488355328) <| clearwaylaw24_turned_l5 p0 J2 n5 (v5_0 ++ [IntKind.i64.wrap ((0 : Int) - x7)]) (IntKind.i64.wrap ((v5_1) - 1))) else (J2 v5_0)
noncomputable def clearwaylaw24_turned_p (p0 : List Int) : Option ((List Int)) :=
  lt (fun (v2_0 : List Int) => some v2_0) fun J2 => clearwaylaw24_turned_l5 p0 J2 (p0.length + 1) ([] : List Int) (IntKind.i64.wrap ((p0.length : Int) - 1))
theorem clearwaylaw24_turned_c (w : World) (X : Hid) (hX : ∀ k o, X k o → k < w.heap.size) (p0 : List Int) (vp0 : Value) (hp0 : SV Ints (rd w X) vp0 p0) (y : (List Int)) (hp : clearwaylaw24_turned_p p0 = some y) : Calls Tryz.prog 55 #[vp0] w (Ret E0 w fun w' v => SV Ints (rd w' (old w)) v y) := by
 obtain ⟨p0a1, p0a2, rfl, p0a_h0⟩ := hp0
 unfold clearwaylaw24_turned_p at hp
 refine zen Tryz.func55 ?_
 have C0 : St E0 w X w X [] := St.start hX
 refine zz 10 ?_
 have hob := ltd1 hp
 obtain ⟨J2, hJ2, hp⟩ := hob
 refine zjoin (fun ((v2_0, rb2_0, ad2_0, m2_0, cap2_0) : (List Int) × (List (Nat × Obj)) × (Option Addr) × Nat × Nat) => [(3, .slice ad2_0 m2_0 cap2_0)]) (fun ((v2_0, rb2_0, ad2_0, m2_0, cap2_0) : (List Int) × (List (Nat × Obj)) × (Option Addr) × Nat × Nat) w1 => ∃ Y1 : Hid, St E0 w X w1 Y1 (rb2_0) ∧ Le (rd w X) (rd w1 Y1) ∧ GRow IntCs 3 1 (rd w1 (orN Y1 w.heap.size)) rb2_0 ad2_0 m2_0 cap2_0 v2_0 ∧ J2 v2_0 = some y) ?_ ?_
 ·
  rintro ⟨v2_0, rb2_0, ad2_0, m2_0, cap2_0⟩ w2 ⟨Y2, C2, j2, hfv2_0_0, hp⟩
  have hp := (hJ2 _).symm.trans hp
  refine zz 7 ?_
  refine zr' (v := .slice ad2_0 m2_0 cap2_0) ?_
  have hob := St.pubGRN (A := []) (B := []) (fun rb => (rb)) C2 (fun _ => by simp only [List.append_assoc, List.cons_append, List.nil_append, List.append_nil]) hfv2_0_0 (Nat.le_refl _) IntCs.at
  obtain ⟨Y3, hSx3, j3, hRx3⟩ := hob
  have C3 : St E0 w X w2 Y3 [] := hSx3
  have hob := hRx3.hlen
  subst hob
  have hR3 : Ints (rd w2 (orN Y3 w.heap.size)) ad2_0 v2_0.length cap2_0 v2_0 := hRx3
  have hob := Option.some.inj hp
  subst hob
  exact ⟨C3.upd, _, rfl, ⟨_, _, rfl, ((hR3.mono (Le.or (Le.refl _) _))).mono Le.orr⟩⟩
 intro K4 H4
 refine zz 9 ?_
 refine zlp Tryz.f55 [K4] [1, 1, 9, 1, 0] (fun ((n5, v5_0, v5_1, rb5_0, ad5_0, m5_0, cap5_0) : Nat × (List Int) × Int × (List (Nat × Obj)) × (Option Addr) × Nat × Nat) => [(0, .slice p0a1 p0.length p0a2), (3, .slice ad5_0 m5_0 cap5_0), (4, .int .i64 v5_1)]) (fun ((n5, v5_0, v5_1, rb5_0, ad5_0, m5_0, cap5_0) : Nat × (List Int) × Int × (List (Nat × Obj)) × (Option Addr) × Nat × Nat) w1 => ∃ Y1 : Hid, St E0 w X w1 Y1 (rb5_0) ∧ Le (rd w X) (rd w1 Y1) ∧ GRow IntCs 3 1 (rd w1 (orN Y1 w.heap.size)) rb5_0 ad5_0 m5_0 cap5_0 v5_0 ∧ clearwaylaw24_turned_l5 p0 J2 n5 v5_0 v5_1 = some y) (fun ((n5, v5_0, v5_1, rb5_0, ad5_0, m5_0, cap5_0) : Nat × (List Int) × Int × (List (Nat × Obj)) × (Option Addr) × Nat × Nat) => n5) ((p0.length + 1), ([] : List Int), IntKind.i64.wrap ((p0.length : Int) - 1), [], none, 0, 0) ?_ ?_
 ·
  exact ⟨_, C0, Le.refl _, GRow.nil, hp⟩
 rintro ⟨n5, v5_0, v5_1, rb5_0, ad5_0, m5_0, cap5_0⟩ w5 K5 H5 ⟨Y5, C5, j5, hfv5_0_0, hp⟩
 obtain _ | n5 := n5
 ·
  rw [clearwaylaw24_turned_l5] at hp; cases hp
 rw [clearwaylaw24_turned_l5] at hp
 refine zz 7 ?_
 refine zt 9 (p := (v5_1) ≥ 0) (fun ht6 => ?_) (fun ht6 => ?_)
 ·
  have hp := ip ht6 hp
  refine zz 9 ?_
  refine bndk hp fun x7 hx7 hp => ?_
  have hob := ix_some hx7
  obtain ⟨hzx7, hqx7⟩ := hob
  have hob := p0a_h0.opn hqx7
  obtain ⟨be8, oe8, rfl, j8, hEe8⟩ := hob
  have hAe8 : At (rd w X) ⟨be8, oe8 + (v5_1).toNat * 1, none⟩ [.int .i64 x7] := hEe8
  refine zi (b := be8) (off := oe8) (len := p0.length) (cap := p0a2) (kd := .i64) (i := v5_1) 1 (oe8 + (v5_1).toNat * 1) ?_ (h0 := hzx7) (h1 := (ix_b hzx7 j8))
  refine zl ((hAe8.mono j5)).cells ?_
  refine zz 1 ?_
  refine zn (fun b => .slice (some ⟨b, 0, none⟩) 1 1) (.cells #[.int .i64 (IntKind.i64.wrap ((0 : Int) - x7))] 3 (0, 0)) C5 ?_
  intro b10 w10 Y10 C10 j10 hu10
  have hob := grdp hp
  obtain ⟨hg12, hp⟩ := hob
  have hln13 : m5_0 = v5_0.length := GRow.len hfv5_0_0
  have hob := (hfv5_0_0.mono (Le.or j10 _))
  obtain ⟨es13, hr13, hq13, hk13, hm13⟩ := hob
  refine zop (at1 [K4, K5] Tryz.f55 [1, 1, 9, 1, 0, 0, 1, 0, 0]) 7 (fun a11 _ G11 hz11 => op_appEZ (b := 8) (m := 1) (c := 1) (ad := ⟨b10, 0, none⟩) (news := [.int .i64 (IntKind.i64.wrap ((0 : Int) - x7))]) (i0 := Tryz.t3) (rb := rb5_0) (R1 := []) 1 G11 C10 rfl hr13 (C10.cells 0 rfl rfl) (app_b1 hg12 hln13 rfl) (app_b2 hg12 hln13) ?_)
  intro rb14 ad14 cap14 w14 Y14 hrow14 C14 j14 a15 G15
  have hg14 : GRow IntCs 3 1 (rd w14 (orN Y14 w.heap.size)) rb14 ad14 (m5_0 + 1) cap14 (v5_0 ++ [IntKind.i64.wrap ((0 : Int) - x7)]) := GRow.snoc hrow14 hq13 hk13 hm13 (Le.or j14 _) ⟨rfl, fun r2 h2 => rfl⟩
  refine hz11 G15 ?_
  refine zz 9 ?_
  refine znext (fun a h => H5 (n5, (v5_0 ++ [IntKind.i64.wrap ((0 : Int) - x7)]), IntKind.i64.wrap ((v5_1) - 1), rb14, ad14, (m5_0 + 1), cap14) _ a h ⟨_, C14.tail, (Le3 j5 j10 j14), hg14, hp⟩ ?_)
  exact Nat.lt_succ_self _
 have hp := iq ht6 hp
 refine zz 5 ?_
 exact znext (fun a h => H4 (v5_0, rb5_0, ad5_0, m5_0, cap5_0) _ a h ⟨_, C5, j5, hfv5_0_0, hp⟩)
noncomputable def clearwaylaw24_mean_l10 (J7 : Raw → Option (Raw)) : List NoiseD → Raw → Option (Raw)
  | [], v10_1 => J7 v10_1
  | x10 :: r10, v10_1 => (rat_From_p (x10.delta)).bind fun y14 => (rat_Mul_p x10.p y14).bind fun y17 => (rat_Add_p v10_1 y17.1).bind fun y23 => clearwaylaw24_mean_l10 J7 r10 y23.1
noncomputable def clearwaylaw24_mean_p (p0 : List NoiseD) : Option (Raw) :=
  lt (fun (v7_0 : Raw) => some v7_0) fun J7 => clearwaylaw24_mean_l10 J7 (p0.drop 0)  Raw.zero
theorem clearwaylaw24_mean_c (w : World) (X : Hid) (hX : ∀ k o, X k o → k < w.heap.size) (p0 : List NoiseD) (vp0 : Value) (hp0 : SV NoiseDS (rd w X) vp0 p0) (y : Raw) (hp : clearwaylaw24_mean_p p0 = some y) : Calls Tryz.prog 39 #[vp0] w (Ret E0 w fun w' v => RawV (rd w' (old w)) v y) := by
 obtain ⟨p0a1, p0a2, rfl, p0a_h0⟩ := hp0
 unfold clearwaylaw24_mean_p at hp
 refine zen Tryz.func39 ?_
 have C0 : St E0 w X w X [] := St.start hX
 refine zz 2 ?_
 refine zn pn (.cells #[.bool false, .slice none 0 0, .slice none 0 0] 28 (0, 0)) C0 ?_
 intro b3 w3 Y3 C3 j3 hu3
 refine zz 5 ?_
 refine zn pn (.cells #[.bool false, .slice none 0 0, .slice none 0 0] 28 (0, 0)) C3 ?_
 intro b5 w5 Y5 C5 j5 hu5
 refine zx 0 #[.bool false, .slice none 0 0, .slice none 0 0] C5 ?_
 intro w6 C6 j6
 refine zz 2 ?_
 have hob := ltd1 hp
 obtain ⟨J7, hJ7, hp⟩ := hob
 refine zjoin (fun ((v7_0, a7_0_1, a7_0_2, a7_0_3, a7_0_4) : Raw × (Option Addr) × Nat × (Option Addr) × Nat) => [(2, .pointer (some ⟨b3, 0, none⟩)), (3, .pointer (some ⟨b5, 0, none⟩))]) (fun ((v7_0, a7_0_1, a7_0_2, a7_0_3, a7_0_4) : Raw × (Option Addr) × Nat × (Option Addr) × Nat) w1 => ∃ Y1 : Hid, St E0 w X w1 Y1 [(b5, .cells #[.bool v7_0.neg, .slice a7_0_1 v7_0.ln.length a7_0_2, .slice a7_0_3 v7_0.ld.length a7_0_4] 28 (0, 0)), (b3, .cells #[.bool false, .slice none 0 0, .slice none 0 0] 28 (0, 0))] ∧ Le (rd w6 Y5) (rd w1 Y1) ∧ Limbs (rd w1 (orN Y1 w.heap.size)) a7_0_1 v7_0.ln.length a7_0_2 v7_0.ln ∧ Limbs (rd w1 (orN Y1 w.heap.size)) a7_0_3 v7_0.ld.length a7_0_4 v7_0.ld ∧ J7 v7_0 = some y) ?_ ?_
 ·
  rintro ⟨v7_0, a7_0_1, a7_0_2, a7_0_3, a7_0_4⟩ w7 ⟨Y7, C7, j7, hfv7_0_0, hfv7_0_1, hp⟩
  have hp := (hJ7 _).symm.trans hp
  refine zz 2 ?_
  refine zo 0 C7 ?_
  refine zx 1 #[.bool v7_0.neg, .slice a7_0_1 v7_0.ln.length a7_0_2, .slice a7_0_3 v7_0.ld.length a7_0_4] C7 ?_
  intro w8 C8 j8
  refine zz 3 ?_
  refine zrS [.cell 2 28] (v := .agg #[.bool v7_0.neg, .slice a7_0_1 v7_0.ln.length a7_0_2, .slice a7_0_3 v7_0.ld.length a7_0_4]) (Res.cM C8 1 Res.nil) ?_
  have hob := Option.some.inj hp
  subst hob
  exact ⟨C8.upd, _, rfl, ⟨_, _, _, _, _, _, rfl, ((hfv7_0_0.mono (Le.or j8 _))).mono Le.orr, ((hfv7_0_1.mono (Le.or j8 _))).mono Le.orr⟩⟩
 intro K9 H9
 refine zz 6 ?_
 have hb10 : (p0.length : Int) ≤ 9223372036854775807 := lenb (p0a_h0).hcap (p0a_h0).hbig
 refine zlp Tryz.f39 [K9] [1, 1, 9, 1, 0] (fun ((k10, v10_1, a10_1_1, a10_1_2, a10_1_3, a10_1_4) : Nat × Raw × (Option Addr) × Nat × (Option Addr) × Nat) => [(0, .slice p0a1 p0.length p0a2), (2, .pointer (some ⟨b3, 0, none⟩)), (3, .pointer (some ⟨b5, 0, none⟩)), (4, .int .i64 (k10 : Int))]) (fun ((k10, v10_1, a10_1_1, a10_1_2, a10_1_3, a10_1_4) : Nat × Raw × (Option Addr) × Nat × (Option Addr) × Nat) w1 => ∃ Y1 : Hid, St E0 w X w1 Y1 [(b5, .cells #[.bool v10_1.neg, .slice a10_1_1 v10_1.ln.length a10_1_2, .slice a10_1_3 v10_1.ld.length a10_1_4] 28 (0, 0)), (b3, .cells #[.bool false, .slice none 0 0, .slice none 0 0] 28 (0, 0))] ∧ Le (rd w6 Y5) (rd w1 Y1) ∧ Limbs (rd w1 (orN Y1 w.heap.size)) a10_1_1 v10_1.ln.length a10_1_2 v10_1.ln ∧ Limbs (rd w1 (orN Y1 w.heap.size)) a10_1_3 v10_1.ld.length a10_1_4 v10_1.ld ∧ clearwaylaw24_mean_l10 J7 (p0.drop k10)  v10_1 = some y) (fun ((k10, v10_1, a10_1_1, a10_1_2, a10_1_3, a10_1_4) : Nat × Raw × (Option Addr) × Nat × (Option Addr) × Nat) => p0.length - k10) (0, Raw.zero, none, 0, none, 0) ?_ ?_
 ·
  exact ⟨_, C6, Le.refl _, Limbs.nil0, Limbs.nil0, hp⟩
 rintro ⟨k10, v10_1, a10_1_1, a10_1_2, a10_1_3, a10_1_4⟩ w10 K10 H10 ⟨Y10, C10, j10, hfv10_1_0, hfv10_1_1, hp⟩
 refine zz 9 ?_
 refine zt 11 (p := (k10 : Int) < (p0.length : Int)) (fun ht11 => ?_) (fun ht11 => ?_)
 ·
  have hob := get_lt (l := p0) (k := k10) (lt_of_int ht11)
  obtain ⟨x10, hqx10⟩ := hob
  rw [dropC hqx10, clearwaylaw24_mean_l10] at hp
  have hzx10 : (0 : Int) ≤ (k10 : Int) := Int.natCast_nonneg _
  refine zz 6 ?_
  refine zdr C10 ?_
  have hob := p0a_h0.opn hqx10
  obtain ⟨be12, oe12, rfl, j12, hEe12⟩ := hob
  obtain ⟨e121, e122, e123, e124, e12_at, e12_h0, e12_h1⟩ := hEe12
  refine gz [0, 1] ?_
  refine gi 2 (b := be12) (off := oe12) (len := p0.length) (cap := p0a2) (kd := .i64) (i := (k10 : Int)) 4 (oe12 + k10 * 4) ?_ (h0 := hzx10) (h1 := (ix_b hzx10 j12))
  have hc1_ := (Le3 j3 j5 j6).trans j10
  refine gz [3] ?_
  refine gl 4 ((e12_at.mono hc1_).sub 1 3) ?_
  refine gz [5, 6] ?_
  refine gi 7 (b := be12) (off := oe12) (len := p0.length) (cap := p0a2) (kd := .i64) (i := (k10 : Int)) 4 (oe12 + k10 * 4) ?_ (h0 := hzx10) (h1 := (ix_b hzx10 j12))
  have hc2_ := (Le3 j3 j5 j6).trans j10
  refine gz [8] ?_
  refine gl 9 ((e12_at.mono hc2_).sub 0 1) ?_
  refine gp (al 15 5 pn (.cells #[.bool false, .slice none 0 0, .slice none 0 0] 28 (0, 0))) ?_
  refine bndk hp fun y14 hy14 hp => ?_
  refine gC 10 (fun w13 Y13 _ C13 j13 => (rat_From_c _ X0 (X0_lt _) (x10.delta) y14 hy14)) ?_ (hPd := PdOk.nil.k)
  rintro v15 w13 Y15 w15 C13 j15 ⟨u15_0_1, u15_0_2, u15_0_3, u15_0_4, u15_0_5, u15_0_6, rfl, u15_0__h0, u15_0__h1⟩
  have hob := u15_0__h0.hlen
  subst hob
  have hob := u15_0__h1.hlen
  subst hob
  have hc3_ := (Le4 j3 j5 j6 j10).trans j15
  refine bndk hp fun y17 hy17 hp => ?_
  refine gC 11 (fun w16 Y16 _ C16 j16 => (rat_Mul_c _ X0 (X0_lt _) x10.p _ ⟨_, _, _, _, _, _, rfl, ((e12_h0.mono (hc3_.trans j16)).mono Le.x0), ((e12_h1.mono (hc3_.trans j16)).mono Le.x0)⟩ y14 _ ⟨_, _, _, _, _, _, rfl, (((u15_0__h0.mono (Le.new C13.lt)).mono j16).mono Le.x0), (((u15_0__h1.mono (Le.new C13.lt)).mono j16).mono Le.x0)⟩ y17 hy17)) ?_ (hPd := PdOk.nil.k)
  rintro v18 w16 Y18 w18 C16 j18 ⟨uu18_0, rfl, ⟨u18_0_1, u18_0_2, u18_0_3, u18_0_4, u18_0_5, u18_0_6, rfl, u18_0__h0, u18_0__h1⟩⟩
  have hob := u18_0__h0.hlen
  subst hob
  have hob := u18_0__h1.hlen
  subst hob
  refine gz [12, 13, 14] ?_
  refine gs1 (fun b19 => ?_) PdOk.nil.k
  refine gX 16 0 #[.bool y17.1.neg, .slice u18_0_1 y17.1.ln.length u18_0_3, .slice u18_0_4 y17.1.ld.length u18_0_6] ?_
  intro w20 Y20 j20
  refine gz [17] ?_
  refine gend (fun w21 Y21 C21 j21 => ?_)
  refine zz 2 ?_
  refine zo 1 C21 ?_
  refine zo 0 C21 ?_
  have hc4_ := (Le3 j15 j18 j20).trans j21
  refine bndk hp fun y23 hy23 hp => ?_
  refine zc C21 (rat_Add_c _ X0 (X0_lt _) v10_1 _ ⟨_, _, _, _, _, _, rfl, (((hfv10_1_0.mono Le.orl).mono hc4_).mono Le.x0), (((hfv10_1_1.mono Le.orl).mono hc4_).mono Le.x0)⟩ y17.1 _ ⟨_, _, _, _, _, _, rfl, (((u18_0__h0.mono (Le.new C16.lt)).mono (Le2 j20 j21)).mono Le.x0), (((u18_0__h1.mono (Le.new C16.lt)).mono (Le2 j20 j21)).mono Le.x0)⟩ y23 hy23) ?_
  rintro v24 w24 C24 j24 hu24 ⟨uu24_0, rfl, ⟨u24_0_1, u24_0_2, u24_0_3, u24_0_4, u24_0_5, u24_0_6, rfl, u24_0__h0, u24_0__h1⟩⟩
  have hob := u24_0__h0.hlen
  subst hob
  have hob := u24_0__h1.hlen
  subst hob
  refine zz 3 ?_
  refine zx 1 #[.bool y23.1.neg, .slice u24_0_1 y23.1.ln.length u24_0_3, .slice u24_0_4 y23.1.ld.length u24_0_6] C24 ?_
  intro w25 C25 j25
  refine zz 6 ?_
  refine zs 13 (v := .int .i64 (IntKind.i64.wrap ((k10 : Int) + 1))) (v' := .int .i64 ((k10 : Int) + 1)) (vint (wi64 (wk0 k10) (wk1 ht11 hb10))) ?_
  refine zz 2 ?_
  have hc5_ := (Le6 j10 j15 j18 j20 j21 j24).trans j25
  refine znext (fun a h => H10 (k10 + 1, y23.1, u24_0_1, u24_0_3, u24_0_4, u24_0_6) _ a h ⟨_, C25.tail, hc5_, (u24_0__h0.mono (Le.own C21.lt C21.upd.size j25)), (u24_0__h1.mono (Le.own C21.lt C21.upd.size j25)), hp⟩ ?_)
  exact mu_lt ht11
 rw [List.drop_eq_nil_of_le (nlt_of_int ht11), clearwaylaw24_mean_l10] at hp
 refine zz 5 ?_
 exact znext (fun a h => H9 (v10_1, a10_1_1, a10_1_2, a10_1_3, a10_1_4) _ a h ⟨_, C10, j10, (hfv10_1_0.mono (Le.or (Le.refl _) _)), (hfv10_1_1.mono (Le.or (Le.refl _) _)), hp⟩)
noncomputable def clearwaylaw24_of_p (p0 : Int) (p1 : Int) : Option (Raw) :=
  (rat_Of_p (p0) (p1)).bind fun y5 => some y5.1
theorem clearwaylaw24_of_c (w : World) (X : Hid) (hX : ∀ k o, X k o → k < w.heap.size) (p0 : Int) (p1 : Int) (y : Raw) (hp : clearwaylaw24_of_p p0 p1 = some y) : Calls Tryz.prog 51 #[.int .i64 p0, .int .i64 p1] w (Ret E0 w fun w' v => RawV (rd w' (old w)) v y) := by
 unfold clearwaylaw24_of_p at hp
 refine zen Tryz.func51 ?_
 have C0 : St E0 w X w X [] := St.start hX
 refine zz 2 ?_
 refine zn pn (.cells #[.bool false, .slice none 0 0, .slice none 0 0] 28 (0, 0)) C0 ?_
 intro b3 w3 Y3 C3 j3 hu3
 refine zz 6 ?_
 refine bndk hp fun y5 hy5 hp => ?_
 refine zc C3 (rat_Of_c _ X0 (X0_lt _) (p0) (p1) y5 hy5) ?_
 rintro v6 w6 C6 j6 hu6 ⟨uu6_0, rfl, ⟨u6_0_1, u6_0_2, u6_0_3, u6_0_4, u6_0_5, u6_0_6, rfl, u6_0__h0, u6_0__h1⟩⟩
 have hob := u6_0__h0.hlen
 subst hob
 have hob := u6_0__h1.hlen
 subst hob
 refine zz 3 ?_
 refine zn pn (.cells #[.bool false, .slice none 0 0, .slice none 0 0] 28 (0, 0)) C6 ?_
 intro b8 w8 Y8 C8 j8 hu8
 refine zx 0 #[.bool y5.1.neg, .slice u6_0_1 y5.1.ln.length u6_0_3, .slice u6_0_4 y5.1.ld.length u6_0_6] C8 ?_
 intro w9 C9 j9
 refine zz 5 ?_
 refine zo 0 C9 ?_
 refine zx 1 #[.bool y5.1.neg, .slice u6_0_1 y5.1.ln.length u6_0_3, .slice u6_0_4 y5.1.ld.length u6_0_6] C9 ?_
 intro w10 C10 j10
 refine zz 3 ?_
 refine zrS [.cell 4 28] (v := .agg #[.bool y5.1.neg, .slice u6_0_1 y5.1.ln.length u6_0_3, .slice u6_0_4 y5.1.ld.length u6_0_6]) (Res.cM C10 1 Res.nil) ?_
 have hob := Option.some.inj hp
 subst hob
 exact ⟨C10.upd, _, rfl, ⟨_, _, _, _, _, _, rfl, ((u6_0__h0.mono (Le.own C3.lt C3.upd.size (Le3 j8 j9 j10)))).mono Le.orr, ((u6_0__h1.mono (Le.own C3.lt C3.upd.size (Le3 j8 j9 j10)))).mono Le.orr⟩⟩
noncomputable def clearwaylaw06_Long_l4 (J2 : Option (Bool)) : List Raw → Option (Bool)
  | [] => J2
  | x4 :: r4 => if (x4.ln.length : Int) > 6 then (if (x4.ln.length : Int) ≤ 128 then (some true) else (if (x4.ld.length : Int) > 6 then (if (x4.ld.length : Int) ≤ 128 then (some true) else (if (x4.ln.length : Int) > 200 then (some true) else (if (x4.ld.length : Int) > 200 then (some true) else (clearwaylaw06_Long_l4 J2 r4 )))) else (if (x4.ln.length : Int) > 200 then (some true) else (if (x4.ld.length : Int) > 200 then (some true) else (clearwaylaw06_Long_l4 J2 r4 ))))) else (if (x4.ld.length : Int) > 6 then (if (x4.ld.length : Int) ≤ 128 then (some true) else (if (x4.ln.length : Int) > 200 then (some true) else (if (x4.ld.length : Int) > 200 then (some true) else (clearwaylaw06_Long_l4 J2 r4 )))) else (if (x4.ln.length : Int) > 200 then (some true) else (if (x4.ld.length : Int) > 200 then (some true) else (clearwaylaw06_Long_l4 J2 r4 ))))
noncomputable def clearwaylaw06_Long_p (p0 : List Raw) : Option (Bool) :=
  lt (some false) fun J2 => clearwaylaw06_Long_l4 J2 (p0.drop 0) 
theorem clearwaylaw06_Long_c (w : World) (X : Hid) (hX : ∀ k o, X k o → k < w.heap.size) (p0 : List Raw) (vp0 : Value) (hp0 : SV Rats (rd w X) vp0 p0) (y : Bool) (hp : clearwaylaw06_Long_p p0 = some y) : Calls Tryz.prog 49 #[vp0] w (Ret E0 w fun _ v => v = .bool y) := by
 obtain ⟨p0a1, p0a2, rfl, p0a_h0⟩ := hp0
 unfold clearwaylaw06_Long_p at hp
 refine zen Tryz.func49 ?_
 have C0 : St E0 w X w X [] := St.start hX
 refine zz 5 ?_
 have hob := ltd0 hp
 obtain ⟨J2, hJ2, hp⟩ := hob
 refine zjoin (fun (_ : Unit) => []) (fun (_ : Unit) w1 => ∃ Y1 : Hid, St E0 w X w1 Y1 [] ∧ Le (rd w X) (rd w1 Y1) ∧ J2 = some y) ?_ ?_
 ·
  rintro _ w2 ⟨Y2, C2, j2, hp⟩
  have hp := hJ2.symm.trans hp
  refine zz 6 ?_
  refine zr' (v := .bool false) ?_
  have hob := Option.some.inj hp
  subst hob
  exact ⟨C2.upd, _, rfl, rfl⟩
 intro K3 H3
 refine zz 6 ?_
 have hb4 : (p0.length : Int) ≤ 9223372036854775807 := lenb (p0a_h0).hcap (p0a_h0).hbig
 refine zlp Tryz.f49 [K3] [1, 9, 1, 0] (fun (k4 : Nat) => [(0, .slice p0a1 p0.length p0a2), (3, .int .i64 (k4 : Int))]) (fun (k4 : Nat) w1 => ∃ Y1 : Hid, St E0 w X w1 Y1 [] ∧ Le (rd w X) (rd w1 Y1) ∧ clearwaylaw06_Long_l4 J2 (p0.drop k4)  = some y) (fun (k4 : Nat) => p0.length - k4) 0 ?_ ?_
 ·
  exact ⟨_, C0, Le.refl _, hp⟩
 rintro k4 w4 K4 H4 ⟨Y4, C4, j4, hp⟩
 refine zz 9 ?_
 refine zt 9 (p := (k4 : Int) < (p0.length : Int)) (fun ht5 => ?_) (fun ht5 => ?_)
 ·
  have hob := get_lt (l := p0) (k := k4) (lt_of_int ht5)
  obtain ⟨x4, hqx4⟩ := hob
  rw [dropC hqx4, clearwaylaw06_Long_l4] at hp
  have hzx4 : (0 : Int) ≤ (k4 : Int) := Int.natCast_nonneg _
  refine zz 6 ?_
  refine zdr C4 ?_
  have hob := p0a_h0.sl.opn hqx4
  obtain ⟨be6, oe6, rfl, j6, hEe6⟩ := hob
  obtain ⟨e61, e62, e63, e64, e65, e66, e6_at, e6_h0, e6_h1⟩ := hEe6
  have hob := e6_h0.hlen
  subst hob
  have hob := e6_h1.hlen
  subst hob
  refine gz [0, 1] ?_
  refine gi 2 (b := be6) (off := oe6) (len := p0.length) (cap := p0a2) (kd := .i64) (i := (k4 : Int)) 3 (oe6 + k4 * 3) ?_ (h0 := hzx4) (h1 := (ix_b hzx4 j6))
  refine gz [3] ?_
  refine gl 4 ((e6_at.mono j4).sub 1 1) ?_
  refine gz [5, 6, 7] ?_
  refine gi 8 (b := be6) (off := oe6) (len := p0.length) (cap := p0a2) (kd := .i64) (i := (k4 : Int)) 3 (oe6 + k4 * 3) ?_ (h0 := hzx4) (h1 := (ix_b hzx4 j6))
  refine gz [9] ?_
  refine gl 10 ((e6_at.mono j4).sub 2 1) ?_
  refine gz [11, 12, 13] ?_
  refine gend (fun w7 Y7 C7 j7 => ?_)
  refine zz 6 ?_
  refine zt 26 (p := (x4.ln.length : Int) > 6) (fun ht8 => ?_) (fun ht8 => ?_)
  ·
   have hp := ip ht8 hp
   refine zz 4 ?_
   refine zt 30 (p := (x4.ln.length : Int) ≤ 128) (fun ht9 => ?_) (fun ht9 => ?_)
   ·
    have hp := ip ht9 hp
    refine zz 29 ?_
    refine zr' (v := .bool true) ?_
    have hob := Option.some.inj hp
    subst hob
    exact ⟨C7.upd, _, rfl, rfl⟩
   have hp := iq ht9 hp
   refine zz 3 ?_
   refine zt 33 (p := (x4.ld.length : Int) > 6) (fun ht10 => ?_) (fun ht10 => ?_)
   ·
    have hp := ip ht10 hp
    refine zz 5 ?_
    refine zt 38 (p := (x4.ld.length : Int) ≤ 128) (fun ht11 => ?_) (fun ht11 => ?_)
    ·
     have hp := ip ht11 hp
     refine zz 21 ?_
     refine zr' (v := .bool true) ?_
     have hob := Option.some.inj hp
     subst hob
     exact ⟨C7.upd, _, rfl, rfl⟩
    have hp := iq ht11 hp
    refine zz 4 ?_
    refine zt 42 (p := (x4.ln.length : Int) > 200) (fun ht12 => ?_) (fun ht12 => ?_)
    ·
     have hp := ip ht12 hp
     refine zz 17 ?_
     refine zr' (v := .bool true) ?_
     have hob := Option.some.inj hp
     subst hob
     exact ⟨C7.upd, _, rfl, rfl⟩
    have hp := iq ht12 hp
    refine zz 5 ?_
    refine zt 45 (p := (x4.ld.length : Int) > 200) (fun ht13 => ?_) (fun ht13 => ?_)
    ·
     have hp := ip ht13 hp
     refine zz 12 ?_
     refine zr' (v := .bool true) ?_
     have hob := Option.some.inj hp
     subst hob
     exact ⟨C7.upd, _, rfl, rfl⟩
    have hp := iq ht13 hp
    refine zz 7 ?_
    refine zs 11 (v := .int .i64 (IntKind.i64.wrap ((k4 : Int) + 1))) (v' := .int .i64 ((k4 : Int) + 1)) (vint (wi64 (wk0 k4) (wk1 ht5 hb4))) ?_
    refine zz 2 ?_
    refine znext (fun a h => H4 (k4 + 1) _ a h ⟨_, C7, (Le2 j4 j7), hp⟩ ?_)
    exact mu_lt ht5
   have hp := iq ht10 hp
   refine zz 9 ?_
   refine zt 42 (p := (x4.ln.length : Int) > 200) (fun ht14 => ?_) (fun ht14 => ?_)
   ·
    have hp := ip ht14 hp
    refine zz 17 ?_
    refine zr' (v := .bool true) ?_
    have hob := Option.some.inj hp
    subst hob
    exact ⟨C7.upd, _, rfl, rfl⟩
   have hp := iq ht14 hp
   refine zz 5 ?_
   refine zt 45 (p := (x4.ld.length : Int) > 200) (fun ht15 => ?_) (fun ht15 => ?_)
   ·
    have hp := ip ht15 hp
    refine zz 12 ?_
    refine zr' (v := .bool true) ?_
    have hob := Option.some.inj hp
    subst hob
    exact ⟨C7.upd, _, rfl, rfl⟩
   have hp := iq ht15 hp
   refine zz 7 ?_
   refine zs 11 (v := .int .i64 (IntKind.i64.wrap ((k4 : Int) + 1))) (v' := .int .i64 ((k4 : Int) + 1)) (vint (wi64 (wk0 k4) (wk1 ht5 hb4))) ?_
   refine zz 2 ?_
   refine znext (fun a h => H4 (k4 + 1) _ a h ⟨_, C7, (Le2 j4 j7), hp⟩ ?_)
   exact mu_lt ht5
  have hp := iq ht8 hp
  refine zz 7 ?_
  refine zt 33 (p := (x4.ld.length : Int) > 6) (fun ht16 => ?_) (fun ht16 => ?_)
  ·
   have hp := ip ht16 hp
   refine zz 5 ?_
   refine zt 38 (p := (x4.ld.length : Int) ≤ 128) (fun ht17 => ?_) (fun ht17 => ?_)
   ·
    have hp := ip ht17 hp
    refine zz 21 ?_
    refine zr' (v := .bool true) ?_
    have hob := Option.some.inj hp
    subst hob
    exact ⟨C7.upd, _, rfl, rfl⟩
   have hp := iq ht17 hp
   refine zz 4 ?_
   refine zt 42 (p := (x4.ln.length : Int) > 200) (fun ht18 => ?_) (fun ht18 => ?_)
   ·
    have hp := ip ht18 hp
    refine zz 17 ?_
    refine zr' (v := .bool true) ?_
    have hob := Option.some.inj hp
    subst hob
    exact ⟨C7.upd, _, rfl, rfl⟩
   have hp := iq ht18 hp
   refine zz 5 ?_
   refine zt 45 (p := (x4.ld.length : Int) > 200) (fun ht19 => ?_) (fun ht19 => ?_)
   ·
    have hp := ip ht19 hp
    refine zz 12 ?_
    refine zr' (v := .bool true) ?_
    have hob := Option.some.inj hp
    subst hob
    exact ⟨C7.upd, _, rfl, rfl⟩
   have hp := iq ht19 hp
   refine zz 7 ?_
   refine zs 11 (v := .int .i64 (IntKind.i64.wrap ((k4 : Int) + 1))) (v' := .int .i64 ((k4 : Int) + 1)) (vint (wi64 (wk0 k4) (wk1 ht5 hb4))) ?_
   refine zz 2 ?_
   refine znext (fun a h => H4 (k4 + 1) _ a h ⟨_, C7, (Le2 j4 j7), hp⟩ ?_)
   exact mu_lt ht5
  have hp := iq ht16 hp
  refine zz 9 ?_
  refine zt 42 (p := (x4.ln.length : Int) > 200) (fun ht20 => ?_) (fun ht20 => ?_)
  ·
   have hp := ip ht20 hp
   refine zz 17 ?_
   refine zr' (v := .bool true) ?_
   have hob := Option.some.inj hp
   subst hob
   exact ⟨C7.upd, _, rfl, rfl⟩
  have hp := iq ht20 hp
  refine zz 5 ?_
  refine zt 45 (p := (x4.ld.length : Int) > 200) (fun ht21 => ?_) (fun ht21 => ?_)
  ·
   have hp := ip ht21 hp
   refine zz 12 ?_
   refine zr' (v := .bool true) ?_
   have hob := Option.some.inj hp
   subst hob
   exact ⟨C7.upd, _, rfl, rfl⟩
  have hp := iq ht21 hp
  refine zz 7 ?_
  refine zs 11 (v := .int .i64 (IntKind.i64.wrap ((k4 : Int) + 1))) (v' := .int .i64 ((k4 : Int) + 1)) (vint (wi64 (wk0 k4) (wk1 ht5 hb4))) ?_
  refine zz 2 ?_
  refine znext (fun a h => H4 (k4 + 1) _ a h ⟨_, C7, (Le2 j4 j7), hp⟩ ?_)
  exact mu_lt ht5
 rw [List.drop_eq_nil_of_le (nlt_of_int ht5), clearwaylaw06_Long_l4] at hp
 refine zz 5 ?_
 exact znext (fun a h => H3 () _ a h ⟨_, C4, j4, hp⟩)
noncomputable def clearwaylaw24_Long_l18 (J11 : Option (Bool)) : List NoiseD → Option (Bool)
  | [] => J11
  | x18 :: r18 => (clearwaylaw06_Long_p ([x18.p])).bind fun y24 => if y24 = true then (some true) else (clearwaylaw24_Long_l18 J11 r18 )
noncomputable def clearwaylaw24_Long_l28 (J10 : Option (Bool)) : List NoiseD → Option (Bool)
  | [] => J10
  | x28 :: r28 => (clearwaylaw06_Long_p ([x28.p])).bind fun y34 => if y34 = true then (some true) else (clearwaylaw24_Long_l28 J10 r28 )
noncomputable def clearwaylaw24_Long_p (p0 : ModelD) : Option (Bool) :=
  if (p0.height.length : Int) > 40 then (some true) else (if (p0.own.length : Int) > 40 then (some true) else (if (p0.other.length : Int) > 40 then (some true) else (if (p0.advisories.length : Int) > 10 then (some true) else (if (p0.ownNoise.length : Int) > 8 then (some true) else (if (p0.otherNoise.length : Int) > 8 then (some true) else (lt (lt ((clearwaylaw06_Long_p ([p0.alert, p0.strengthen, p0.reversal])).bind fun y15 => some y15) fun J11 => clearwaylaw24_Long_l18 J11 (p0.otherNoise.drop 0) ) fun J10 => clearwaylaw24_Long_l28 J10 (p0.ownNoise.drop 0) ))))))
theorem clearwaylaw24_Long_c (w : World) (X : Hid) (hX : ∀ k o, X k o → k < w.heap.size) (p0 : ModelD) (vp0 : Value) (hp0 : ModelDV (rd w X) vp0 p0) (y : Bool) (hp : clearwaylaw24_Long_p p0 = some y) : Calls Tryz.prog 9 #[vp0] w (Ret E0 w fun _ v => v = .bool y) := by
 have hVp0 := hp0
 refine ModelDV.op hp0 fun p0a1 p0a2 p0a3 p0a4 p0a5 p0a6 p0a7 p0a8 p0a9 p0a10 p0a11 p0a12 p0a13 p0a14 p0a15 p0a16 p0a17 p0a18 p0a19 p0a20 p0a21 p0a22 p0a23 p0a24 hv9 p0a_h0 p0a_h1 p0a_h2 p0a_h3 p0a_h4 p0a_h5 p0a_h6 p0a_h7 p0a_h8 p0a_h9 p0a_h10 p0a_h11 => ?_
 subst hv9
 unfold clearwaylaw24_Long_p at hp
 refine zen Tryz.func9 ?_
 have C0 : St E0 w X w X [] := St.start hX
 refine zz 2 ?_
 refine zn pn (.cells #[.slice p0a1 p0.height.length p0a2, .slice p0a3 p0.own.length p0a4, .slice p0a5 p0.other.length p0a6, .slice p0a7 p0.advisories.length p0a8, .int .i64 p0.pull, .int .i64 p0.near, .int .i64 p0.steps, .slice p0a9 p0.ownNoise.length p0a10, .slice p0a11 p0.otherNoise.length p0a12, .bool p0.alert.neg, .slice p0a13 p0.alert.ln.length p0a14, .slice p0a15 p0.alert.ld.length p0a16, .bool p0.strengthen.neg, .slice p0a17 p0.strengthen.ln.length p0a18, .slice p0a19 p0.strengthen.ld.length p0a20, .bool p0.reversal.neg, .slice p0a21 p0.reversal.ln.length p0a22, .slice p0a23 p0.reversal.ld.length p0a24] 30 (0, 0)) C0 ?_
 intro b3 w3 Y3 C3 j3 hu3
 refine zz 7 ?_
 refine zo 0 C3 ?_
 refine zz 3 ?_
 refine zt 9 (p := (p0.height.length : Int) > 40) (fun ht4 => ?_) (fun ht4 => ?_)
 ·
  have hp := ip ht4 hp
  refine zz 39 ?_
  refine zr' (v := .bool true) ?_
  have hob := Option.some.inj hp
  subst hob
  exact ⟨C3.upd, _, rfl, rfl⟩
 have hp := iq ht4 hp
 refine zz 1 ?_
 refine zo 0 C3 ?_
 refine zz 4 ?_
 refine zt 15 (p := (p0.own.length : Int) > 40) (fun ht5 => ?_) (fun ht5 => ?_)
 ·
  have hp := ip ht5 hp
  refine zz 33 ?_
  refine zr' (v := .bool true) ?_
  have hob := Option.some.inj hp
  subst hob
  exact ⟨C3.upd, _, rfl, rfl⟩
 have hp := iq ht5 hp
 refine zz 1 ?_
 refine zo 0 C3 ?_
 refine zz 4 ?_
 refine zt 21 (p := (p0.other.length : Int) > 40) (fun ht6 => ?_) (fun ht6 => ?_)
 ·
  have hp := ip ht6 hp
  refine zz 27 ?_
  refine zr' (v := .bool true) ?_
  have hob := Option.some.inj hp
  subst hob
  exact ⟨C3.upd, _, rfl, rfl⟩
 have hp := iq ht6 hp
 refine zz 1 ?_
 refine zo 0 C3 ?_
 refine zz 4 ?_
 refine zt 27 (p := (p0.advisories.length : Int) > 10) (fun ht7 => ?_) (fun ht7 => ?_)
 ·
  have hp := ip ht7 hp
  refine zz 21 ?_
  refine zr' (v := .bool true) ?_
  have hob := Option.some.inj hp
  subst hob
  exact ⟨C3.upd, _, rfl, rfl⟩
 have hp := iq ht7 hp
 refine zz 1 ?_
 refine zo 0 C3 ?_
 refine zz 4 ?_
 refine zt 33 (p := (p0.ownNoise.length : Int) > 8) (fun ht8 => ?_) (fun ht8 => ?_)
 ·
  have hp := ip ht8 hp
  refine zz 15 ?_
  refine zr' (v := .bool true) ?_
  have hob := Option.some.inj hp
  subst hob
  exact ⟨C3.upd, _, rfl, rfl⟩
 have hp := iq ht8 hp
 refine zz 1 ?_
 refine zo 0 C3 ?_
 refine zz 5 ?_
 refine zt 38 (p := (p0.otherNoise.length : Int) > 8) (fun ht9 => ?_) (fun ht9 => ?_)
 ·
  have hp := ip ht9 hp
  refine zz 8 ?_
  refine zr' (v := .bool true) ?_
  have hob := Option.some.inj hp
  subst hob
  exact ⟨C3.upd, _, rfl, rfl⟩
 have hp := iq ht9 hp
 refine zz 3 ?_
 have hob := ltd0 hp
 obtain ⟨J10, hJ10, hp⟩ := hob
 refine zjoin (fun (_ : Unit) => [(1, .pointer (some ⟨b3, 0, none⟩))]) (fun (_ : Unit) w1 => ∃ Y1 : Hid, St E0 w X w1 Y1 [(b3, .cells #[.slice p0a1 p0.height.length p0a2, .slice p0a3 p0.own.length p0a4, .slice p0a5 p0.other.length p0a6, .slice p0a7 p0.advisories.length p0a8, .int .i64 p0.pull, .int .i64 p0.near, .int .i64 p0.steps, .slice p0a9 p0.ownNoise.length p0a10, .slice p0a11 p0.otherNoise.length p0a12, .bool p0.alert.neg, .slice p0a13 p0.alert.ln.length p0a14, .slice p0a15 p0.alert.ld.length p0a16, .bool p0.strengthen.neg, .slice p0a17 p0.strengthen.ln.length p0a18, .slice p0a19 p0.strengthen.ld.length p0a20, .bool p0.reversal.neg, .slice p0a21 p0.reversal.ln.length p0a22, .slice p0a23 p0.reversal.ld.length p0a24] 30 (0, 0))] ∧ Le (rd w3 Y3) (rd w1 Y1) ∧ J10 = some y) ?_ ?_
 ·
  rintro _ w10 ⟨Y10, C10, j10, hp⟩
  have hp := hJ10.symm.trans hp
  have hob := ltd0 hp
  obtain ⟨J11, hJ11, hp⟩ := hob
  refine zjoin (fun (_ : Unit) => [(1, .pointer (some ⟨b3, 0, none⟩))]) (fun (_ : Unit) w1 => ∃ Y1 : Hid, St E0 w X w1 Y1 [(b3, .cells #[.slice p0a1 p0.height.length p0a2, .slice p0a3 p0.own.length p0a4, .slice p0a5 p0.other.length p0a6, .slice p0a7 p0.advisories.length p0a8, .int .i64 p0.pull, .int .i64 p0.near, .int .i64 p0.steps, .slice p0a9 p0.ownNoise.length p0a10, .slice p0a11 p0.otherNoise.length p0a12, .bool p0.alert.neg, .slice p0a13 p0.alert.ln.length p0a14, .slice p0a15 p0.alert.ld.length p0a16, .bool p0.strengthen.neg, .slice p0a17 p0.strengthen.ln.length p0a18, .slice p0a19 p0.strengthen.ld.length p0a20, .bool p0.reversal.neg, .slice p0a21 p0.reversal.ln.length p0a22, .slice p0a23 p0.reversal.ld.length p0a24] 30 (0, 0))] ∧ Le (rd w10 Y10) (rd w1 Y1) ∧ J11 = some y) ?_ ?_
  ·
   rintro _ w11 ⟨Y11, C11, j11, hp⟩
   have hp := hJ11.symm.trans hp
   refine zz 3 ?_
   refine zo 0 C11 ?_
   refine zz 1 ?_
   refine zo 0 C11 ?_
   refine zz 1 ?_
   refine zo 0 C11 ?_
   refine zn (fun b => .slice (some ⟨b, 0, none⟩) 3 3) (.cells #[.bool p0.alert.neg, .slice p0a13 p0.alert.ln.length p0a14, .slice p0a15 p0.alert.ld.length p0a16, .bool p0.strengthen.neg, .slice p0a17 p0.strengthen.ln.length p0a18, .slice p0a19 p0.strengthen.ld.length p0a20, .bool p0.reversal.neg, .slice p0a21 p0.reversal.ln.length p0a22, .slice p0a23 p0.reversal.ld.length p0a24] 28 (0, 0)) C11 ?_
   intro b13 w13 Y13 C13 j13 hu13
   have hc1_ := (Le3 j3 j10 j11).trans j13
   refine bndk hp fun y15 hy15 hp => ?_
   refine zc C13 (clearwaylaw06_Long_c _ X0 (X0_lt _) ([p0.alert, p0.strengthen, p0.reversal]) _ ⟨_, _, rfl, (Rats.ofSl (SlR.lit (El := RatAt) (size := 3) (n := 3) [⟨p0.alert, [.bool p0.alert.neg, .slice p0a13 p0.alert.ln.length p0a14, .slice p0a15 p0.alert.ld.length p0a16]⟩, ⟨p0.strengthen, [.bool p0.strengthen.neg, .slice p0a17 p0.strengthen.ln.length p0a18, .slice p0a19 p0.strengthen.ld.length p0a20]⟩, ⟨p0.reversal, [.bool p0.reversal.neg, .slice p0a21 p0.reversal.ln.length p0a22, .slice p0a23 p0.reversal.ld.length p0a24]⟩] (C13.at0 0 rfl rfl) (List.forall_mem_cons.2 ⟨⟨rfl, fun r2 h2 b o h9 => ⟨_, _, _, _, _, _, h9, (((p0a_h6.mono hc1_).mono Le.x0).mono h2), (((p0a_h7.mono hc1_).mono Le.x0).mono h2)⟩⟩, (List.forall_mem_cons.2 ⟨⟨rfl, fun r2 h2 b o h9 => ⟨_, _, _, _, _, _, h9, (((p0a_h8.mono hc1_).mono Le.x0).mono h2), (((p0a_h9.mono hc1_).mono Le.x0).mono h2)⟩⟩, (List.forall_mem_cons.2 ⟨⟨rfl, fun r2 h2 b o h9 => ⟨_, _, _, _, _, _, h9, (((p0a_h10.mono hc1_).mono Le.x0).mono h2), (((p0a_h11.mono hc1_).mono Le.x0).mono h2)⟩⟩, (List.forall_mem_nil _)⟩)⟩)⟩) rfl (by decide)))⟩ y15 hy15) ?_ (vs := #[.slice (some ⟨b13, 0, none⟩) 3 3])
   rintro v16 w16 C16 j16 hu16 rfl
   refine zz 4 ?_
   refine zr' (v := .bool y15) ?_
   have hob := Option.some.inj hp
   subst hob
   exact ⟨C16.upd, _, rfl, rfl⟩
  intro K17 H17
  refine zz 6 ?_
  have hb18 : (p0.otherNoise.length : Int) ≤ 9223372036854775807 := lenb (p0a_h5).hcap (p0a_h5).hbig
  refine zlp Tryz.f9 [K17] [1, 1, 1, 9, 1, 0] (fun (k18 : Nat) => [(1, .pointer (some ⟨b3, 0, none⟩)), (4, .int .i64 (k18 : Int))]) (fun (k18 : Nat) w1 => ∃ Y1 : Hid, St E0 w X w1 Y1 [(b3, .cells #[.slice p0a1 p0.height.length p0a2, .slice p0a3 p0.own.length p0a4, .slice p0a5 p0.other.length p0a6, .slice p0a7 p0.advisories.length p0a8, .int .i64 p0.pull, .int .i64 p0.near, .int .i64 p0.steps, .slice p0a9 p0.ownNoise.length p0a10, .slice p0a11 p0.otherNoise.length p0a12, .bool p0.alert.neg, .slice p0a13 p0.alert.ln.length p0a14, .slice p0a15 p0.alert.ld.length p0a16, .bool p0.strengthen.neg, .slice p0a17 p0.strengthen.ln.length p0a18, .slice p0a19 p0.strengthen.ld.length p0a20, .bool p0.reversal.neg, .slice p0a21 p0.reversal.ln.length p0a22, .slice p0a23 p0.reversal.ld.length p0a24] 30 (0, 0))] ∧ Le (rd w10 Y10) (rd w1 Y1) ∧ clearwaylaw24_Long_l18 J11 (p0.otherNoise.drop k18)  = some y) (fun (k18 : Nat) => p0.otherNoise.length - k18) 0 ?_ ?_
  ·
   exact ⟨_, C10, Le.refl _, hp⟩
  rintro k18 w18 K18 H18 ⟨Y18, C18, j18, hp⟩
  refine zz 5 ?_
  refine zo 0 C18 ?_
  refine zz 4 ?_
  refine zt 58 (p := (k18 : Int) < (p0.otherNoise.length : Int)) (fun ht19 => ?_) (fun ht19 => ?_)
  ·
   have hob := get_lt (l := p0.otherNoise) (k := k18) (lt_of_int ht19)
   obtain ⟨x18, hqx18⟩ := hob
   rw [dropC hqx18, clearwaylaw24_Long_l18] at hp
   have hzx18 : (0 : Int) ≤ (k18 : Int) := Int.natCast_nonneg _
   refine zz 8 ?_
   refine zo 0 C18 ?_
   refine zz 1 ?_
   have hob := p0a_h5.opn hqx18
   obtain ⟨be20, oe20, rfl, j20, hEe20⟩ := hob
   obtain ⟨e201, e202, e203, e204, e20_at, e20_h0, e20_h1⟩ := hEe20
   refine zi (b := be20) (off := oe20) (len := p0.otherNoise.length) (cap := p0a12) (kd := .i64) (i := (k18 : Int)) 4 (oe20 + k18 * 4) ?_ (h0 := hzx18) (h1 := (ix_b hzx18 j20))
   refine zz 1 ?_
   refine zl ((e20_at.mono (Le3 j3 j10 j18)).sub 1 3).cells ?_
   refine zn (fun b => .slice (some ⟨b, 0, none⟩) 1 1) (.cells #[.bool x18.p.neg, .slice e201 x18.p.ln.length e202, .slice e203 x18.p.ld.length e204] 28 (0, 0)) C18 ?_
   intro b22 w22 Y22 C22 j22 hu22
   have hc2_ := (Le3 j3 j10 j18).trans j22
   refine bndk hp fun y24 hy24 hp => ?_
   refine zc C22 (clearwaylaw06_Long_c _ X0 (X0_lt _) ([x18.p]) _ ⟨_, _, rfl, (Rats.ofSl (SlR.lit (El := RatAt) (size := 3) (n := 1) [⟨x18.p, [.bool x18.p.neg, .slice e201 x18.p.ln.length e202, .slice e203 x18.p.ld.length e204]⟩] (C22.at0 0 rfl rfl) (List.forall_mem_cons.2 ⟨⟨rfl, fun r2 h2 b o h9 => ⟨_, _, _, _, _, _, h9, (((e20_h0.mono hc2_).mono Le.x0).mono h2), (((e20_h1.mono hc2_).mono Le.x0).mono h2)⟩⟩, (List.forall_mem_nil _)⟩) rfl (by decide)))⟩ y24 hy24) ?_ (vs := #[.slice (some ⟨b22, 0, none⟩) 1 1])
   rintro v25 w25 C25 j25 hu25 rfl
   refine zz 2 ?_
   refine zb 68 (b := y24) (fun hc26 => ?_) (fun hc26 => ?_)
   ·
    have hp := ipb hc26 hp
    refine zz 12 ?_
    refine zr' (v := .bool true) ?_
    have hob := Option.some.inj hp
    subst hob
    exact ⟨C25.upd, _, rfl, rfl⟩
   have hp := iqb hc26 hp
   refine zz 7 ?_
   refine zs 60 (v := .int .i64 (IntKind.i64.wrap ((k18 : Int) + 1))) (v' := .int .i64 ((k18 : Int) + 1)) (vint (wi64 (wk0 k18) (wk1 ht19 hb18))) ?_
   refine zz 2 ?_
   refine znext (fun a h => H18 (k18 + 1) _ a h ⟨_, C25.tail, (Le3 j18 j22 j25), hp⟩ ?_)
   exact mu_lt ht19
  rw [List.drop_eq_nil_of_le (nlt_of_int ht19), clearwaylaw24_Long_l18] at hp
  refine zz 5 ?_
  exact znext (fun a h => H17 () _ a h ⟨_, C18, j18, hp⟩)
 intro K27 H27
 refine zz 6 ?_
 have hb28 : (p0.ownNoise.length : Int) ≤ 9223372036854775807 := lenb (p0a_h4).hcap (p0a_h4).hbig
 refine zlp Tryz.f9 [K27] [1, 1, 9, 1, 0] (fun (k28 : Nat) => [(1, .pointer (some ⟨b3, 0, none⟩)), (3, .int .i64 (k28 : Int))]) (fun (k28 : Nat) w1 => ∃ Y1 : Hid, St E0 w X w1 Y1 [(b3, .cells #[.slice p0a1 p0.height.length p0a2, .slice p0a3 p0.own.length p0a4, .slice p0a5 p0.other.length p0a6, .slice p0a7 p0.advisories.length p0a8, .int .i64 p0.pull, .int .i64 p0.near, .int .i64 p0.steps, .slice p0a9 p0.ownNoise.length p0a10, .slice p0a11 p0.otherNoise.length p0a12, .bool p0.alert.neg, .slice p0a13 p0.alert.ln.length p0a14, .slice p0a15 p0.alert.ld.length p0a16, .bool p0.strengthen.neg, .slice p0a17 p0.strengthen.ln.length p0a18, .slice p0a19 p0.strengthen.ld.length p0a20, .bool p0.reversal.neg, .slice p0a21 p0.reversal.ln.length p0a22, .slice p0a23 p0.reversal.ld.length p0a24] 30 (0, 0))] ∧ Le (rd w3 Y3) (rd w1 Y1) ∧ clearwaylaw24_Long_l28 J10 (p0.ownNoise.drop k28)  = some y) (fun (k28 : Nat) => p0.ownNoise.length - k28) 0 ?_ ?_
 ·
  exact ⟨_, C3, Le.refl _, hp⟩
 rintro k28 w28 K28 H28 ⟨Y28, C28, j28, hp⟩
 refine zz 5 ?_
 refine zo 0 C28 ?_
 refine zz 4 ?_
 refine zt 43 (p := (k28 : Int) < (p0.ownNoise.length : Int)) (fun ht29 => ?_) (fun ht29 => ?_)
 ·
  have hob := get_lt (l := p0.ownNoise) (k := k28) (lt_of_int ht29)
  obtain ⟨x28, hqx28⟩ := hob
  rw [dropC hqx28, clearwaylaw24_Long_l28] at hp
  have hzx28 : (0 : Int) ≤ (k28 : Int) := Int.natCast_nonneg _
  refine zz 8 ?_
  refine zo 0 C28 ?_
  refine zz 1 ?_
  have hob := p0a_h4.opn hqx28
  obtain ⟨be30, oe30, rfl, j30, hEe30⟩ := hob
  obtain ⟨e301, e302, e303, e304, e30_at, e30_h0, e30_h1⟩ := hEe30
  refine zi (b := be30) (off := oe30) (len := p0.ownNoise.length) (cap := p0a10) (kd := .i64) (i := (k28 : Int)) 4 (oe30 + k28 * 4) ?_ (h0 := hzx28) (h1 := (ix_b hzx28 j30))
  refine zz 1 ?_
  refine zl ((e30_at.mono (Le2 j3 j28)).sub 1 3).cells ?_
  refine zn (fun b => .slice (some ⟨b, 0, none⟩) 1 1) (.cells #[.bool x28.p.neg, .slice e301 x28.p.ln.length e302, .slice e303 x28.p.ld.length e304] 28 (0, 0)) C28 ?_
  intro b32 w32 Y32 C32 j32 hu32
  refine bndk hp fun y34 hy34 hp => ?_
  refine zc C32 (clearwaylaw06_Long_c _ X0 (X0_lt _) ([x28.p]) _ ⟨_, _, rfl, (Rats.ofSl (SlR.lit (El := RatAt) (size := 3) (n := 1) [⟨x28.p, [.bool x28.p.neg, .slice e301 x28.p.ln.length e302, .slice e303 x28.p.ld.length e304]⟩] (C32.at0 0 rfl rfl) (List.forall_mem_cons.2 ⟨⟨rfl, fun r2 h2 b o h9 => ⟨_, _, _, _, _, _, h9, (((e30_h0.mono (Le3 j3 j28 j32)).mono Le.x0).mono h2), (((e30_h1.mono (Le3 j3 j28 j32)).mono Le.x0).mono h2)⟩⟩, (List.forall_mem_nil _)⟩) rfl (by decide)))⟩ y34 hy34) ?_ (vs := #[.slice (some ⟨b32, 0, none⟩) 1 1])
  rintro v35 w35 C35 j35 hu35 rfl
  refine zz 2 ?_
  refine zb 53 (b := y34) (fun hc36 => ?_) (fun hc36 => ?_)
  ·
   have hp := ipb hc36 hp
   refine zz 12 ?_
   refine zr' (v := .bool true) ?_
   have hob := Option.some.inj hp
   subst hob
   exact ⟨C35.upd, _, rfl, rfl⟩
  have hp := iqb hc36 hp
  refine zz 7 ?_
  refine zs 45 (v := .int .i64 (IntKind.i64.wrap ((k28 : Int) + 1))) (v' := .int .i64 ((k28 : Int) + 1)) (vint (wi64 (wk0 k28) (wk1 ht29 hb28))) ?_
  refine zz 2 ?_
  refine znext (fun a h => H28 (k28 + 1) _ a h ⟨_, C35.tail, (Le3 j28 j32 j35), hp⟩ ?_)
  exact mu_lt ht29
 rw [List.drop_eq_nil_of_le (nlt_of_int ht29), clearwaylaw24_Long_l28] at hp
 refine zz 5 ?_
 exact znext (fun a h => H27 () _ a h ⟨_, C28, j28, hp⟩)
noncomputable def clearwaylaw24_small_p : Option (ModelD) :=
  (rat_From_p (1 : Int)).bind fun y5 => (clearwaylaw24_of_p (1 : Int) (10 : Int)).bind fun y18 => some (ModelD.mk ([(-100), 0, 100]) ([0, 10]) ([0]) ([(BoundsD.mk 0 0 0), (BoundsD.mk 1 10 20)]) 5 50 0 ([(NoiseD.mk 0 y5)]) ([(NoiseD.mk 0 y5)]) y18 Raw.zero Raw.zero)
theorem clearwaylaw24_small_c (w : World) (X : Hid) (hX : ∀ k o, X k o → k < w.heap.size)  (y : ModelD) (hp : clearwaylaw24_small_p = some y) : Calls Tryz.prog 50 #[] w (Ret E0 w fun w' v => ModelDV (rd w' (old w)) v y) := by
 unfold clearwaylaw24_small_p at hp
 refine zen Tryz.func50 ?_
 have C0 : St E0 w X w X [] := St.start hX
 refine zz 2 ?_
 refine zn pn (.cells #[.slice none 0 0, .slice none 0 0, .slice none 0 0, .slice none 0 0, .int .i64 0, .int .i64 0, .int .i64 0, .slice none 0 0, .slice none 0 0, .bool false, .slice none 0 0, .slice none 0 0, .bool false, .slice none 0 0, .slice none 0 0, .bool false, .slice none 0 0, .slice none 0 0] 30 (0, 0)) C0 ?_
 intro b3 w3 Y3 C3 j3 hu3
 refine zz 4 ?_
 refine bndk hp fun y5 hy5 hp => ?_
 refine zc C3 (rat_From_c _ X0 (X0_lt _) (1 : Int) y5 hy5) ?_
 rintro v6 w6 C6 j6 hu6 ⟨u6_0_1, u6_0_2, u6_0_3, u6_0_4, u6_0_5, u6_0_6, rfl, u6_0__h0, u6_0__h1⟩
 have hob := u6_0__h0.hlen
 subst hob
 have hob := u6_0__h1.hlen
 subst hob
 refine zz 1 ?_
 refine zn (fun b => .slice (some ⟨b, 0, none⟩) 1 1) (.cells #[.int .i64 0, .bool y5.neg, .slice u6_0_1 y5.ln.length u6_0_3, .slice u6_0_4 y5.ld.length u6_0_6] 58 (0, 0)) C6 ?_
 intro b8 w8 Y8 C8 j8 hu8
 refine zz 5 ?_
 refine zn (fun b => .slice (some ⟨b, 0, none⟩) 3 3) (.cells #[.int .i64 (-100), .int .i64 0, .int .i64 100] 3 (0, 0)) C8 ?_
 intro b10 w10 Y10 C10 j10 hu10
 refine zn (fun b => .slice (some ⟨b, 0, none⟩) 2 2) (.cells #[.int .i64 0, .int .i64 10] 3 (0, 0)) C10 ?_
 intro b12 w12 Y12 C12 j12 hu12
 refine zn (fun b => .slice (some ⟨b, 0, none⟩) 1 1) (.cells #[.int .i64 0] 3 (0, 0)) C12 ?_
 intro b14 w14 Y14 C14 j14 hu14
 refine zz 2 ?_
 refine zn (fun b => .slice (some ⟨b, 0, none⟩) 2 2) (.cells #[.int .u8 0, .int .i64 0, .int .i64 0, .int .u8 1, .int .i64 10, .int .i64 20] 60 (0, 0)) C14 ?_
 intro b16 w16 Y16 C16 j16 hu16
 refine zz 2 ?_
 refine bndk hp fun y18 hy18 hp => ?_
 refine zc C16 (clearwaylaw24_of_c _ X0 (X0_lt _) (1 : Int) (10 : Int) y18 hy18) ?_
 rintro v19 w19 C19 j19 hu19 ⟨u19_0_1, u19_0_2, u19_0_3, u19_0_4, u19_0_5, u19_0_6, rfl, u19_0__h0, u19_0__h1⟩
 have hob := u19_0__h0.hlen
 subst hob
 have hob := u19_0__h1.hlen
 subst hob
 refine zz 1 ?_
 refine zx 5 #[.slice (some ⟨b10, 0, none⟩) 3 3, .slice (some ⟨b12, 0, none⟩) 2 2, .slice (some ⟨b14, 0, none⟩) 1 1, .slice (some ⟨b16, 0, none⟩) 2 2, .int .i64 5, .int .i64 50, .int .i64 0, .slice (some ⟨b8, 0, none⟩) 1 1, .slice (some ⟨b8, 0, none⟩) 1 1, .bool y18.neg, .slice u19_0_1 y18.ln.length u19_0_3, .slice u19_0_4 y18.ld.length u19_0_6, .bool false, .slice none 0 0, .slice none 0 0, .bool false, .slice none 0 0, .slice none 0 0] C19 ?_
 intro w20 C20 j20
 refine zz 3 ?_
 refine zrS [.cell 0 30] (v := .agg #[.slice (some ⟨b10, 0, none⟩) 3 3, .slice (some ⟨b12, 0, none⟩) 2 2, .slice (some ⟨b14, 0, none⟩) 1 1, .slice (some ⟨b16, 0, none⟩) 2 2, .int .i64 5, .int .i64 50, .int .i64 0, .slice (some ⟨b8, 0, none⟩) 1 1, .slice (some ⟨b8, 0, none⟩) 1 1, .bool y18.neg, .slice u19_0_1 y18.ln.length u19_0_3, .slice u19_0_4 y18.ld.length u19_0_6, .bool false, .slice none 0 0, .slice none 0 0, .bool false, .slice none 0 0, .slice none 0 0]) (Res.cM C20 5 Res.nil) ?_
 have hob := St.pubAt 3 C20 rfl
 obtain ⟨Y21, hSx21, j21, hat21, hatN21⟩ := hob
 have C21 : St E0 w X w20 Y21 [(b16, .cells #[.int .u8 0, .int .i64 0, .int .i64 0, .int .u8 1, .int .i64 10, .int .i64 20] 60 (0, 0)), (b14, .cells #[.int .i64 0] 3 (0, 0)), (b12, .cells #[.int .i64 0, .int .i64 10] 3 (0, 0)), (b8, .cells #[.int .i64 0, .bool y5.neg, .slice u6_0_1 y5.ln.length u6_0_3, .slice u6_0_4 y5.ld.length u6_0_6] 58 (0, 0)), (b3, .cells #[.slice (some ⟨b10, 0, none⟩) 3 3, .slice (some ⟨b12, 0, none⟩) 2 2, .slice (some ⟨b14, 0, none⟩) 1 1, .slice (some ⟨b16, 0, none⟩) 2 2, .int .i64 5, .int .i64 50, .int .i64 0, .slice (some ⟨b8, 0, none⟩) 1 1, .slice (some ⟨b8, 0, none⟩) 1 1, .bool y18.neg, .slice u19_0_1 y18.ln.length u19_0_3, .slice u19_0_4 y18.ld.length u19_0_6, .bool false, .slice none 0 0, .slice none 0 0, .bool false, .slice none 0 0, .slice none 0 0] 30 (0, 0))] := hSx21
 have hR21 : Ints (rd w20 (orN Y21 w.heap.size)) (some ⟨b10, 0, none⟩) 3 3 [(-100), 0, 100] := (SlR.lit (El := IntAt) (size := 1) (n := 3) [⟨((-100) : Int), [.int .i64 (-100)]⟩, ⟨(0 : Int), [.int .i64 0]⟩, ⟨(100 : Int), [.int .i64 100]⟩] (hatN21 _ (Nat.le_refl _)) (List.forall_mem_cons.2 ⟨⟨rfl, fun r2 h2 b o h9 => h9⟩, (List.forall_mem_cons.2 ⟨⟨rfl, fun r2 h2 b o h9 => h9⟩, (List.forall_mem_cons.2 ⟨⟨rfl, fun r2 h2 b o h9 => h9⟩, (List.forall_mem_nil _)⟩)⟩)⟩) rfl (by decide))
 have hob := St.pubAt 2 C21 rfl
 obtain ⟨Y22, hSx22, j22, hat22, hatN22⟩ := hob
 have C22 : St E0 w X w20 Y22 [(b16, .cells #[.int .u8 0, .int .i64 0, .int .i64 0, .int .u8 1, .int .i64 10, .int .i64 20] 60 (0, 0)), (b14, .cells #[.int .i64 0] 3 (0, 0)), (b8, .cells #[.int .i64 0, .bool y5.neg, .slice u6_0_1 y5.ln.length u6_0_3, .slice u6_0_4 y5.ld.length u6_0_6] 58 (0, 0)), (b3, .cells #[.slice (some ⟨b10, 0, none⟩) 3 3, .slice (some ⟨b12, 0, none⟩) 2 2, .slice (some ⟨b14, 0, none⟩) 1 1, .slice (some ⟨b16, 0, none⟩) 2 2, .int .i64 5, .int .i64 50, .int .i64 0, .slice (some ⟨b8, 0, none⟩) 1 1, .slice (some ⟨b8, 0, none⟩) 1 1, .bool y18.neg, .slice u19_0_1 y18.ln.length u19_0_3, .slice u19_0_4 y18.ld.length u19_0_6, .bool false, .slice none 0 0, .slice none 0 0, .bool false, .slice none 0 0, .slice none 0 0] 30 (0, 0))] := hSx22
 have hR22 : Ints (rd w20 (orN Y22 w.heap.size)) (some ⟨b12, 0, none⟩) 2 2 [0, 10] := (SlR.lit (El := IntAt) (size := 1) (n := 2) [⟨(0 : Int), [.int .i64 0]⟩, ⟨(10 : Int), [.int .i64 10]⟩] (hatN22 _ (Nat.le_refl _)) (List.forall_mem_cons.2 ⟨⟨rfl, fun r2 h2 b o h9 => h9⟩, (List.forall_mem_cons.2 ⟨⟨rfl, fun r2 h2 b o h9 => h9⟩, (List.forall_mem_nil _)⟩)⟩) rfl (by decide))
 have hob := St.pubAt 1 C22 rfl
 obtain ⟨Y23, hSx23, j23, hat23, hatN23⟩ := hob
 have C23 : St E0 w X w20 Y23 [(b16, .cells #[.int .u8 0, .int .i64 0, .int .i64 0, .int .u8 1, .int .i64 10, .int .i64 20] 60 (0, 0)), (b8, .cells #[.int .i64 0, .bool y5.neg, .slice u6_0_1 y5.ln.length u6_0_3, .slice u6_0_4 y5.ld.length u6_0_6] 58 (0, 0)), (b3, .cells #[.slice (some ⟨b10, 0, none⟩) 3 3, .slice (some ⟨b12, 0, none⟩) 2 2, .slice (some ⟨b14, 0, none⟩) 1 1, .slice (some ⟨b16, 0, none⟩) 2 2, .int .i64 5, .int .i64 50, .int .i64 0, .slice (some ⟨b8, 0, none⟩) 1 1, .slice (some ⟨b8, 0, none⟩) 1 1, .bool y18.neg, .slice u19_0_1 y18.ln.length u19_0_3, .slice u19_0_4 y18.ld.length u19_0_6, .bool false, .slice none 0 0, .slice none 0 0, .bool false, .slice none 0 0, .slice none 0 0] 30 (0, 0))] := hSx23
 have hR23 : Ints (rd w20 (orN Y23 w.heap.size)) (some ⟨b14, 0, none⟩) 1 1 [0] := (SlR.lit (El := IntAt) (size := 1) (n := 1) [⟨(0 : Int), [.int .i64 0]⟩] (hatN23 _ (Nat.le_refl _)) (List.forall_mem_cons.2 ⟨⟨rfl, fun r2 h2 b o h9 => h9⟩, (List.forall_mem_nil _)⟩) rfl (by decide))
 have hob := St.pubAt 0 C23 rfl
 obtain ⟨Y24, hSx24, j24, hat24, hatN24⟩ := hob
 have C24 : St E0 w X w20 Y24 [(b8, .cells #[.int .i64 0, .bool y5.neg, .slice u6_0_1 y5.ln.length u6_0_3, .slice u6_0_4 y5.ld.length u6_0_6] 58 (0, 0)), (b3, .cells #[.slice (some ⟨b10, 0, none⟩) 3 3, .slice (some ⟨b12, 0, none⟩) 2 2, .slice (some ⟨b14, 0, none⟩) 1 1, .slice (some ⟨b16, 0, none⟩) 2 2, .int .i64 5, .int .i64 50, .int .i64 0, .slice (some ⟨b8, 0, none⟩) 1 1, .slice (some ⟨b8, 0, none⟩) 1 1, .bool y18.neg, .slice u19_0_1 y18.ln.length u19_0_3, .slice u19_0_4 y18.ld.length u19_0_6, .bool false, .slice none 0 0, .slice none 0 0, .bool false, .slice none 0 0, .slice none 0 0] 30 (0, 0))] := hSx24
 have hR24 : BoundsDS (rd w20 (orN Y24 w.heap.size)) (some ⟨b16, 0, none⟩) 2 2 [(BoundsD.mk 0 0 0), (BoundsD.mk 1 10 20)] := (SlR.lit (El := BoundsDAt) (size := 3) (n := 2) [⟨(BoundsD.mk 0 0 0), [.int .u8 0, .int .i64 0, .int .i64 0]⟩, ⟨(BoundsD.mk 1 10 20), [.int .u8 1, .int .i64 10, .int .i64 20]⟩] (hatN24 _ (Nat.le_refl _)) (List.forall_mem_cons.2 ⟨⟨rfl, fun r2 h2 b o h9 => h9⟩, (List.forall_mem_cons.2 ⟨⟨rfl, fun r2 h2 b o h9 => h9⟩, (List.forall_mem_nil _)⟩)⟩) rfl (by decide))
 have hob := St.pubAt 0 C24 rfl
 obtain ⟨Y25, hSx25, j25, hat25, hatN25⟩ := hob
 have C25 : St E0 w X w20 Y25 [(b3, .cells #[.slice (some ⟨b10, 0, none⟩) 3 3, .slice (some ⟨b12, 0, none⟩) 2 2, .slice (some ⟨b14, 0, none⟩) 1 1, .slice (some ⟨b16, 0, none⟩) 2 2, .int .i64 5, .int .i64 50, .int .i64 0, .slice (some ⟨b8, 0, none⟩) 1 1, .slice (some ⟨b8, 0, none⟩) 1 1, .bool y18.neg, .slice u19_0_1 y18.ln.length u19_0_3, .slice u19_0_4 y18.ld.length u19_0_6, .bool false, .slice none 0 0, .slice none 0 0, .bool false, .slice none 0 0, .slice none 0 0] 30 (0, 0))] := hSx25
 have hc1_ := (Le11 j8 j10 j12 j14 j16 j19 j20 j21 j22 j23 j24).trans j25
 have hR25 : NoiseDS (rd w20 (orN Y25 w.heap.size)) (some ⟨b8, 0, none⟩) 1 1 [(NoiseD.mk 0 y5)] := (SlR.lit (El := NoiseDAt) (size := 4) (n := 1) [⟨(NoiseD.mk 0 y5), [.int .i64 0, .bool y5.neg, .slice u6_0_1 y5.ln.length u6_0_3, .slice u6_0_4 y5.ld.length u6_0_6]⟩] (hatN25 _ (Nat.le_refl _)) (List.forall_mem_cons.2 ⟨⟨rfl, fun r2 h2 b o h9 => ⟨_, _, _, _, h9, ((u6_0__h0.mono (Le.own C3.lt C3.upd.size hc1_)).mono h2), ((u6_0__h1.mono (Le.own C3.lt C3.upd.size hc1_)).mono h2)⟩⟩, (List.forall_mem_nil _)⟩) rfl (by decide))
 have hob := Option.some.inj hp
 subst hob
 have hc2_ := (Le3 j22 j23 j24).trans j25
 have hc3_ := (Le5 j20 j21 j22 j23 j24).trans j25
 exact ⟨C25.upd, _, rfl, ⟨_, _, _, _, _, _, _, _, _, _, _, _, _, _, _, _, _, _, _, _, _, _, _, _, rfl, ((hR21.mono (Le.or hc2_ _))).mono Le.orr, ((hR22.mono (Le.or (Le3 j23 j24 j25) _))).mono Le.orr, ((hR23.mono (Le.or (Le2 j24 j25) _))).mono Le.orr, ((hR24.mono (Le.or j25 _))).mono Le.orr, ((hR25.mono (Le.or (Le.refl _) _))).mono Le.orr, ((hR25.mono (Le.or (Le.refl _) _))).mono Le.orr, ((u19_0__h0.mono (Le.own C16.lt C16.upd.size hc3_))).mono Le.orr, ((u19_0__h1.mono (Le.own C16.lt C16.upd.size hc3_))).mono Le.orr, Limbs.nil0, Limbs.nil0, Limbs.nil0, Limbs.nil0⟩⟩
end Go.Proofs.YtppalofalmieaaaGreat

import Derived.WideShapes
import Derived.Shelf.Strings.Builder1
import Derived.Shelf.Strconv.Itoa3
import Derived.LaidSub
import Derived.Lib.LaidTab
import Derived.LaidMore
import Derived.Lay
import Derived.Test.YtfijdjigiapnbaaGreatDoorRows
import Derived.WalkKit
import Derived.BigCall
import Derived.LoopTactic
import Derived.Lib.AppendIntMem
import Derived.Lib.ItoaLen
import Derived.Shelf.SlIterI.Nil
import Derived.Shelf.SortM.Plain
import Derived.Shelf.SortM.SortNone
import Derived.Lib.SliceRun
import Derived.OwnWalk
import Derived.Test.YtfijdjigiapnbaaGreatDoorBaseA
import Derived.Test.YtfijdjigiapnbaaGreatDoorBaseB
import Derived.Test.YtfijdjigiapnbaaGreatDoorBaseC
import Derived.Test.YtfijdjigiapnbaaGreatDoorBaseD
import Derived.Test.YtfijdjigiapnbaaGreatDoorBaseE
set_option linter.unusedVariables false
set_option linter.unusedSimpArgs false
set_option linter.unnecessarySimpa false
namespace Go.Ev
open Go Go.Gv Go.RowKit IntKind
def dD : Bool → Code → Option Code
 | false,.seq x _ => some x
 | true,.seq _ y => some y
 | false,.cond _ x _ => some x
 | true,.cond _ _ y => some y
 | false,.block _ x => some x
 | false,.scope x => some x
 | false,.loop x => some x
 | _,_ => none
def cAt (P : Program) (f : Nat) : List Bool → Option Code
 | [] => (P.funcs[f]?).bind fun fn => fn.body
 | b :: p => (cAt P f p).bind (dD b)
def Tr (P : Program) (c : Code) (s : S) (e : Ex) (s' : S) : Prop :=
 ∀ (E : Nat → Prop) (w0 : World) (X : Hid) (F : List Nat) (n : Nat) (a : Act) (D : List Deferred) (B : Bm) (w : World) (Y : Hid) (Mo : List (Nat × Obj)) (rr : Option Nat) (Q : Exit → Act → World → Prop),
  (rr = none ∨ noR c = true) → Wd P E w0 X F s.H B w Y Mo → FrT n a s.L D B (rd w Y) → pW P E w0 X F n D (noR c) e s' B (rd w Y) Q → c.wpIn (FF rr) 0 P Q a w
def zTt (P : Program) (LO : Lo) : Prop := ∀ f p s d,LO f p s = some d → ∀ x,cAt P f p = some (.loop x) → ∀ e s',d.run = some (e,s') → Tr P (.loop x) s e s'
def bU (P : Program) (OD : Od) : Prop := ∀ f g,OD f = some g → ∀ az tv nw,(g az).run = some (tv,nw) → ∀ k,KnP P k f az tv nw
def zFy (P : Program) (rn : Rd') : Prop := ∀ f p c s e s',cAt P f p = some c → (rn f p c s).run = some (e,s') → Tr P c s e s'
section
variable {P : Program} {OD : Od} {LO : Lo} {rn : Rd'} {H H' : List TO} {L : List T} {ops : Array Oper} {o : Oper} {s s' : S}
theorem bU.po (h : bU P OD) : zL P (poR OD) := by
 intro f az tv nw e
 unfold poR at e
 cases hf : OD f with
 | none => simp [hf] at e
 | some g => rw [hf] at e; exact h f g hf az tv nw e
theorem qAg {t : T} {n : Nat} (h : (qFs t).run = some n) : wK t = some n := by
 unfold qFs at h
 split at h
 ·rename_i a
  obtain ⟨h1,h2⟩ := zY h
  cases a with
  | ofNat m => cases h2; rfl
  | negSucc m => cases h1
 ·cases h
theorem zZi {a : Int} (h : inW a = true) : i64.wrap a = a := by
 have h2 : -9223372036854775808 ≤ a ∧ a < 9223372036854775808 := by
  cases a with
  | ofNat n => simp only [inW,Nat.blt_eq] at h; simp only [Int.ofNat_eq_natCast]; omega
  | negSucc n => simp only [inW,Nat.blt_eq] at h; omega
 have e : i64.wrap a = if a % 18446744073709551616 ≥ 9223372036854775808 then a % 18446744073709551616 - 18446744073709551616 else a % 18446744073709551616 := by
  unfold IntKind.wrap
  simp [IntKind.bits,IntKind.signed]
 rw [e]
 split <;> omega
theorem zOz {a : Int} {v : Value} (h : (arD a).run = some v) : v = .int .i64 (wr .i64 a) := by
 obtain ⟨h1,h2⟩ := zY h
 cases h2
 rw [qJc,zZi h1]
theorem qFc {k : IntKind} (h : qLr k = true) : k = .i64 := by cases k <;> first | rfl | cases h
theorem qDr {op : BinOp} {k : IntKind} {a b : Int} {v : Value} (h : (qKd op k a b).run = some v) : zTy op k a b = some v := by
 unfold qKd at h
 cases hk : qLr k with
 | false => rw [hk,cond_false,kI] at h; exact h
 | true =>
  rw [hk,cond_true] at h
  obtain rfl := qFc hk
  split at h
  ·rw [zOz h]; rfl
  ·rw [zOz h]; rfl
  ·rw [zOz h]; rfl
  ·rw [kI] at h; exact h
theorem vY {t : T} {z : T × Option TO} (h : (zBr t).run = some z) : val t = some z := by cases h; rfl
theorem qDp {op : BinOp} {x y : T} {d : DT (T × Option TO)} {z : T × Option TO} (h : qKc op x y = some d) (hz : d.run = some z) (t : TypeId) : zVl P op t x y = some z := by
 unfold qKc at h
 split at h
 ·rename_i k a k' b
  cases ha : arOp op with
  | false => simp [ha] at h
  | true =>
   simp only [ha,cond_true,Option.some.injEq] at h
   subst h
   cases hk : Nat.beq (kind k) (kind k') with
   | false => simp [hk,DT.run] at hz
   | true =>
    simp only [hk,cond_true] at hz
    obtain ⟨v,h1,h2⟩ := zN hz
    simp only [zVl,bin,hk,cond_true,qDr h1]
    exact vY h2
 ·cases h
theorem qGq {c a b : T} {z : T × Option TO} (h : (qBx c a b).run = some z) : zHx c a b = some z := by
 unfold qBx at h
 unfold zHx
 split at h
 ·rename_i c
  cases c with
  | true => exact vY h
  | false => exact vY h
 ·cases h
theorem qLo {t : TypeId} {x i : T} {z : T × Option TO} (h : (qLn P t x i).run = some z) : vK P t x i = some z := by
 unfold qLn at h
 obtain ⟨n,h1,h2⟩ := zN h
 have h1 := qAg h1
 unfold vK
 simp only [h1]
 split at h2
 ·rename_i e he
  simp only [he]
  cases hl : ldT P e with
  | none => simp [hl,DT.run] at h2
  | some gs =>
   obtain ⟨g,s⟩ := gs
   simp only [hl] at h2 ⊢
   split at h2
   ·rename_i g' A l
    cases hb : Nat.beq s A.size with
    | false => simp [hb,DT.run] at h2
    | true =>
     simp only [hb,cond_true] at h2
     obtain ⟨h3,h4⟩ := zY h2
     simp only [hb,h3,Bool.and_self,cond_true]
     exact vY h4
   ·obtain ⟨h3,h4⟩ := zY h2; simp only [h3,cond_true]; exact vY h4
   ·obtain ⟨h3,h4⟩ := zY h2; simp only [h3,cond_true]; exact vY h4
   ·obtain ⟨h3,h4⟩ := zY h2; simp only [h3,cond_true]; exact vY h4
   ·obtain ⟨h3,h4⟩ := zY h2; simp only [h3,cond_true]; exact vY h4
   ·cases h2
 ·rw [kI] at h2
  unfold vK at h2
  simp only [wK] at h2
  exact h2
theorem qBg {ρ : Operand → T} {d n : Nat} {x : Option Operand} (h : (qPi ρ d x).run = some n) : opt ρ d x = some n := by
 cases x with
 | none => cases h; rfl
 | some x => exact qAg h
theorem qQj {t : TypeId} {g : Bool} {A : Ty} {l : List A.den} {ρ : Operand → T} {lo hi : Option Operand} {z : T × Option TO} (h : (qQi P t g A l ρ lo hi).run = some z) : tY P t (.ls g A l) ρ lo hi none = some z := by
 unfold qQi at h
 unfold tY
 cases he : elT P t with
 | none => simp [he,DT.run] at h
 | some e =>
  simp only [he] at h ⊢
  cases hl : ldT P e with
  | none => simp [hl,DT.run] at h
  | some gs =>
   obtain ⟨q,s⟩ := gs
   simp only [hl] at h ⊢
   cases hb : Nat.beq s A.size with
   | false => simp [hb,DT.run] at h
   | true =>
    simp only [hb,cond_true] at h
    obtain ⟨a,h1,h⟩ := zN h
    obtain ⟨b,h2,h⟩ := zN h
    obtain ⟨h3,h⟩ := zY h
    obtain ⟨h4,h⟩ := zY h
    simp only [jC,qBg h1,qBg h2,xZ,sI,hb,h3,h4,Bool.and_self,cond_true,zWa]
    exact vY h
theorem zNs {ρ : Operand → T} {op : Op} {d : DT (T × Option TO)} {z : T × Option TO} (h : zEy P ρ op = some d) (hz : d.run = some z) (H : List TO) (k : Nat) : yZ P H k ρ op = some z := by
 unfold zEy at h
 split at h
 ·exact qDp h hz _
 ·cases h; exact qGq hz
 ·cases h; exact qLo hz
 ·rename_i t x lo hi
  split at h
  ·rename_i g A l e
   cases h
   show tY P t (dn (ρ x)) (fun y => dn (ρ y)) lo hi none = some z
   rw [e]
   exact qQj hz
  ·cases h
 ·cases h
theorem qBz {ρ : Operand → T} {op : Op} {d : DT (T × Option TO)} (h : zEy P ρ op = some d) : ∀ c,op ≠ .call c := by
 intro c e
 subst e
 cases h
theorem zIm {e : TypeId} {s N : Nat} (h : zTv P e s = true) (hN : Nat.ble N 1000000 = true) : fZ P e s N = true := by
 unfold zTv at h
 unfold fZ
 cases h1 : P.info? e with
 | none => simp [h1] at h
 | some i =>
  cases h2 : zer P e with
  | none => simp [h1,h2] at h
  | some z =>
   simp only [h1,h2,Bool.and_eq_true] at h ⊢
   exact ⟨h.1,hN,h.2⟩
theorem zIr {α : Type} {c : Cs} {n s : Nat} {d : DT α} {y : α} (h : (zXr c n s d).run = some y) : Nat.beq (ln c.list) (n * s) = true ∧ d.run = some y := by
 unfold zXr at h
 split at h
 ·exact zY h
 ·rename_i g A x
  cases hs : Nat.beq s A.size with
  | false => simp [hs,DT.run] at h
  | true =>
   rw [hs,cond_true] at h
   obtain ⟨h1,h2⟩ := zY h
   obtain rfl := qD hs
   have h1 := qD h1
   refine ⟨?_,h2⟩
   show Nat.beq (ln (qN g A x)) (n * A.size) = true
   rw [qO,kV,h1]
   exact Nat.beq_refl _
theorem zNh {i o n s : Nat} {cs : Cs} {e' : TypeId} (h : nth .gone H i = .gro cs e') (ho : Nat.beq o 0 = true) (hn : Nat.beq (ln cs.list) (n * s) = true) : qE H s (.og i o n) = some cs.list := by
 obtain rfl := qD ho
 have hn := qD hn
 rw [qO] at hn
 simp only [qE,h,rC]
 rw [tF,List.drop_zero,← hn]
 exact mJ cs.list
theorem fG (g : Bool) : ∀ (A : Ty) (x : A.den),kT (qZ g A x) = true
 | .lim,_ => rfl
 | .int _,_ => rfl
 | .bool,_ => rfl
 | .list _,_ => rfl
 | .prod A C,x => by
  have app : ∀ (u v : List T),kT u = true → kT v = true → kT (u ++ v) = true := fun u v h1 h2 => by
   induction u with
   | nil => exact h2
   | cons a u ih =>
    simp only [kT,Bool.and_eq_true] at h1
    simp only [List.cons_append,kT,Bool.and_eq_true]
    exact ⟨h1.1,ih h1.2⟩
  exact app _ _ (fG g A _) (fG g C _)
theorem zHt (g : Bool) (A : Ty) : ∀ l : List A.den,kT (yY g A l) = true
 | [] => rfl
 | x :: l => by
  have app : ∀ (u v : List T),kT u = true → kT v = true → kT (u ++ v) = true := fun u v h1 h2 => by
   induction u with
   | nil => exact h2
   | cons a u ih =>
    simp only [kT,Bool.and_eq_true] at h1
    simp only [List.cons_append,kT,Bool.and_eq_true]
    exact ⟨h1.1,ih h1.2⟩
  exact app _ _ (fG g A x) (zHt g A l)
theorem qAs {y : T} {b : List T} {s : Nat} (hb : qE H s y = some b) (h : zSk y b = true) : kT b = true := by
 unfold zSk at h
 split at h
 ·rename_i g A l
  simp only [qE] at hb
  cases hs : Nat.beq s A.size with
  | false => simp [hs] at hb
  | true =>
   simp only [hs,cond_true,Option.some.injEq] at hb
   subst hb
   exact zHt g A l
 ·exact h
theorem qDl {s : Nat} {x : T} {v : T × List TO} (h : (zXc H s x).run = some v) : ∃ a n,qE H s x = some a ∧ jC x = some n ∧ qDk H x = some v := by
 unfold zXc at h
 split at h
 ·rename_i i o n
  unfold qIl at h
  split at h
  ·rename_i cs e' hg
   cases hz : Nat.beq o 0 with
   | false => simp [hz,DT.run] at h
   | true =>
    rw [hz,cond_true] at h
    obtain ⟨h1,h2⟩ := zIr h
    cases h2
    exact ⟨_,_,zNh hg hz h1,rfl,rfl⟩
  ·cases h
 ·split at h
  ·rename_i a n e1 e2
   rw [kI] at h
   exact ⟨a,n,e1,e2,h⟩
  ·cases h
theorem qRe {t : TypeId} {x y : T} {v : T × List TO} (h : (apD P H t x y).run = some v) : zOy P H t x y = some v := by
 unfold apD at h
 cases he : elT P t with
 | none => simp [he,DT.run] at h
 | some e =>
  simp only [he] at h
  cases hl : ldT P e with
  | none => simp [hl,DT.run] at h
  | some gs =>
   obtain ⟨q,s⟩ := gs
   simp only [hl] at h
   cases hb : qE H s y with
   | none => simp [hb,DT.run] at h
   | some b =>
    cases hm : jC y with
    | none => simp [hb,hm,DT.run] at h
    | some m =>
     simp only [hb,hm] at h
     cases h0 : Nat.beq m 0 with
     | true =>
      rw [h0] at h
      simp only [DT.run,cond_true] at h
      obtain ⟨a,n,h1,h2,h3⟩ := qDl h
      unfold zOy
      simp only [he,hl,hb,hm,h1,h2,h0,cond_true]
      exact h3
     | false =>
      rw [h0] at h
      simp only [DT.run,cond_false] at h
      cases ho : zSk y b with
      | false => simp [ho,DT.run] at h
      | true =>
       rw [ho,cond_true] at h
       have ho := qAs hb ho
       unfold apL at h
       cases hn : jC x with
       | none => simp [hn,DT.run] at h
       | some n =>
        simp only [hn] at h
        cases ha : zTv P e s with
        | false => simp [ha,DT.run] at h
        | true =>
         rw [ha,cond_true] at h
         obtain ⟨h1,hk⟩ := zY h
         clear h
         have h := hk
         clear hk
         unfold zOy
         simp only [he,hl,hb,hm,hn]
         unfold ap1 at h
         split at h
         ·rename_i i o n'
          simp only [jC,Option.some.injEq] at hn
          subst hn
          unfold apG at h
          split at h
          ·rename_i cs e' hg
           cases hz : Nat.beq o 0 && Nat.beq e e' with
           | false => simp [hz,DT.run] at h
           | true =>
            rw [hz,cond_true] at h
            obtain ⟨h2,h⟩ := zIr h
            simp only [Bool.and_eq_true] at hz
            simp only [zNh hg hz.1 h2,h0,cond_false,zIm ha h1,ho,Bool.and_self,cond_true,qDm,qJv,hg,hz.1,hz.2,h2]
            exact h
          ·cases h
         ·cases hc : qE H s x with
          | none => simp [hc,DT.run] at h
          | some a =>
           simp only [hc,hn,kI] at h
           simp only [h0,cond_false,zIm ha h1,ho,Bool.and_self,cond_true]
           exact h
noncomputable def clD (P : Program) (OD : Od) (rn : Rd') : Cl := fun f az H => (zXi P OD rn f az H).run
theorem zYl (hrn : zFy P rn) {f : Nat} {az : List T} {v : T × List TO} (h : (gF P rn f az H).run = some v) : ∃ r : Rn,wV P r ∧ tV P r f az H = some v := by
 unfold gF at h
 cases hf : P.funcs[f]? with
 | none => simp [hf,DT.run] at h
 | some fn =>
  simp only [hf] at h
  cases hb : fn.body with
  | none => simp [hb,DT.run] at h
  | some c =>
   simp only [hb] at h
   cases hl : Nat.ble (ln az) fn.ntmps with
   | false => simp [hl,DT.run] at h
   | true =>
    rw [hl,cond_true] at h
    obtain ⟨⟨e,s⟩,h1,h2⟩ := zN h
    have hc : cAt P f [] = some c := by simp [cAt,hf,hb]
    refine ⟨fun c' s0 => open Classical in if c' = c then (rn f [] c s0).run else none,fun c' s0 e' s' he => ?_,?_⟩
    ·simp only at he
     split at he
     ·rename_i e1; subst e1; exact hrn f [] _ s0 e' s' hc he
     ·cases he
    ·unfold tV
     simp only [hf,hb,hl,cond_true,if_true,h1]
     cases e with
     | x id => cases h2
     | p t => cases h2
     | n =>
      simp only [qQb] at h2
      simp only [zOc]
      cases hr : mD P s.L s.H fn.results.toList with
      | none => rw [hr] at h2; cases h2
      | some r => rw [hr] at h2; exact h2
     | r =>
      simp only [qQb] at h2
      simp only [zOc]
      cases hr : mD P s.L s.H fn.results.toList with
      | none => rw [hr] at h2; cases h2
      | some r => rw [hr] at h2; exact h2
theorem lT {f : T → DT T} {g : T → Option T} (hf : ∀ x y,(f x).run = some y → g x = some y) : ∀ (l : List T) {r : List T},(zEc f l).run = some r → mapO g l = some r
 | [],r,h => by cases h; rfl
 | x :: l,r,h => by
  obtain ⟨y,h1,h2⟩ := zN h
  obtain ⟨r',h3,h4⟩ := zN h2
  cases h4
  simp only [mapO,hf _ _ h1,lT hf l h3]
theorem zBz {nw : Bool} : ∀ (k : Nat) (t : T) {t' : T},(gG nw H k t).run = some t' → jM nw H k t = some t'
 | 0,t,t',h => by cases h
 | k + 1,t,t',h => by
  have ih : ∀ (t : T) {t' : T},(gG nw H k t).run = some t' → jM nw H k t = some t' := fun t t' h => zBz k t h
  have mp : ∀ (l : List T) {r : List T},(zEc (gG nw H k) l).run = some r → mapO (jM nw H k) l = some r := fun l r h => lT (fun x y h => ih x h) l h
  cases t with
  | ag cs => obtain ⟨l,h1,h2⟩ := zN h; cases h2; simp only [jM,mp _ h1]
  | tu cs => obtain ⟨l,h1,h2⟩ := zN h; cases h2; simp only [jM,mp _ h1]
  | fn f cs => obtain ⟨l,h1,h2⟩ := zN h; cases h2; simp only [jM,mp _ h1]
  | os i o n c =>
   simp only [gG] at h
   simp only [jM]
   cases hb : Nat.ble n c && Nat.ble c 9223372036854775807 with
   | false => rw [hb] at h; cases h
   | true =>
    rw [hb,cond_true] at h
    rw [cond_true]
    cases ho : wS (nth .gone H i) with
    | none => simp [ho,DT.run] at h
    | some cs =>
     simp only [ho] at h
     obtain ⟨l,h1,h2⟩ := zN h; cases h2; simp only [mp _ h1]
  | og i o n =>
   simp only [gG] at h
   simp only [jM]
   have hg : ∀ x,zYw nw o n x = none → zPo nw o n x = none := fun x hx => by
    unfold zYw at hx
    unfold zPo
    split at hx
    ·cases hx
    ·rename_i hne
     split
     ·rename_i g A z e; exact absurd rfl (hne g A z e)
     ·rfl
   cases hz : zYw nw o n (nth .gone H i) with
   | some d =>
    simp only [hz] at h
    unfold zYw at hz
    split at hz
    ·rename_i g A x e hn
     cases hz
     cases hb : Nat.beq o 0 && (nR A && (!nw || g)) with
     | false => rw [hb] at h; cases h
     | true =>
      rw [hb,cond_true] at h
      obtain ⟨h1,h2⟩ := zY h
      cases h2
      simp only [zPo,hn,hb,h1,Bool.and_self,cond_true]
    ·cases hz
   | none =>
    simp only [hz] at h
    simp only [hg _ hz]
    cases ho : wS (nth .gone H i) with
    | none => simp [ho,DT.run] at h
    | some cs =>
     simp only [ho] at h
     obtain ⟨l,h1,h2⟩ := zN h; cases h2; simp only [mp _ h1]
  | op i o =>
   simp only [gG] at h
   simp only [jM]
   cases ho : wS (nth .gone H i) with
   | none => simp [ho,DT.run] at h
   | some cs =>
    simp only [ho] at h
    obtain ⟨l,h1,h2⟩ := zN h; cases h2; simp only [mp _ h1]
  | _ => simp only [gG,kI] at h; exact h
theorem qPu {g : List T → DT (T × Bool)} {f : Nat} {az : List T} {v : T × List TO} (hg : OD f = some g) (h : (poD g H az).run = some v) : poC (poR OD) H f az = some v.1 ∧ v.2 = H := by
 unfold poD at h
 unfold poC
 cases ho : zVi az with
 | true =>
  rw [ho,cond_true] at h
  rw [cond_true]
  obtain ⟨az2,hm,h⟩ := zN h
  rw [lT (fun x y h => zBz 12 x h) _ hm]
  obtain ⟨⟨t,b⟩,h1,h2⟩ := zN h
  ·simp only [poR,hg,h1]
   cases b with
   | true => cases h2; exact ⟨rfl,rfl⟩
   | false => cases h2
 | false =>
  rw [ho,cond_false] at h
  rw [cond_false]
  obtain ⟨⟨t,b⟩,h1,h2⟩ := zN h
  simp only [poR,hg,h1]
  cases h2
  exact ⟨rfl,rfl⟩
theorem zXt (hm : P.follows .mixedOrders = true) (hO : bU P OD) (hrn : zFy P rn) : yS P (clD P OD rn) := by
 intro f az H tv H' h
 unfold clD zXi at h
 cases hf : OD f with
 | some g =>
  simp only [hf] at h
  obtain ⟨h1,h2⟩ := qPu hf h
  simp only at h1 h2
  subst h2
  intro E w0 X F B w Y Mo qK R hW hA hk
  exact qCa (k := H'.length) (fun f az tv nw h => hO.po f az tv nw h _) h1 hW.ow hW.ivw hW.bNle hW.st.lt hW.nn hA fun v w' hu hv => hk v w' B Y Mo (hW.call hu) hv (BLe.refl B) (hu.le Y)
 | none =>
  simp only [hf] at h
  obtain ⟨r,h1,h2⟩ := zYl hrn h
  exact aC h1 _ _ _ _ _ h2
theorem qAm : kF P noC := fun _ _ _ _ _ h => by cases h
theorem qPd {cl cl' yd yd' : Cl} {d : Option Nat} {op : Op} (h : ∀ c f,op = .call c → c.callee ≠ .value f) : opC P cl yd d L H op = opC P cl' yd' d L H op := by
 cases op with
 | call c =>
  simp only [opC]
  split
  ·rename_i f e; exact absurd e (h c f rfl)
  ·rfl
 | _ => rfl
theorem zSm {cl cl' yd yd' : Cl} (h : ∀ c f,o.op = .call c → c.callee ≠ .value f) : nW P cl yd o L H = nW P cl' yd' o L H := by
 unfold nW zNi
 rw [qPd h]
theorem qKg {az : List T} {t : T} {d : Option Nat} {cl : Cl} (hcl : ∀ f az H,cl f az H = (zXi P OD rn f az H).run) (h : ((qKf P OD rn az H t).bind (qKx d L)).run = some s') (yd : Cl) : zAr P cl yd d L H az t = some s' := by
 obtain ⟨⟨v,H'⟩,h1,h2⟩ := zN h
 unfold qKf at h1
 unfold zAr
 split at h1
 ·rename_i f cs
  cases he : jJ P f with
  | false => simp [he,DT.run] at h1
  | true =>
   rw [he,cond_true] at h1
   simp only [he,cond_true,hcl,h1,aG]
   exact h2
 ·rename_i f bs
  cases he : jJ P f with
  | false => simp [he,DT.run] at h1
  | true =>
   rw [he,cond_true] at h1
   simp only [he,cond_true,hcl,h1,aG]
   exact h2
 ·cases h1
theorem zSl (h : (qFy P OD rn o L H).run = some s') : nW P (clD P OD rn) noC o L H = some s' := by
 unfold qFy at h
 cases hp : zEy P (evO L) o.op with
 | some d =>
  simp only [hp] at h
  obtain ⟨z,h1,h2⟩ := zN h
  rw [kI] at h2
  unfold nW
  rw [zNs hp h1]
  exact h2
 | none =>
  simp only [hp] at h
  have nc : (∀ c,o.op ≠ .call c) → (ofO (nW P noC noC o L H)).run = some s' → nW P (clD P OD rn) noC o L H = some s' := fun hn h => by
   rw [kI] at h
   rw [zSm (cl' := noC) (yd' := noC) fun c f e => absurd e (hn c)]
   exact h
  split at h
  ·rename_i c ec
   unfold qIq at h
   split at h
   ·rename_i f ef
    unfold nW
    have hpl : yZ P H (ln H) (evO L) o.op = none := by
     rw [ec]; simp only [yZ,zAv]; rw [ef]
    rw [hpl]
    simp only [zNi]
    have hef : aB P H (evO L) o.op = none := by
     rw [ec]; simp only [aB]; rw [ef]
    rw [hef]
    have : opC P (clD P OD rn) noC o.dst L H o.op = some s' := by
     rw [ec]; simp only [opC]; rw [ef]
     exact qKg (OD := OD) (rn := rn) (fun _ _ _ => rfl) h noC
    simp only [this]
   ·rename_i ef
    split at h
    ·rename_i x y t t' e1 e2
     cases hb : Nat.beq t t' with
     | false => simp [hb,DT.run] at h
     | true =>
      rw [hb,cond_true] at h
      obtain ⟨⟨v,H'⟩,h1,h2⟩ := zN h
      have hef : aB P H (evO L) o.op = some (some v,H') := by
       rw [ec]; simp only [aB]; rw [ef,e1,e2]
       simp only [hb,cond_true,qRe h1]
      have hpl : yZ P H (ln H) (evO L) o.op = none := by
       rw [ec]; simp only [yZ,zAv]; rw [ef]
      unfold nW
      rw [hpl]
      simp only [zNi,hef,zMf]
      exact h2
    ·cases h
   ·rename_i hne1 hne2
    rw [kI] at h
    rw [zSm (cl' := noC) (yd' := noC) fun c' f e => by rw [ec] at e; cases e; exact hne1 f]
    exact h
  ·rename_i hne
   exact nc hne h
theorem zFb : ∀ (L : List T) (t : Nat) {x : T},nth .u L t = x → x ≠ .u → put x L t = L
 | [],_,_,h,hx => absurd h.symm hx
 | y :: L,0,x,h,_ => by rw [zNf] at h; rw [zNt,h]
 | y :: L,t + 1,x,h,hx => by rw [zEk] at h; rw [zFc,zFb L t h hx]
theorem qIt (L : List T) (o : Oper) : (gdT ops L o = .free → yP ops L o = some true) ∧ (gdT ops L o = .skip → yP ops L o = some false) ∧ ∀ t c b,gdT ops L o = .on t c b → yP ops L o = some (zTx c b) ∧ nth .u L t = .v (.bool c) := by
 unfold gdT yP
 cases hg : o.guard with
 | none => simp
 | some jb =>
  obtain ⟨j,b0⟩ := jb
  cases hj : ops[j]? with
  | none => simp [hj]
  | some p =>
   cases hd : p.dst with
   | none => simp [hj,hd]
   | some t =>
    cases hx : nth .u L t with
    | v z => cases z <;> simp [hj,hd,hx] <;> (first | (intro t' c' b' e1 e2 e3; subst e1; subst e2; subst e3; exact ⟨rfl,hx⟩) | skip)
    | tu l => cases l <;> simp [hj,hd,hx]
    | _ => simp [hj,hd,hx]
theorem qKm {X Y : S → DT (Ex × S)} {s : S} {c : Operand} {z : Ex × S} (h : (qEa X Y s c).run = some z) : ∃ b,evO s.L c = .v (.bool b) ∧ ((bif b then X else Y) s).run = some z := by
 cases c with
 | tmp t =>
  simp only [qEa] at h
  split at h
  ·rename_i b eb
   have hp : put (.v (.bool b)) s.L t = s.L := zFb s.L t eb (by simp)
   refine ⟨b,eb,?_⟩
   cases b <;> simp only [DT.run,cond_true,cond_false,hp] at h ⊢ <;> exact h
  ·cases h
 | _ =>
  simp only [qEa] at h
  split at h
  ·rename_i b eb
   refine ⟨b,eb,?_⟩
   cases b <;> exact h
  ·cases h
theorem qAr {α : Type} {L : List T} {t : Nat} {c b : Bool} {y n : List T → DT α} {z : α} (hn : nth .u L t = .v (.bool c)) (h : (onS L t c b y n).run = some z) : (zTx c b = true ∧ (y L).run = some z) ∨ (zTx c b = false ∧ (n L).run = some z) := by
 have hp : put (.v (.bool c)) L t = L := zFb L t hn (by simp)
 unfold onS at h
 simp only [DT.run] at h
 cases c <;> cases b <;> simp only [cond_true,cond_false,hp] at h <;> first | exact .inl ⟨rfl,h⟩ | exact .inr ⟨rfl,h⟩
theorem qAt (h : (opD P OD rn ops o s).run = some s') : opE P (clD P OD rn) noC ops o s = some s' := by
 unfold opD at h
 unfold opE
 obtain ⟨g1,g2,g3⟩ := qIt (ops := ops) s.L o
 cases hg : gdT ops s.L o with
 | no => rw [hg] at h; cases h
 | free => rw [hg] at h; rw [g1 hg]; exact zSl h
 | skip => rw [hg] at h; rw [g2 hg]; exact h
 | on t c b =>
  rw [hg] at h
  obtain ⟨k1,k2⟩ := g3 t c b hg
  rw [k1]
  rcases qAr k2 h with ⟨e,h⟩ | ⟨e,h⟩
  ·rw [e]; exact zSl h
  ·rw [e]; exact h
theorem zNl : ∀ (l : List Oper) (s : S),(qBd P OD rn ops l s).run = some s' → zNm P (clD P OD rn) noC ops l s = some s'
 | [],s,h => h
 | o :: l,s,h => by
  obtain ⟨s1,h1,h2⟩ := zN h
  simp only [zNm,qAt h1]
  exact zNl l s1 h2
noncomputable def poH (P : Program) (OD : Od) (rn : Rd') (k : Nat) : Po := fun f az => (puD P OD rn k f az).run
theorem zYu (hm : P.follows .mixedOrders = true) (hrn : zFy P rn) {k f : Nat} {az : List T} {t tv : T} {H1 : List TO} {nw : Bool} (h1 : (gF P rn f (az.map (unN 12)) (pU k)).run = some (t,H1)) (h2 : (aK (t,H1)).run = some (tv,nw)) : KnP P k f az tv nw := by
 obtain ⟨r,hr,he⟩ := zYl hrn h1
 obtain ⟨t',h3,h4⟩ := zN h2
 cases h4
 exact aL (rn := r) (nI hm hr) (by unfold nH; rw [he]) (zBz 12 _ h3)
theorem qPt (hm : P.follows .mixedOrders = true) (hO : bU P OD) (hrn : zFy P rn) {k f : Nat} {az : List T} {tv : T} {nw : Bool} (h : poH P OD rn k f az = some (tv,nw)) : KnP P k f az tv nw := by
 unfold poH puD at h
 cases hf : OD f with
 | some g => simp only [hf] at h; exact hO f g hf az tv nw h k
 | none =>
  simp only [hf] at h
  obtain ⟨⟨t,H1⟩,h1,h2⟩ := zN h
  exact zYu hm hrn h1 h2
theorem qPw {k f : Nat} {az : List T} {z : T × Option TO} (h : (qPv P OD rn k H f az).run = some z) : ∃ t,poC (poH P OD rn k) H f az = some t ∧ z = (t,none) := by
 unfold qPv at h
 unfold poC
 cases ho : zVi az with
 | true =>
  rw [ho,cond_true] at h
  rw [cond_true]
  obtain ⟨az2,hm,h⟩ := zN h
  rw [lT (fun x y h => zBz 12 x h) _ hm]
  obtain ⟨⟨t,b⟩,h1,h2⟩ := zN h
  ·simp only [poH,h1]
   cases b with
   | true => cases h2; exact ⟨_,rfl,rfl⟩
   | false => cases h2
 | false =>
  rw [ho,cond_false] at h
  rw [cond_false]
  obtain ⟨⟨t,b⟩,h1,h2⟩ := zN h
  simp only [poH,h1]
  cases h2
  exact ⟨_,rfl,rfl⟩
theorem qRc {H0 Hn : List TO} {t : TypeId} {x y : T} {z : T × Option TO} (h : (abD P H0 Hn t x y).run = some z) : (∀ i o n,x = .og i o n → zTw P H0 Hn (some i) t x y = some z) ∧ ((∀ i o n,x ≠ .og i o n) → zTw P H0 Hn none t x y = some z) := by
 unfold abD at h
 cases he : elT P t with
 | none => simp [he,DT.run] at h
 | some e =>
  simp only [he] at h
  cases hl : ldT P e with
  | none => simp [hl,DT.run] at h
  | some gs =>
   obtain ⟨q,s⟩ := gs
   simp only [hl] at h
   cases hb : qE Hn s y with
   | none => simp [hb,DT.run] at h
   | some b =>
    cases hm : jC y with
    | none => simp [hb,hm,DT.run] at h
    | some m =>
     cases hn : jC x with
     | none => simp [hb,hm,hn,DT.run] at h
     | some n =>
      simp only [hb,hm,hn] at h
      cases hc : kT b && zTv P e s with
      | false => simp [hc,DT.run] at h
      | true =>
       rw [hc,cond_true] at h
       obtain ⟨hm0,hk0⟩ := zY h
       obtain ⟨h1,hk⟩ := zY hk0
       clear h hk0
       have h := hk
       clear hk
       simp only [Bool.and_eq_true] at hc
       obtain ⟨ho,ha⟩ := hc
       have hm1 : Nat.beq m 0 = false := by simpa using hm0
       unfold abX at h
       split at h
       ·rename_i i o n'
        simp only [jC,Option.some.injEq] at hn
        subst hn
        refine ⟨fun i' o' n'' e1 => ?_,fun hne => absurd rfl (hne i o n')⟩
        cases e1
        unfold abG at h
        split at h
        ·rename_i cs e' hg
         cases hz : Nat.beq o 0 && Nat.beq e e' with
         | false => simp [hz,DT.run] at h
         | true =>
          rw [hz,cond_true] at h
          obtain ⟨h2,h⟩ := zIr h
          simp only [Bool.and_eq_true] at hz
          have hii : Nat.beq i i = true := Nat.beq_refl i
          unfold zTw
          simp only [he,hl,hb,hm,zXf,hii,hz.1,hz.2,hg,h2,Bool.and_self,cond_true,hm1,Bool.not_false,zIm ha h1,ho]
          exact h
        ·cases h
       ·rename_i hne
        refine ⟨fun i o n' e1 => absurd e1 (hne i o n'),fun _ => ?_⟩
        rw [kI] at h
        exact h
theorem zMk {H0 Hn : List TO} {po po' : Po} (h : ∀ c f,o.op = .call c → c.callee ≠ .value f) : sU P po H0 H Hn L o = sU P po' H0 H Hn L o := by
 have e : pV P po Hn L o.op = pV P po' Hn L o.op := by
  cases ho : o.op with
  | call c =>
   simp only [pV]
   split
   ·rename_i f e; exact absurd e (h c f ho)
   ·rfl
  | _ => rfl
 unfold sU
 rw [e]
theorem qEu {k : Nat} {H0 Hn : List TO} {z : T × Option TO} (h : (zZf P OD rn k H0 H Hn L o).run = some z) : sU P (poH P OD rn k) H0 H Hn L o = some z := by
 unfold zZf at h
 cases hp : zEy P (evO L) o.op with
 | some d =>
  simp only [hp] at h
  have ha : wW L o.op = none := by
   cases ho : o.op with
   | call c => exact absurd ho (qBz hp c)
   | _ => rfl
  unfold sU
  rw [ha,zNs hp h]
 | none =>
  simp only [hp] at h
  split at h
  ·rename_i c ec
   unfold hcaD at h
   split at h
   ·rename_i f ef
    split at h
    ·rename_i g cs eg
     cases he : jJ P g with
     | false => simp [he,DT.run] at h
     | true =>
      rw [he,cond_true] at h
      obtain ⟨t,h1,rfl⟩ := qPw h
      have ha : wW L o.op = none := by rw [ec]; simp only [wW]; rw [ef]
      have hpl : yZ P H (ln Hn) (evO L) o.op = none := by rw [ec]; simp only [yZ,zAv]; rw [ef]
      have hc : pV P (poH P OD rn k) Hn L o.op = some t := by
       rw [ec]; simp only [pV]; rw [ef]; simp only [eg,he,cond_true,h1]
      unfold sU
      simp only [ha,hpl,hc]
    ·cases h
   ·rename_i ef
    split at h
    ·rename_i x y t t' e1 e2
     cases hb : Nat.beq t t' with
     | false => simp [hb,DT.run] at h
     | true =>
      rw [hb,cond_true] at h
      obtain ⟨h1,h2⟩ := qRc h
      unfold sU
      by_cases hx : ∃ i o n,evO L x = .og i o n
      ·obtain ⟨i,q,n,hx⟩ := hx
       have ha : wW L o.op = some i := by rw [ec]; simp only [wW]; rw [ef,e1]; simp only [hx]
       simp only [ha]
       rw [ec]; simp only [zGa]; rw [ef,e1,e2]
       simp only [hb,cond_true]
       exact h1 i q n hx
      ·have hx' : ∀ i o n,evO L x ≠ .og i o n := fun i q n e => hx ⟨i,q,n,e⟩
       have ha : wW L o.op = none := by
        rw [ec]; simp only [wW]; rw [ef,e1]
        first | (simp only; done) | (split <;> first | rfl | (rename_i e; exact absurd e (hx' _ _ _)))
       have hpl : yZ P H (ln Hn) (evO L) o.op = none := by rw [ec]; simp only [yZ,zAv]; rw [ef]
       have hc : pV P (poH P OD rn k) Hn L o.op = none := by rw [ec]; simp only [pV]; rw [ef]
       have hap : zGa P H0 Hn none L o.op = some z := by
        rw [ec]; simp only [zGa]; rw [ef,e1,e2]
        simp only [hb,cond_true]
        exact h2 hx'
       simp only [ha,hpl,hc,hap]
    ·cases h
   ·rename_i hne1 hne2
    rw [kI] at h
    rw [zMk (po' := fun _ _ => none) fun c' f e => by rw [ec] at e; cases e; exact hne1 f]
    exact h
  ·rename_i hne
   rw [kI] at h
   rw [zMk (po' := fun _ _ => none) fun c f e => absurd e (hne c)]
   exact h
theorem zZg {k : Nat} {H0 : List TO} : ∀ (l : List Oper) (Hn : List TO) (L : List T) {rs : List (T × Option TO)},(zGc P OD rn k H0 H ops l Hn L).run = some rs → rs.length = l.length ∧ ∀ (i : Nat) (z : T × Option TO),rs[i]? = some z → ∃ o,l[i]? = some o ∧ kE P (poH P OD rn k) H0 H (Hn ++ qG (rs.take i)) (yJ l (rs.take i) L) ops o = some z
 | [],Hn,L,rs,h => by cases h; exact ⟨rfl,fun i z e => by simp at e⟩
 | o :: l,Hn,L,rs,h => by
  have fin : ∀ {z : T × Option TO},kE P (poH P OD rn k) H0 H Hn L ops o = some z → (zPq (zGc P OD rn k H0 H ops l) o Hn L z).run = some rs → rs.length = (o :: l).length ∧ ∀ (i : Nat) (z : T × Option TO),rs[i]? = some z → ∃ o',(o :: l)[i]? = some o' ∧ kE P (poH P OD rn k) H0 H (Hn ++ qG (rs.take i)) (yJ (o :: l) (rs.take i) L) ops o' = some z := fun {z} hop h2 => by
   obtain ⟨rs',h3,h4⟩ := zN h2
   cases h4
   obtain ⟨g1,g2⟩ := zZg l _ _ h3
   refine ⟨by simp [g1],fun i y hy => ?_⟩
   cases i with
   | zero =>
    simp only [List.getElem?_cons_zero,Option.some.injEq] at hy
    subst hy
    refine ⟨o,rfl,?_⟩
    simp only [List.take_zero,qG,yJ,List.append_nil]
    exact hop
   | succ i =>
    obtain ⟨o',e1,e2⟩ := g2 i y (by simpa using hy)
    refine ⟨o',by simpa using e1,?_⟩
    have en : Hn ++ qG ((z :: rs').take (i + 1)) = nxH Hn z.2 ++ qG (rs'.take i) := by
     obtain ⟨t,ob⟩ := z
     cases ob <;> simp [qG,nxH]
    rw [en]
    exact e2
  have yes : yP ops L o = some true → ((zZf P OD rn k H0 H Hn L o).bind (zPq (zGc P OD rn k H0 H ops l) o Hn L)).run = some rs → rs.length = (o :: l).length ∧ ∀ (i : Nat) (z : T × Option TO),rs[i]? = some z → ∃ o',(o :: l)[i]? = some o' ∧ kE P (poH P OD rn k) H0 H (Hn ++ qG (rs.take i)) (yJ (o :: l) (rs.take i) L) ops o' = some z := fun hw h => by
   obtain ⟨z,h1,h2⟩ := zN h
   exact fin (by unfold kE; simp only [hw]; exact qEu h1) h2
  have no : yP ops L o = some false → (zPq (zGc P OD rn k H0 H ops l) o Hn L (.tu [],none)).run = some rs → rs.length = (o :: l).length ∧ ∀ (i : Nat) (z : T × Option TO),rs[i]? = some z → ∃ o',(o :: l)[i]? = some o' ∧ kE P (poH P OD rn k) H0 H (Hn ++ qG (rs.take i)) (yJ (o :: l) (rs.take i) L) ops o' = some z := fun hw h =>
   fin (by unfold kE; simp only [hw]) h
  simp only [zGc] at h
  obtain ⟨g1,g2,g3⟩ := qIt (ops := ops) L o
  cases hg : gdT ops L o with
  | no => rw [hg] at h; cases h
  | free => rw [hg] at h; exact yes (g1 hg) h
  | skip => rw [hg] at h; exact no (g2 hg) h
  | on t c b =>
   rw [hg] at h
   obtain ⟨k1,k2⟩ := g3 t c b hg
   rcases qAr k2 h with ⟨e,h⟩ | ⟨e,h⟩
   ·exact yes (by rw [k1,e]) h
   ·exact no (by rw [k1,e]) h
theorem zMs : ∀ (l : List Oper) (rs : List (T × Option TO)) (L : List T) (m : Nat),rs.length ≤ m → yJ (l.take m) rs L = yJ l rs L
 | [],_,_,m,_ => by simp
 | o :: l,[],L,m,_ => by cases m <;> simp [yJ]
 | o :: l,z :: rs,L,0,h => by simp at h
 | o :: l,z :: rs,L,m + 1,h => by
  simp only [List.take_succ_cons,yJ]
  exact zMs l rs _ m (by simpa using h)
theorem qKt {α : Type} {l : List α} (h : emp l = true) : l = [] := by cases l <;> first | rfl | cases h
theorem zKo {ld : List Nat} : ∀ (l : List Oper) (s : S),(qCq P OD rn ops ld l s).run = some s' → mH P (clD P OD rn) noC ops ld l s = some s'
 | [],s,h => h
 | o :: l,s,h => by
  obtain ⟨s1,h1,h2⟩ := zN h
  simp only [mH,qAt h1]
  cases he : emp ld with
  | true =>
   obtain rfl := qKt he
   rw [he,cond_true] at h2
   show (bif tN P ops s1 [] then _ else _) = _
   simp only [tN,cond_true]
   exact zKo l s1 h2
  | false =>
   rw [he,cond_false] at h2
   obtain ⟨h3,h4⟩ := zY h2
   simp only [h3,cond_true]
   exact zKo l s1 h4
theorem qKs {m : Nat} {Hm : List TO} {rs : List (T × Option TO)} (hl : ln rs = m) (h : (drT P OD rn ops m Hm s rs).run = some s') : drF P (clD P OD rn) noC ops s Hm rs = some s' := by
 subst hl
 unfold drT at h
 unfold drF qQn
 cases hmm : Nat.ble (ln rs) ops.size with
 | false => simp [hmm,DT.run] at h
 | true =>
 rw [hmm,Bool.true_and] at h
 cases hd : zYj ops (ln rs) && zJh Hm (ksE ops.toList rs s.L) with
 | false => simp [hd,DT.run] at h
 | true =>
  rw [hd,cond_true] at h
  rw [cond_true]
  cases he : emp (fD ops (ln rs)) with
  | true =>
   rw [he,cond_true] at h
   rw [qKt he]
   simp only [tN,cond_true]
   exact zKo _ _ h
  | false =>
   rw [he,cond_false] at h
   obtain ⟨h3,h4⟩ := zY h
   simp only [h3,cond_true]
   exact zKo _ _ h4
theorem zZs {ks : List (Option Nat)} (q : Nat) (x : TO) (h1 : (kJ ks H)[q]? = some x) (h2 : x ≠ .gone) : H[q]? = some x := by
 rw [sW] at h1
 split at h1
 ·cases hq : H[q]? with
  | none => rw [hq] at h1; cases h1
  | some y => rw [hq] at h1; cases h1; exact absurd rfl h2
 ·exact h1
end
section
variable {P : Program} {E : Nat → Prop} {w0 : World} {X : Hid} {F : List Nat} {B : Bm} {w : World} {Y : Hid} {Mo : List (Nat × Obj)} {n : Nat} {a : Act} {D : List Deferred} {Q : Exit → Act → World → Prop} {OD : Od} {LO : Lo} {rn : Rd'} {rr : Option Nat} {ops : Array Oper} {s s' : S}
theorem qKr {id : Nat} (hm : P.follows .mixedOrders = true) (hO : bU P OD) (hrn : zFy P rn) (hok : nV ops = true) (h : (drD P OD rn ops s).run = some s') (hW : Wd P E w0 X F s.H B w Y Mo) (hF : FrT n a s.L D B (rd w Y)) (hk : vS P E w0 X F n D s'.H s'.L B (rd w Y) (Q .normal)) : (Code.region id ops true).wpIn (FF rr) 0 P Q a w := by
 unfold drD drH at h
 generalize hdN OD ops s.L ops.toList [] 0 = m at h
 obtain ⟨rs,h1,h2⟩ := zN h
 obtain ⟨g1,g2⟩ := zZg _ _ _ h1
 have hle : rs.length ≤ m := by rw [g1]; exact List.length_take_le _ _
 have hlo : rs.length ≤ ops.toList.length := by rw [g1]; exact List.length_take_le' _ _
 by_cases hmo : Nat.ble m ops.size = true
 ·have hmo : m ≤ ops.toList.length := by simpa using Nat.le_of_ble_eq_true hmo
  have hlen : ln rs = m := by rw [qO,g1,List.length_take]; exact Nat.min_eq_left hmo
  refine zGs (po := poH P OD rn (ln s.H + ops.size)) hm (fun f az tv nw hp => qPt hm hO hrn hp) (zXt hm hO hrn) qAm hok hW hF hk _ rs (zHh _ _) (fun q x => zZs q x) (fun i z hz => ?_) hlo (qKs hlen h2)
  obtain ⟨o,e1,e2⟩ := g2 i z hz
  refine ⟨o,?_,?_⟩
  ·rw [List.getElem?_take] at e1
   split at e1
   ·exact e1
   ·cases e1
  ·rwa [zMs _ _ _ _ (by rw [List.length_take]; omega)] at e2
 ·exfalso
  unfold drT at h2
  have hf : Nat.ble m ops.size = false := Bool.eq_false_iff.2 hmo
  rw [hf] at h2
  cases h2
theorem zYp (hm : P.follows .mixedOrders = true) (hO : bU P OD) (hL : zTt P LO) : ∀ k,zFy P (evD P OD LO k) := by
 intro k
 induction k using Nat.strongRecOn with
 | _ k ih =>
  cases k with
  | zero => intro f p c s e s' _ h; cases h
  | succ k =>
   have hk : zFy P (evD P OD LO k) := ih k (Nat.lt_succ_self k)
   intro f p c s e s' hc h E w0 X F n a D B w Y Mo rr Q hr hW hF hA
   have h : (zVx P OD LO (evD P OD LO k) f p c s).run = some (e,s') := h
   cases c with
   | skip => cases h; exact xQ (hA.one hW hF (BLe.refl B) (Le.refl _))
   | label l => cases h; exact zJb (hA.one hW hF (BLe.refl B) (Le.refl _))
   | exit id => cases h; exact fB (hA.one hW hF (BLe.refl B) (Le.refl _))
   | ret => cases h; exact sV (hA.one hW hF (BLe.refl B) (Le.refl _))
   | seq x y =>
    have hr1 : rr = none ∨ noR x = true := hr.imp id fun h => by simp only [noR,Bool.and_eq_true] at h; exact h.1
    have hr2 : rr = none ∨ noR y = true := hr.imp id fun h => by simp only [noR,Bool.and_eq_true] at h; exact h.2
    have hq : noR (.seq x y) = true → noR x = true ∧ noR y = true := fun h => by simpa [noR] using h
    have c1 : cAt P f (false :: p) = some x := by simp [cAt,hc,dD]
    have c2 : cAt P f (true :: p) = some y := by simp [cAt,hc,dD]
    obtain ⟨⟨e1,s1⟩,h1,h2⟩ := zN h
    refine wpIn_seq (hk _ _ _ _ _ _ c1 h1 E w0 X F n a D B w Y Mo rr _ hr1 hW hF fun a' w' B' Y' Mo' bs hbs g1 g2 g3 g4 => ?_)
    cases e1 with
    | n => exact hk _ _ _ _ _ _ c2 h2 E w0 X _ n a' _ B' w' Y' Mo' rr Q hr2 g1 g2 (hA.next hq hbs g3 g4)
    | x id => cases h2; exact hA a' w' B' Y' Mo' bs (fun e => hbs (hq e).1) g1 g2 g3 g4
    | r => cases h2; exact hA a' w' B' Y' Mo' bs (fun e => hbs (hq e).1) g1 g2 g3 g4
    | p t => cases h2; exact hA a' w' B' Y' Mo' bs (fun e => hbs (hq e).1) g1 g2 g3 g4
   | cond c x y =>
    have c1 : cAt P f (false :: p) = some x := by simp [cAt,hc,dD]
    have c2 : cAt P f (true :: p) = some y := by simp [cAt,hc,dD]
    simp only [zVx] at h
    have hcr := hF.rep c
    have go : ∀ (b : Bool),evO s.L c = .v (.bool b) → ((bif b then evD P OD LO k f (false :: p) x else evD P OD LO k f (true :: p) y) s).run = some (e,s') → (Code.cond c x y).wpIn (FF rr) 0 P Q a w := fun b eb h => by
     rw [eb] at hcr
     cases b with
     | true => exact wpIn_cond_true hcr.bool (hk _ _ _ _ _ _ c1 h E w0 X F n a D B w Y Mo rr Q (hr.imp id fun h => by simp only [noR,Bool.and_eq_true] at h; exact h.1) hW hF fun a' w' B' Y' Mo' bs hbs => hA a' w' B' Y' Mo' bs fun e => hbs (by simp only [noR,Bool.and_eq_true] at e; exact e.1))
     | false => exact wpIn_cond_false hcr.bool (hk _ _ _ _ _ _ c2 h E w0 X F n a D B w Y Mo rr Q (hr.imp id fun h => by simp only [noR,Bool.and_eq_true] at h; exact h.2) hW hF fun a' w' B' Y' Mo' bs hbs => hA a' w' B' Y' Mo' bs fun e => hbs (by simp only [noR,Bool.and_eq_true] at e; exact e.2))
    obtain ⟨b,eb,hb⟩ := qKm h
    exact go b eb hb
   | block id x =>
    have c1 : cAt P f (false :: p) = some x := by simp [cAt,hc,dD]
    obtain ⟨⟨e1,s1⟩,h1,h2⟩ := zN h
    refine yF (hk _ _ _ _ _ _ c1 h1 E w0 X F n a D B w Y Mo rr _ hr hW hF fun a' w' B' Y' Mo' bs hbs g1 g2 g3 g4 => ?_)
    cases e1 with
    | n => cases h2; exact hA a' w' B' Y' Mo' bs hbs g1 g2 g3 g4
    | r => cases h2; exact hA a' w' B' Y' Mo' bs hbs g1 g2 g3 g4
    | p t => cases h2; exact hA a' w' B' Y' Mo' bs hbs g1 g2 g3 g4
    | x j =>
     cases h2
     have := hA a' w' B' Y' Mo' bs hbs g1 g2 g3 g4
     cases hj : Nat.beq j id with
     | true => rw [hj] at this; obtain rfl := qD hj; exact sN this
     | false => rw [hj] at this; exact zCn hj this
   | scope x =>
    have c1 : cAt P f (false :: p) = some x := by simp [cAt,hc,dD]
    rcases hr with rfl | hr
    ·exact zJc (hk _ _ _ _ _ _ c1 h E w0 X F n a D B w Y Mo none _ (.inl rfl) hW hF fun a' w' B' Y' Mo' bs _ g1 g2 g3 g4 => by
      have := hA a' w' B' Y' Mo' bs (fun e => by simp [noR] at e) g1 g2 g3 g4
      cases e <;> exact this)
    ·simp [noR] at hr
   | loop x =>
    have c1 : cAt P f (false :: p) = some x := by simp [cAt,hc,dD]
    have hr1 : rr = none ∨ noR x = true := hr.imp id fun h => by simpa [noR] using h
    simp only [zVx] at h
    cases hlo : LO f p s with
    | some d =>
     simp only [hlo] at h
     exact hL f p s d hlo x hc e s' h E w0 X F n a D B w Y Mo rr Q hr hW hF hA
    | none =>
    simp only [hlo] at h
    have key : ∀ (N : Nat),(qFm (evD P OD LO k f (false :: p) x) N s).run = some (e,s') → (Code.loop x).wpIn (FF rr) 0 P Q a w := fun N h => by
     refine nM (γ := Nat × S × List Nat) (fun g a w => (qFm (evD P OD LO k f (false :: p) x) g.1 g.2.1).run = some (e,s') ∧ ∃ B' Y' Mo',(noR x = true → g.2.2 = []) ∧ Wd P E w0 X (g.2.2 ++ F) g.2.1.H B' w Y' Mo' ∧ FrT n a g.2.1.L (g.2.2.map Gv.mark ++ D) B' (rd w Y') ∧ BLe B B' ∧ Le (rd _ Y) (rd w Y'))
      (fun g => g.1) (N,s,[]) ⟨h,B,Y,Mo,fun _ => rfl,hW,hF,BLe.refl B,Le.refl _⟩ ?_
     rintro ⟨j,s0,bs0⟩ a0 w1 ⟨hstep,B1,Y1,Mo1,hb1,g1,g2,g3,g4⟩
     simp only at hstep hb1 g1 g2
     cases j with
     | zero => cases hstep
     | succ j =>
     obtain ⟨⟨e1,s1⟩,h1,h2⟩ := zN hstep
     refine hk _ _ _ _ _ _ c1 h1 E w0 X _ n a0 _ B1 w1 Y1 Mo1 rr _ hr1 g1 g2 fun a' w' B' Y' Mo' bs hbs k1 k2 k3 k4 => ?_
     have hbs' : noR x = true → bs ++ bs0 = [] := fun e => by rw [hbs e,hb1 e]; rfl
     have k1' : Wd P E w0 X (bs ++ bs0 ++ F) s1.H B' w' Y' Mo' := by rw [List.append_assoc]; exact k1
     have k2' : FrT n a' s1.L ((bs ++ bs0).map Gv.mark ++ D) B' (rd w' Y') := by rw [List.map_append,List.append_assoc]; exact k2
     cases e1 with
     | n => exact ⟨(j,s1,bs ++ bs0),⟨h2,B',Y',Mo',hbs',k1',k2',g3.trans k3,g4.trans k4⟩,Nat.lt_succ_self j⟩
     | x id => cases h2; exact hA a' w' B' Y' Mo' (bs ++ bs0) (fun e => hbs' (by simpa [noR] using e)) k1' k2' (g3.trans k3) (g4.trans k4)
     | r => cases h2; exact hA a' w' B' Y' Mo' (bs ++ bs0) (fun e => hbs' (by simpa [noR] using e)) k1' k2' (g3.trans k3) (g4.trans k4)
     | p t => cases h2; exact hA a' w' B' Y' Mo' (bs ++ bs0) (fun e => hbs' (by simpa [noR] using e)) k1' k2' (g3.trans k3) (g4.trans k4)
    exact key _ h
   | region id ops draw =>
    cases draw with
    | false =>
     simp only [zVx] at h
     cases hok : nV ops with
     | false => simp [hok,DT.run] at h
     | true =>
      rw [hok,cond_true] at h
      obtain ⟨s1,h1,h2⟩ := zN h
      cases h2
      refine wpIn_region_list ?_
      exact zSs (zXt hm hO hk) qAm _ _ _ (zNl _ _ h1) hok hW hF (BLe.refl B) (Le.refl _) fun a' w' B' Y' Mo' k1 k2 k3 k4 => hA.one k1 k2 k3 k4
    | true =>
     simp only [zVx] at h
     cases hok : nV ops with
     | false => simp [hok,DT.run] at h
     | true =>
      rw [hok,cond_true] at h
      obtain ⟨s1,h1,h2⟩ := zN h
      cases h2
      exact qKr hm hO hk hok h1 hW hF fun a' w' B' Y' Mo' k1 k2 k3 k4 => hA.one k1 k2 k3 k4
   | rangeFunc g ps c1 c2 => cases h
   | goto l => cases h
   | refuse why => cases h
end
inductive Sl where
  | u
  | h
  | t (x : T)
  | a (g : Bool) (A : Ty) (e : TypeId)
inductive Ob' where
  | g
  | r (cs : List Sl) (e : TypeId)
structure Sp where
 ss : List Sl
 os : List Ob'
structure Hs where
 hs : List T
 az : List T
 ks : List (List T)
noncomputable def wL (m : Nat) : Nat → T → Bool
 | 0,_ => false
 | k + 1,t => match t with
  | .sl cs _ => cs.all (wL m k)
  | .sn cs _ => cs.all (wL m k)
  | .st cs _ => cs.all (wL m k)
  | .fp cs => cs.all (wL m k)
  | .ag cs => cs.all (wL m k)
  | .tu cs => cs.all (wL m k)
  | .fn _ cs => cs.all (wL m k)
  | .fb _ cs => cs.all (wL m k)
  | .os i _ _ _ => Nat.blt i m
  | .og i _ _ => Nat.blt i m
  | .op i _ => Nat.blt i m
  | .om i => Nat.blt i m
  | .yl i => Nat.blt i m
  | _ => true
noncomputable def chk (A : Ty) : Nat → List T → Option (List (List T))
 | 0,_ => none
 | k + 1,ts => match ts with
  | [] => some []
  | _ :: _ => match mI A.size ts with
   | some u => (match chk A k (zCy ts A.size) with
    | some r => some (u :: r)
    | none => none)
   | none => none
noncomputable def zLu (g : Bool) (A : Ty) : List (List T) → List A.den → Option (List A.den)
 | [],r => some r
 | u :: l,r => match pY g A u with
  | some x => zLu g A l (x :: r)
  | none => none
noncomputable def qDg (g : Bool) (A : Ty) : Cs → Option (List A.den)
 | .d g' A' x => bif !g || g' then zGo A' A x else none
 | .l cs => match chk A (ln cs + 1) cs with
  | some l => zLu g A l []
  | none => none
noncomputable def qJt (g : Bool) (A : Ty) (e : TypeId) (n : Nat) : TO → DT T
 | .gro c e' => bif Nat.beq e e' then (match qDg g A c with
  | some (y :: l) => grd (Nat.beq n (y :: l).length) (.ret (.ls g A (y :: l)))
  | _ => .no) else .no
 | _ => .no
noncomputable def zCw : T → Option T
 | .v x => some (.v x)
 | .ls g A l => some (.ls g A l)
 | _ => none
noncomputable def rH (m : Nat) (H : List TO) : List Sl → List T → DT (List T × List T)
 | [],[] => .ret ([],[])
 | .u :: ss,_ :: ts => rH m H ss ts
 | .h :: ss,t :: ts => (match zCw t with
  | some t => (rH m H ss ts).bind fun b => .ret (t :: b.1,b.2)
  | none => .no)
 | .t x :: ss,t :: ts => bif eqU 12 x t && wL m 12 x then rH m H ss ts else .no
 | .a g A e :: ss,t :: ts => (match t with
  | .v (.slice none 0 0) => (rH m H ss ts).bind fun b => .ret (b.1,.ls g A [] :: b.2)
  | .og i o n => bif Nat.beq o 0 then (qJt g A e n (nth .gone H i)).bind fun x => (rH m H ss ts).bind fun b => .ret (b.1,x :: b.2) else .no
  | _ => .no)
 | _,_ => .no
noncomputable def wU : List Sl → List T → List (Option Nat)
 | .a .. :: ss,t :: ts => (match t with | .og i _ _ => some i | _ => none) :: wU ss ts
 | _ :: ss,_ :: ts => wU ss ts
 | _,_ => []
noncomputable def qAp (m : Nat) (H0 : List TO) : List Ob' → List TO → DT (List (List T))
 | [],_ => .ret []
 | .g :: os,_ :: H => (qAp m H0 os H).bind fun r => .ret ([] :: r)
 | .r cs e :: os,.row ts e' :: H => bif Nat.beq e e' then (rH m H0 cs ts).bind fun a => bif emp a.2 then (qAp m H0 os H).bind fun r => .ret (a.1 :: r) else .no else .no
 | _,_ => .no
noncomputable def isG : Ob' → Bool
 | .g => true
 | _ => false
noncomputable def zIe (m : Nat) (os : List Ob') : List (Option Nat) → Bool
 | [] => true
 | none :: l => zIe m os l
 | some i :: l => (!zGb i l && (!Nat.blt i m || isG (nth .g os i))) && zIe m os l
noncomputable def zCo (m : Nat) (sp : Sp) (s : S) : DT Hs := bif zIe m sp.os (wU sp.ss s.L) && (Nat.beq (ln sp.os) m && Nat.ble m (ln s.H)) then (rH m s.H sp.ss s.L).bind fun a => (qAp m s.H sp.os s.H).bind fun ks => .ret ⟨a.1,a.2,ks⟩ else .no
noncomputable def rowT (j : Nat) : T → T
 | .ls _ _ [] => .v (.slice none 0 0)
 | .ls _ _ (x :: l) => .og j 0 (x :: l).length
 | _ => .u
noncomputable def qQf (e : TypeId) : T → TO
 | .ls _ _ [] => .gone
 | .ls g A (x :: l) => .gro (.d g A (x :: l)) e
 | _ => .gone
noncomputable def buL : List Sl → Nat → List T → List T → List T
 | .u :: ss,j,hs,az => .u :: buL ss j hs az
 | .h :: ss,j,x :: hs,az => x :: buL ss j hs az
 | .t x :: ss,j,hs,az => x :: buL ss j hs az
 | .a _ _ _ :: ss,j,hs,x :: az => rowT j x :: buL ss (j + 1) hs az
 | _,_,_,_ => []
noncomputable def buA : List Sl → List T → List TO
 | .a _ _ e :: ss,x :: az => qQf e x :: buA ss az
 | .a _ _ _ :: _,[] => []
 | _ :: ss,az => buA ss az
 | [],_ => []
noncomputable def buO : List Ob' → List (List T) → List TO
 | .g :: os,_ :: ks => .gone :: buO os ks
 | .r cs e :: os,k :: ks => .row (buL cs 0 k []) e :: buO os ks
 | _,_ => []
noncomputable def bu (m : Nat) (sp : Sp) (q : Hs) : S := ⟨buL sp.ss m q.hs q.az,buO sp.os q.ks ++ buA sp.ss q.az⟩
section
variable {P : Program} {E : Nat → Prop} {w0 : World} {X : Hid} {F : List Nat} {H H' : List TO} {B B' : Bm} {w : World} {Y : Hid} {Mo : List (Nat × Obj)} {r : Rd} {m : Nat}
theorem Rep.low (hB : ∀ i,i < m → B' i = B i) (hN : B'.N = B.N) : ∀ (k : Nat) {t : T} {v : Value},wL m k t = true → Rep B r t v → Rep B' r t v
 | 0,_,_,h,_ => by cases h
 | k + 1,t,y,h,hR => by
  have all : ∀ {cs : List T},cs.all (wL m k) = true → ∀ (j : Nat) (t : T),cs[j]? = some t → wL m k t = true := fun h j t e => List.all_eq_true.1 h t (List.mem_of_getElem? e)
  have lt : ∀ {i : Nat},Nat.blt i m = true → i < m := fun h => by rwa [Nat.blt_eq] at h
  cases hR with
  | u => exact .u
  | v hs => exact .v hs
  | sl hn f h1 g hm => simp only [wL] at h; exact .sl hn f h1 (fun j t e => Rep.low hB hN k (all h j t e) (g j t e)) hm
  | sl0 hm => exact .sl0 hm
  | sn hn f h1 g hm hb => simp only [wL] at h; exact .sn hn f h1 (fun j t e => Rep.low hB hN k (all h j t e) (g j t e)) hm (fun j t e => hN ▸ hb j t e)
  | sn0 hm => exact .sn0 hm
  | st f h1 g => simp only [wL] at h; exact .st f h1 fun j t e => Rep.low hB hN k (all h j t e) (g j t e)
  | st0 => exact .st0
  | fp f h1 g => simp only [wL] at h; exact .fp f h1 fun j t e => Rep.low hB hN k (all h j t e) (g j t e)
  | ag f hl h1 g => simp only [wL] at h; exact .ag f hl h1 fun j t e => Rep.low hB hN k (all h j t e) (g j t e)
  | tu f hl h1 g => simp only [wL] at h; exact .tu f hl h1 fun j t e => Rep.low hB hN k (all h j t e) (g j t e)
  | fn f hl h1 g => simp only [wL] at h; exact .fn f hl h1 fun j t e => Rep.low hB hN k (all h j t e) (g j t e)
  | fb f hl h1 g => simp only [wL] at h; exact .fb f hl h1 fun j t e => Rep.low hB hN k (all h j t e) (g j t e)
  | os h1 => exact .os (by rw [hB _ (lt h)]; exact h1)
  | og h1 h2 h3 h4 => exact .og (by rw [hB _ (lt h)]; exact h1) h2 h3 h4
  | op h1 => exact .op (by rw [hB _ (lt h)]; exact h1)
  | om h1 => exact .om (by rw [hB _ (lt h)]; exact h1)
  | yl h1 => exact .yl (by rw [hB _ (lt h)]; exact h1)
  | ls h1 => exact .ls (jB.mono (Le.refl _) (fun b k e => hN ▸ k e) _ _ _ h1)
theorem zGr {t t' : T} (h : zCw t = some t') (hN : B'.N = B.N) {v : Value} (hR : Rep B r t v) : Rep B' r t' v := by
 unfold zCw at h
 split at h
 ·cases h
  obtain ⟨rfl,hs⟩ := hR.vI
  exact .v hs
 ·cases h
  cases hR with
  | ls h1 => exact .ls (jB.mono (Le.refl _) (fun b k e => hN ▸ k e) _ _ _ h1)
 ·cases h
theorem Wd.re (h : Wd P E w0 X F H B w Y Mo) (q : Nat → Option Nat) (hN : B'.N = B.N) (hn : ∀ i,H'.length ≤ i → B' i = none)
  (hq : ∀ (i : Nat) (o : TO),H'[i]? = some o → kW o = true → ∃ j o1,q i = some j ∧ B' i = B j ∧ H[j]? = some o1 ∧ kW o1 = true ∧ ∀ C ob,RO P B (rd w Y) C o1 ob → RO P B' (rd w Y) C o ob)
  (hf : ∀ (i : Nat) (cs : List T),H'[i]? ≠ some (.fz cs)) (hi : ∀ (i j k : Nat) (o1 o2 : TO),H'[i]? = some o1 → kW o1 = true → H'[j]? = some o2 → kW o2 = true → q i = some k → q j = some k → i = j) : Wd P E w0 X F H' B' w Y Mo :=
 ⟨h.st,fun i o ho hl => by
  obtain ⟨j,o1,_,e2,e3,e4,e5⟩ := hq i o ho hl
  obtain ⟨b,C,ob,g1,g2,g3⟩ := h.ob j o1 e3 e4
  exact ⟨b,C,ob,by rw [e2]; exact g1,g2,e5 C ob g3⟩,fun i cs hc => absurd hc (hf i cs),hn,fun i j oi oj p p' h1 l1 h2 l2 hp hp' e => by
  obtain ⟨a,o1,e1,e2,e3,e4,_⟩ := hq i oi h1 l1
  obtain ⟨a',o1',e1',e2',e3',e4',_⟩ := hq j oj h2 l2
  rw [e2] at hp
  rw [e2'] at hp'
  have := h.inj a a' o1 o1' p p' e3 e4 e3' e4' hp hp' e
  subst this
  exact hi i j a oi oj h1 l1 h2 l2 e1 e1',by rw [hN]; exact h.bN,h.iv⟩
theorem chk_ok {A : Ty} : ∀ (k : Nat) (ts : List T) {l : List (List T)},chk A k ts = some l → ts = l.flatten
 | 0,ts,l,h => by cases h
 | k + 1,[],l,h => by cases h; rfl
 | k + 1,t :: ts,l,h => by
  simp only [chk] at h
  cases h1 : mI A.size (t :: ts) with
  | none => simp [h1] at h
  | some u =>
   simp only [h1] at h
   cases h2 : chk A k (zCy (t :: ts) A.size) with
   | none => simp [h2] at h
   | some r' =>
    simp only [h2,Option.some.injEq] at h
    subst h
    obtain ⟨_,rfl⟩ := bH _ _ _ h1
    rw [List.flatten_cons,← chk_ok k _ h2,zCz,List.take_append_drop]
theorem zCq {g : Bool} {A : Ty} : ∀ (l : List (List T)) (p : List A.den) {x : List A.den} {vs : List Value},zLu g A l p = some x → zP B r (qN g A p ++ l.flatten) vs → zP B r (qN g A x) vs ∧ (qN g A x).length = (qN g A p ++ l.flatten).length
 | [],p,x,vs,h,hR => by cases h; simpa using hR
 | u :: l,p,x,vs,h,hR => by
  simp only [zLu] at h
  cases hc : pY g A u with
  | none => simp [hc] at h
  | some y =>
   simp only [hc] at h
   rw [List.flatten_cons,← List.append_assoc] at hR
   have hs := zP.split (ts := qN g A p ++ u) (us := l.flatten) hR
   have hs2 := zP.split (ts := qN g A p) (us := u) hs.1
   obtain ⟨k1,k2⟩ := zCp A hc hs2.2
   have hk : zP B r (qN g A (y :: p) ++ l.flatten) vs := by
    have := (hs2.1.app k1).app hs.2
    rw [List.take_append_drop,List.take_append_drop] at this
    exact this
   obtain ⟨g1,g2⟩ := zCq l (y :: p) h hk
   refine ⟨g1,?_⟩
   rw [g2]
   simp only [qN,List.flatten_cons,List.length_append,jY,k2,Nat.add_assoc]
theorem qDh {g : Bool} {A : Ty} {c : Cs} {x : List A.den} {vs : List Value} (h : qDg g A c = some x) (hR : zP B r c.list vs) : zP B r (qN g A x) vs ∧ (qN g A x).length = c.list.length := by
 unfold qDg at h
 split at h
 ·rename_i g' A' x'
  cases hg : !g || g' with
  | false => simp [hg] at h
  | true =>
   simp only [hg,cond_true] at h
   obtain ⟨rfl,he⟩ := dC h
   obtain rfl := eq_of_heq he
   have e : ∀ (l : List A'.den),qN g' A' l = yY g' A' l.reverse := fun l => by rw [← lI,List.reverse_reverse]
   have e' : ∀ (l : List A'.den),qN g A' l = yY g A' l.reverse := fun l => by rw [← lI,List.reverse_reverse]
   refine ⟨?_,?_⟩
   ·rw [e']
    have hR : zP B r (qN g' A' x') vs := hR
    rw [e] at hR
    exact zDe (by simpa using hg) A' _ hR
   ·show (qN g A' x').length = (qN g' A' x').length
    rw [kV,kV]
 ·rename_i cs
  cases hc : chk A (ln cs + 1) cs with
  | none => simp [hc] at h
  | some l =>
   simp only [hc] at h
   have e := chk_ok _ _ hc
   have hR : zP B r cs vs := hR
   obtain ⟨h1,h2⟩ := zCq l [] h (by simpa [qN,← e] using hR)
   refine ⟨h1,?_⟩
   rw [h2]
   show ([] ++ l.flatten).length = cs.length
   rw [List.nil_append,← e]
theorem zGz {g : Bool} {A : Ty} (hN : B'.N = B.N) : ∀ {ts : List T} {vs : List Value},(∀ t ∈ ts,∃ t',zCw t = some t') → zP B r ts vs → zP B' r ts vs
 | [],[],_,_ => trivial
 | t :: ts,v :: vs,h,hR => by
  obtain ⟨t',ht⟩ := h t List.mem_cons_self
  have e : t' = t := by
   unfold zCw at ht
   split at ht <;> first | (cases ht; rfl) | cases ht
  subst e
  exact ⟨zGr ht hN hR.1,zGz (g := g) (A := A) hN (fun t ht => h t (List.mem_cons_of_mem _ ht)) hR.2⟩
 | [],_ :: _,_,hR => hR.elim
 | _ :: _,[],_,hR => hR.elim
theorem nA (g : Bool) : ∀ (A : Ty) (x : A.den),∀ t ∈ qZ g A x,∃ t',zCw t = some t'
 | .lim,_,t,h => by simp only [qZ,List.mem_singleton] at h; subst h; exact ⟨_,rfl⟩
 | .int _,_,t,h => by simp only [qZ,List.mem_singleton] at h; subst h; exact ⟨_,rfl⟩
 | .bool,_,t,h => by simp only [qZ,List.mem_singleton] at h; subst h; exact ⟨_,rfl⟩
 | .list _,_,t,h => by simp only [qZ,List.mem_singleton] at h; subst h; exact ⟨_,rfl⟩
 | .prod A C,x,t,h => by
  rcases List.mem_append.1 h with h | h
  ·exact nA g A _ t h
  ·exact nA g C _ t h
theorem zDf (g : Bool) (A : Ty) : ∀ (l : List A.den),∀ t ∈ qN g A l,∃ t',zCw t = some t'
 | [],t,h => by cases h
 | x :: l,t,h => by
  rcases List.mem_append.1 h with h | h
  ·exact zDf g A l t h
  ·exact nA g A x t h
theorem rJ {m : Nat} {H : List TO} : ∀ (ss : List Sl) (ts : List T) {b : List T × List T},(rH m H ss ts).run = some b → (wU ss ts).length = b.2.length
 | [],[],b,h => by cases h; rfl
 | [],_ :: _,b,h => by cases h
 | .u :: ss,[],b,h => by cases h
 | .h :: ss,[],b,h => by cases h
 | .t _ :: ss,[],b,h => by cases h
 | .a .. :: ss,[],b,h => by cases h
 | .u :: ss,t :: ts,b,h => rJ ss ts (b := b) h
 | .h :: ss,t :: ts,b,h => by
  simp only [rH] at h
  split at h
  ·obtain ⟨b',h1,h2⟩ := zN h; cases h2; exact rJ (b := b') ss ts h1
  ·cases h
 | .t x :: ss,t :: ts,b,h => by
  simp only [rH] at h
  cases hc : eqU 12 x t && wL m 12 x with
  | false => rw [hc] at h; cases h
  | true => rw [hc] at h; exact rJ ss ts h
 | .a g A e :: ss,t :: ts,b,h => by
  simp only [rH] at h
  split at h
  ·obtain ⟨b',h1,h2⟩ := zN h; cases h2; simp only [wU,List.length_cons,rJ (b := b') ss ts h1]
  ·rename_i i o n
   cases ho : Nat.beq o 0 with
   | false => rw [ho] at h; cases h
   | true =>
    rw [ho,cond_true] at h
    obtain ⟨x,_,h⟩ := zN h
    obtain ⟨b',h1,h2⟩ := zN h; cases h2; simp only [wU,List.length_cons,rJ (b := b') ss ts h1]
  ·cases h
theorem fJ (hB : ∀ i,i < m → B' i = B i) (hN : B'.N = B.N) : ∀ (ss : List Sl) (ts : List T) (j : Nat) {b : List T × List T} {vs : List Value},(rH m H ss ts).run = some b → (∀ (q i : Nat),(wU ss ts)[q]? = some (some i) → B' (j + q) = B i) → zP B r ts vs → zP B' r (buL ss j b.1 b.2) vs
 | [],[],j,b,vs,h,_,hR => by
  cases h
  cases vs with
  | nil => trivial
  | cons => exact hR.elim
 | [],_ :: _,j,b,vs,h,_,_ => by cases h
 | .u :: ss,[],j,b,vs,h,_,_ => by cases h
 | .h :: ss,[],j,b,vs,h,_,_ => by cases h
 | .t _ :: ss,[],j,b,vs,h,_,_ => by cases h
 | .a .. :: ss,[],j,b,vs,h,_,_ => by cases h
 | _ :: _,_ :: _,_,_,[],_,_,hR => hR.elim
 | .u :: ss,t :: ts,j,b,v :: vs,h,hq,hR => ⟨.u,fJ hB hN ss ts j (b := b) h hq hR.2⟩
 | .h :: ss,t :: ts,j,b,v :: vs,h,hq,hR => by
  simp only [rH] at h
  split at h
  ·rename_i t' ht
   obtain ⟨b',h1,h2⟩ := zN h; cases h2
   exact ⟨zGr ht hN hR.1,fJ hB hN ss ts j h1 hq hR.2⟩
  ·cases h
 | .t x :: ss,t :: ts,j,b,v :: vs,h,hq,hR => by
  simp only [rH] at h
  cases hc : eqU 12 x t && wL m 12 x with
  | false => rw [hc] at h; cases h
  | true =>
   rw [hc] at h
   simp only [Bool.and_eq_true] at hc
   have e := nK 12 x t hc.1
   subst e
   exact ⟨Rep.low hB hN 12 hc.2 hR.1,fJ hB hN ss ts j (b := b) h hq hR.2⟩
 | .a g A e :: ss,t :: ts,j,b,v :: vs,h,hq,hR => by
  have hq' : ∀ (q i : Nat),(wU ss ts)[q]? = some (some i) → B' (j + 1 + q) = B i := fun q i e => by
   have := hq (q + 1) i (by simpa [wU] using e)
   rwa [show j + (q + 1) = j + 1 + q by omega] at this
  simp only [rH] at h
  split at h
  ·obtain ⟨b',h1,h2⟩ := zN h; cases h2
   refine ⟨?_,fJ hB hN ss ts (j + 1) h1 hq' hR.2⟩
   obtain ⟨rfl,hs⟩ := hR.1.vI
   exact .v hs
  ·rename_i i o n
   cases ho : Nat.beq o 0 with
   | false => rw [ho] at h; cases h
   | true =>
    rw [ho,cond_true] at h
    obtain ⟨x,hx,h⟩ := zN h
    obtain ⟨b',h1,h2⟩ := zN h; cases h2
    refine ⟨?_,fJ hB hN ss ts (j + 1) h1 hq' hR.2⟩
    obtain rfl := qD ho
    unfold qJt at hx
    split at hx
    ·rename_i c e' hn
     cases he : Nat.beq e e' with
     | false => rw [he] at hx; cases hx
     | true =>
      rw [he,cond_true] at hx
      split at hx
      ·rename_i y l hl
       obtain ⟨k1,k2⟩ := zY hx
       cases k2
       obtain rfl := qD k1
       have hBj : B' j = B i := by
        have := hq 0 i rfl
        simpa using this
       have hv := hR.1
       cases hv with
       | og g1 g2 g3 g4 => exact .og (by rw [hBj]; exact g1) g2 g3 g4
      ·cases hx
    ·cases hx
  ·cases h
end
section
variable {P : Program} {E : Nat → Prop} {w0 : World} {X : Hid} {F : List Nat} {H H' : List TO} {B B' : Bm} {w : World} {Y : Hid} {Mo : List (Nat × Obj)} {r : Rd} {m : Nat} {n : Nat} {a : Act} {D : List Deferred} {s : S}
def reB (B : Bm) (m : Nat) (src : List (Option Nat)) : Bm := ⟨fun i => if i < m then B i else match src[i - m]? with
 | some (some j) => B j
 | _ => none,B.N⟩
theorem zCh {src : List (Option Nat)} {i : Nat} (h : i < m) : reB B m src i = B i := if_pos h
theorem zSz {src : List (Option Nat)} {q j : Nat} (h : src[q]? = some (some j)) : reB B m src (m + q) = B j := by
 show (if m + q < m then B (m + q) else _) = _
 rw [if_neg (by omega),Nat.add_sub_cancel_left,h]
theorem qCf {B0 : Bm} {src : List (Option Nat)} (h : BLe B0 B) (hm : ∀ i,m ≤ i → B0 i = none) : BLe B0 (reB B m src) := ⟨fun i p e => by
 have hi : i < m := by
  rcases Nat.lt_or_ge i m with h | h
  ·exact h
  ·rw [hm i h] at e; cases e
 rw [zCh hi]
 exact h i p e,h.n⟩
theorem bW : ∀ (ss : List Sl) (ts : List T) {b : List T × List T},(rH m H ss ts).run = some b → (buA ss b.2).length = (wU ss ts).length ∧
  ∀ (q : Nat) (o : TO),(buA ss b.2)[q]? = some o → o ≠ .gone → ∃ (i : Nat) (c : Cs) (g : Bool) (A : Ty) (x : List A.den) (e : TypeId),o = .gro (.d g A x) e ∧ (wU ss ts)[q]? = some (some i) ∧ nth .gone H i = .gro c e ∧ qDg g A c = some x
 | [],[],b,h => by cases h; exact ⟨rfl,fun q o e => by simp [buA] at e⟩
 | [],_ :: _,b,h => by cases h
 | .u :: ss,[],b,h => by cases h
 | .h :: ss,[],b,h => by cases h
 | .t _ :: ss,[],b,h => by cases h
 | .a .. :: ss,[],b,h => by cases h
 | .u :: ss,t :: ts,b,h => bW ss ts (b := b) h
 | .h :: ss,t :: ts,b,h => by
  simp only [rH] at h
  split at h
  ·obtain ⟨b',h1,h2⟩ := zN h; cases h2; exact bW (b := b') ss ts h1
  ·cases h
 | .t x :: ss,t :: ts,b,h => by
  simp only [rH] at h
  cases hc : eqU 12 x t && wL m 12 x with
  | false => rw [hc] at h; cases h
  | true => rw [hc] at h; exact bW (b := b) ss ts h
 | .a g A e :: ss,t :: ts,b,h => by
  simp only [rH] at h
  split at h
  ·obtain ⟨b',h1,h2⟩ := zN h; cases h2
   obtain ⟨k1,k2⟩ := bW (b := b') ss ts h1
   refine ⟨by simp only [buA,wU,List.length_cons,k1],fun q o ho hne => ?_⟩
   cases q with
   | zero => simp only [buA,qQf,List.getElem?_cons_zero,Option.some.injEq] at ho; exact absurd ho.symm hne
   | succ q =>
    obtain ⟨i,c,g',A',x,e',r1,r2,r3⟩ := k2 q o (by simpa [buA] using ho) hne
    exact ⟨i,c,g',A',x,e',r1,by simpa [wU] using r2,r3⟩
  ·rename_i i o n
   cases ho : Nat.beq o 0 with
   | false => rw [ho] at h; cases h
   | true =>
    rw [ho,cond_true] at h
    obtain ⟨x,hx,h⟩ := zN h
    obtain ⟨b',h1,h2⟩ := zN h; cases h2
    obtain ⟨k1,k2⟩ := bW (b := b') ss ts h1
    refine ⟨by simp only [buA,wU,List.length_cons,k1],fun q o ho hne => ?_⟩
    cases q with
    | succ q =>
     obtain ⟨i,c,g',A',x,e',r1,r2,r3⟩ := k2 q o (by simpa [buA] using ho) hne
     exact ⟨i,c,g',A',x,e',r1,by simpa [wU] using r2,r3⟩
    | zero =>
     unfold qJt at hx
     split at hx
     ·rename_i c e' hn
      cases he : Nat.beq e e' with
      | false => rw [he] at hx; cases hx
      | true =>
       rw [he,cond_true] at hx
       obtain rfl := qD he
       split at hx
       ·rename_i y l hl
        obtain ⟨q1,q2⟩ := zY hx
        cases q2
        simp only [buA,qQf,List.getElem?_cons_zero,Option.some.injEq] at ho
        subst ho
        exact ⟨i,c,g,A,y :: l,e,rfl,rfl,hn,hl⟩
       ·cases hx
     ·cases hx
  ·cases h
theorem zPz {H0 : List TO} : ∀ (os : List Ob') (H : List TO) {ks : List (List T)},(qAp m H0 os H).run = some ks → (buO os ks).length = os.length ∧ os.length ≤ H.length ∧
  ∀ (i : Nat) (o : TO),(buO os ks)[i]? = some o → o ≠ .gone → ∃ cs e ts k,os[i]? = some (.r cs e) ∧ H[i]? = some (.row ts e) ∧ (rH m H0 cs ts).run = some (k,[]) ∧ o = .row (buL cs 0 k []) e
 | [],H,ks,h => by cases h; exact ⟨rfl,Nat.zero_le _,fun i o e => by simp [buO] at e⟩
 | .g :: os,[],ks,h => by cases h
 | .r _ _ :: os,[],ks,h => by cases h
 | .g :: os,_ :: H,ks,h => by
  obtain ⟨ks',h1,h2⟩ := zN h; cases h2
  obtain ⟨k1,k2,k3⟩ := zPz os H h1
  refine ⟨by simp only [buO,List.length_cons,k1],by simpa using k2,fun i o ho hne => ?_⟩
  cases i with
  | zero => simp only [buO,List.getElem?_cons_zero,Option.some.injEq] at ho; exact absurd ho.symm hne
  | succ i => simpa using k3 i o (by simpa [buO] using ho) hne
 | .r cs e :: os,x :: H,ks,h => by
  cases x with
  | row ts e' =>
   simp only [qAp] at h
   cases he : Nat.beq e e' with
   | false => rw [he] at h; cases h
   | true =>
    rw [he,cond_true] at h
    obtain rfl := qD he
    obtain ⟨b,hb,h⟩ := zN h
    cases hemp : emp b.2 with
    | false => rw [hemp] at h; cases h
    | true =>
     rw [hemp,cond_true] at h
     obtain ⟨ks',h1,h2⟩ := zN h; cases h2
     obtain ⟨k1,k2,k3⟩ := zPz os H h1
     refine ⟨by simp only [buO,List.length_cons,k1],by simpa using k2,fun i o ho hne => ?_⟩
     cases i with
     | succ i => simpa using k3 i o (by simpa [buO] using ho) hne
     | zero =>
      simp only [buO,List.getElem?_cons_zero,Option.some.injEq] at ho
      subst ho
      have e2 := qKt hemp
      exact ⟨cs,e,ts,b.1,rfl,rfl,by rw [hb]; obtain ⟨b1,b2⟩ := b; simp only at e2; subst e2; rfl,rfl⟩
  | _ => cases h
theorem zQp {os : List Ob'} : ∀ (l : List (Option Nat)), zIe m os l = true → (∀ (q i : Nat), l[q]? = some (some i) → m ≤ i ∨ isG (nth .g os i) = true) ∧ ∀ (q q' i : Nat), l[q]? = some (some i) → l[q']? = some (some i) → q = q'
  | [], _ => ⟨fun q i e => by simp at e, fun q q' i e => by simp at e⟩
  | none :: l, h => by
    obtain ⟨h1, h2⟩ := zQp l h
    refine ⟨fun q i e => ?_, fun q q' i e e' => ?_⟩
    · cases q with
      | zero => simp at e
      | succ q => exact h1 q i (by simpa using e)
    · cases q with
      | zero => simp at e
      | succ q => cases q' with
        | zero => simp at e'
        | succ q' => rw [h2 q q' i (by simpa using e) (by simpa using e')]
  | some j :: l, h => by
    simp only [zIe, Bool.and_eq_true] at h
    obtain ⟨⟨h0, h0'⟩, h⟩ := h
    obtain ⟨h1, h2⟩ := zQp l h
    have no : ∀ (q : Nat), l[q]? ≠ some (some j) := by
      have : ∀ (l : List (Option Nat)), zGb j l = false → ∀ q : Nat, l[q]? ≠ some (some j) := by
        intro l
        induction l with
        | nil => intro _ q e; simp at e
        | cons x l ih =>
          intro hk q e
          cases x with
          | none =>
            cases q with
            | zero => simp at e
            | succ q => exact ih hk q (by simpa using e)
          | some y =>
            simp only [zGb, Bool.or_eq_false_iff] at hk
            cases q with
            | zero => simp at e; subst e; simp at hk
            | succ q => exact ih hk.2 q (by simpa using e)
      exact this l (by simpa using h0)
    refine ⟨fun q i e => ?_, fun q q' i e e' => ?_⟩
    · cases q with
      | zero =>
        simp at e; subst e
        cases hb : Nat.blt j m with
        | false => left; have : ¬ j < m := fun hlt => by rw [← Nat.blt_eq] at hlt; rw [hb] at hlt; cases hlt
                   omega
        | true => right; simpa [hb] using h0'
      | succ q => exact h1 q i (by simpa using e)
    · cases q with
      | zero =>
        simp at e; subst e
        cases q' with
        | zero => rfl
        | succ q' => exact absurd (by simpa using e') (no q')
      | succ q => cases q' with
        | zero => simp at e'; subst e'; exact absurd (by simpa using e) (no q)
        | succ q' => rw [h2 q q' i (by simpa using e) (by simpa using e')]
theorem zXk {sp : Sp} {q : Hs} (h : (zCo m sp s).run = some q) (hW : Wd P E w0 X F s.H B w Y Mo) (hF : FrT n a s.L D B (rd w Y)) :
  ∃ src,Wd P E w0 X F (bu m sp q).H (reB B m src) w Y Mo ∧ FrT n a (bu m sp q).L D (reB B m src) (rd w Y) ∧ m ≤ s.H.length := by
 unfold zCo at h
 cases hc : zIe m sp.os (wU sp.ss s.L) && (Nat.beq (ln sp.os) m && Nat.ble m (ln s.H)) with
 | false => rw [hc] at h; cases h
 | true =>
  rw [hc,cond_true] at h
  simp only [Bool.and_eq_true] at hc
  obtain ⟨c1,c2,c3⟩ := hc
  obtain ⟨b,h1,h⟩ := zN h
  obtain ⟨ks,h2,h3⟩ := zN h
  cases h3
  have c2 := qD c2
  rw [qO] at c2
  have c3 : m ≤ s.H.length := by rw [← qO]; exact Nat.le_of_ble_eq_true c3
  obtain ⟨s1,s2⟩ := zQp _ c1
  obtain ⟨a1,a2⟩ := bW sp.ss s.L h1
  obtain ⟨o1,o2,o3⟩ := zPz sp.os s.H h2
  refine ⟨wU sp.ss s.L,?_,⟨hF.size,?_,hF.defers⟩,c3⟩
  ·have hgone : ∀ {o : TO},kW o = true → o ≠ .gone := fun h e => by subst e; cases h
   have get : ∀ (i : Nat) (o : TO),(bu m sp ⟨b.1,b.2,ks⟩).H[i]? = some o → kW o = true → (i < m ∧ (buO sp.os ks)[i]? = some o) ∨ (m ≤ i ∧ (buA sp.ss b.2)[i - m]? = some o) := fun i o ho hl => by
    have ho : (buO sp.os ks ++ buA sp.ss b.2)[i]? = some o := ho
    rw [List.getElem?_append] at ho
    split at ho
    ·rename_i hi; rw [o1,c2] at hi; exact .inl ⟨hi,ho⟩
    ·rename_i hi; rw [o1,c2] at hi ho; exact .inr ⟨by omega,ho⟩
   refine hW.re (fun i => if i < m then some i else (match (wU sp.ss s.L)[i - m]? with | some x => x | none => none)) rfl (fun i hi => ?_) (fun i o ho hl => ?_) (fun i cs hf => ?_) (fun i j k p1 p2 g1 l1 g2 l2 e1 e2 => ?_)
   ·have hlen : (bu m sp ⟨b.1,b.2,ks⟩).H.length = m + (wU sp.ss s.L).length := by
     show (buO sp.os ks ++ buA sp.ss b.2).length = _
     rw [List.length_append,o1,c2,a1]
    rw [hlen] at hi
    show (if i < m then B i else _) = none
    rw [if_neg (by omega),List.getElem?_eq_none (by omega)]
   ·rcases get i o ho hl with ⟨hi,ho⟩ | ⟨hi,ho⟩
    ·obtain ⟨cs,e,ts,k,r1,r2,r3,r4⟩ := o3 i o ho (hgone hl)
     refine ⟨i,_,if_pos hi,zCh hi,r2,rfl,fun C ob hro => ?_⟩
     subst r4
     cases hro with
     | row hr =>
      refine .row ?_
      exact fJ (H := s.H) (fun i hi => zCh hi) rfl cs ts 0 (b := (k,[])) r3 (fun q i e => by
       have := rJ cs ts r3
       simp only [List.length_nil] at this
       rw [List.eq_nil_of_length_eq_zero this] at e
       simp at e) hr
    ·obtain ⟨j,c,g,A,x,e,r1,r2,r3,r4⟩ := a2 (i - m) o ho (hgone hl)
     have hj := rW r3 (by simp)
     refine ⟨j,_,?_,?_,hj,rfl,fun C ob hro => ?_⟩
     ·simp only [if_neg (show ¬ i < m by omega),r2]
     ·have := zSz (B := B) (m := m) r2
      rwa [Nat.add_sub_cancel' hi] at this
     ·subst r1
      cases hro with
      | gro hi' hs hC hr =>
       obtain ⟨k1,k2⟩ := qDh r4 hr
       refine .gro hi' hs hC ?_
       show zP _ _ (qN g A x) (List.take (qN g A x).length _)
       rw [k2]
       exact zGz (g := g) (A := A) (B := B) (B' := reB B m (wU sp.ss s.L)) rfl (zDf g A x) k1
   ·have hf : (buO sp.os ks ++ buA sp.ss b.2)[i]? = some (.fz cs) := hf
    rw [List.getElem?_append] at hf
    split at hf
    ·obtain ⟨_,_,_,_,_,_,_,e⟩ := o3 i _ hf (by simp)
     cases e
    ·obtain ⟨_,_,_,_,_,_,e,_⟩ := a2 _ _ hf (by simp)
     cases e
   ·have G : ∀ (i : Nat) (o : TO),(bu m sp ⟨b.1,b.2,ks⟩).H[i]? = some o → kW o = true → i < m → isG (nth .g sp.os i) = false := fun i o ho hl hi => by
     rcases get i o ho hl with ⟨_,ho⟩ | ⟨h,_⟩
     ·obtain ⟨cs,e,_,_,r1,_⟩ := o3 i o ho (hgone hl)
      rw [qV,List.getD_eq_getElem?_getD,r1]; rfl
     ·omega
    have S : ∀ {i k : Nat},m ≤ i → (if i < m then some i else (match (wU sp.ss s.L)[i - m]? with | some x => x | none => none)) = some k → (wU sp.ss s.L)[i - m]? = some (some k) := fun {i k} hi e => by
     rw [if_neg (by omega)] at e
     split at e
     ·rename_i x hx; rw [hx,e]
     ·cases e
    rcases Nat.lt_or_ge i m with hi | hi <;> rcases Nat.lt_or_ge j m with hj | hj
    ·rw [if_pos hi] at e1; rw [if_pos hj] at e2; cases e1; cases e2; rfl
    ·rw [if_pos hi] at e1; cases e1
     rcases s1 _ _ (S hj e2) with h | h
     ·omega
     ·rw [G i p1 g1 l1 hi] at h; cases h
    ·rw [if_pos hj] at e2; cases e2
     rcases s1 _ _ (S hi e1) with h | h
     ·omega
     ·rw [G j p2 g2 l2 hj] at h; cases h
    ·have := s2 _ _ _ (S hi e1) (S hj e2)
     omega
  ·exact fJ (H := s.H) (fun i hi => zCh hi) rfl sp.ss s.L m h1 (fun q i e => zSz e) hF.reps
end
structure Lp where
 m : Nat
 sp : Sp
 sx : Sp
 sr : Sp
noncomputable def Lp.bx (l : Lp) : Ex × Hs → Ex × S
 | (.r,q) => (.r,bu l.m l.sr q)
 | (e,q) => (e,bu l.m l.sx q)
noncomputable def Lp.end_ (l : Lp) : Ex × S → DT (Hs ⊕ (Ex × Hs))
 | (.n,s) => (zCo l.m l.sp s).bind fun q => .ret (.inl q)
 | (.x id,s) => (zCo l.m l.sx s).bind fun q => .ret (.inr (.x id,q))
 | (.r,s) => (zCo l.m l.sr s).bind fun q => .ret (.inr (.r,q))
 | _ => .no
noncomputable def Lp.stp (l : Lp) (rn : Rd') (f : Nat) (p : List Bool) (x : Code) (q : Hs) : Option (Hs ⊕ (Ex × Hs)) := ((rn f (false :: p) x (bu l.m l.sp q)).bind l.end_).run
inductive It (st : Hs → Option (Hs ⊕ (Ex × Hs))) : Nat → Hs → Ex × Hs → Prop
  | out {q : Hs} {y : Ex × Hs} (h : st q = some (.inr y)) : It st 0 q y
  | go {n : Nat} {q q' : Hs} {y : Ex × Hs} (h : st q = some (.inl q')) (k : It st n q' y) : It st (n + 1) q y
section
variable {P : Program} {OD : Od} {LO : Lo} {rn : Rd'} {l : Lp} {f : Nat} {p : List Bool} {x : Code} {s : S}
theorem qFl (hrn : zFy P rn) (hc : cAt P f p = some (.loop x)) {n : Nat} {q : Hs} {y : Ex × Hs} (hm : l.m = s.H.length) (h0 : (zCo l.m l.sp s).run = some q) (h : It (l.stp rn f p x) n q y) : Tr P (.loop x) s (l.bx y).1 (l.bx y).2 := by
 intro E w0 X F n0 a D B w Y Mo rr Q hr hW hF hA
 have c1 : cAt P f (false :: p) = some x := by simp [cAt,hc,dD]
 have hr1 : rr = none ∨ noR x = true := hr.imp id fun h => by simpa [noR] using h
 have hBm : ∀ i,l.m ≤ i → B i = none := fun i hi => hW.nn i (by rw [← hm]; exact hi)
 refine nM (γ := Nat × Hs × List Nat) (fun g a2 w2 => It (l.stp rn f p x) g.1 g.2.1 y ∧ ∃ B' Y' Mo',(noR x = true → g.2.2 = []) ∧ Wd P E w0 X (g.2.2 ++ F) (bu l.m l.sp g.2.1).H B' w2 Y' Mo' ∧ FrT n0 a2 (bu l.m l.sp g.2.1).L (g.2.2.map Gv.mark ++ D) B' (rd w2 Y') ∧ BLe B B' ∧ Le (rd w Y) (rd w2 Y'))
  (fun g => g.1) (n,q,[]) ?_ ?_
 ·obtain ⟨src,k1,k2,_⟩ := zXk h0 hW hF
  exact ⟨h,_,Y,Mo,fun _ => rfl,k1,k2,qCf (BLe.refl B) hBm,Le.refl _⟩
 ·rintro ⟨j,q0,bs0⟩ a0 w1 ⟨hit,B1,Y1,Mo1,hb1,g1,g2,g3,g4⟩
  simp only at hit hb1 g1 g2
  have st : ∀ {z : Hs ⊕ (Ex × Hs)},l.stp rn f p x q0 = some z → ∃ e1 s1,(rn f (false :: p) x (bu l.m l.sp q0)).run = some (e1,s1) ∧ (l.end_ (e1,s1)).run = some z := fun h => by
   obtain ⟨⟨e1,s1⟩,h1,h2⟩ := zN h
   exact ⟨e1,s1,h1,h2⟩
  have fin : ∀ {s1 : S} {a' : Act} {w' : World} {B' : Bm} {Y' : Hid} {Mo' : List (Nat × Obj)} {bs : List Nat} {sp : Sp} {q1 : Hs},(zCo l.m sp s1).run = some q1 → Wd P E w0 X (bs ++ (bs0 ++ F)) s1.H B' w' Y' Mo' → FrT n0 a' s1.L (bs.map Gv.mark ++ (bs0.map Gv.mark ++ D)) B' (rd w' Y') → BLe B B' →
    ∃ B2,Wd P E w0 X (bs ++ bs0 ++ F) (bu l.m sp q1).H B2 w' Y' Mo' ∧ FrT n0 a' (bu l.m sp q1).L ((bs ++ bs0).map Gv.mark ++ D) B2 (rd w' Y') ∧ BLe B B2 := fun hq k1 k2 k3 => by
   obtain ⟨src,r1,r2,_⟩ := zXk hq k1 k2
   exact ⟨_,by rw [List.append_assoc]; exact r1,by rw [List.map_append,List.append_assoc]; exact r2,qCf k3 hBm⟩
  have out : ∀ {e1 : Ex} {s1 : S},(rn f (false :: p) x (bu l.m l.sp q0)).run = some (e1,s1) → ((∃ q1,(zCo l.m l.sp s1).run = some q1 ∧ e1 = .n ∧ ∃ j',j = j' + 1 ∧ It (l.stp rn f p x) j' q1 y) ∨ (∃ q1,(zCo l.m l.sx s1).run = some q1 ∧ (∃ id,e1 = .x id) ∧ l.bx y = (e1,bu l.m l.sx q1)) ∨ (∃ q1,(zCo l.m l.sr s1).run = some q1 ∧ e1 = .r ∧ l.bx y = (e1,bu l.m l.sr q1))) →
    x.wpIn (FF rr) 0 P (Exit.then (fun a' w' => ∃ g' : Nat × Hs × List Nat,(It (l.stp rn f p x) g'.1 g'.2.1 y ∧ ∃ B' Y' Mo',(noR x = true → g'.2.2 = []) ∧ Wd P E w0 X (g'.2.2 ++ F) (bu l.m l.sp g'.2.1).H B' w' Y' Mo' ∧ FrT n0 a' (bu l.m l.sp g'.2.1).L (g'.2.2.map Gv.mark ++ D) B' (rd w' Y') ∧ BLe B B' ∧ Le (rd w Y) (rd w' Y')) ∧ g'.1 < j) Q) a0 w1 := fun h1 hh => by
   refine hrn _ _ _ _ _ _ c1 h1 E w0 X _ n0 a0 _ B1 w1 Y1 Mo1 rr _ hr1 g1 g2 fun a' w' B' Y' Mo' bs hbs k1 k2 k3 k4 => ?_
   have hbs' : noR x = true → bs ++ bs0 = [] := fun e => by rw [hbs e,hb1 e]; rfl
   rcases hh with ⟨q1,hq,rfl,j',rfl,hit'⟩ | ⟨q1,hq,⟨id,rfl⟩,hy⟩ | ⟨q1,hq,rfl,hy⟩
   ·obtain ⟨B2,r1,r2,r3⟩ := fin hq k1 k2 (g3.trans k3)
    exact ⟨(j',q1,bs ++ bs0),⟨hit',B2,Y',Mo',hbs',r1,r2,r3,g4.trans k4⟩,Nat.lt_succ_self j'⟩
   ·obtain ⟨B2,r1,r2,r3⟩ := fin hq k1 k2 (g3.trans k3)
    rw [hy] at hA
    exact hA a' w' B2 Y' Mo' (bs ++ bs0) (fun e => hbs' (by simpa [noR] using e)) r1 r2 r3 (g4.trans k4)
   ·obtain ⟨B2,r1,r2,r3⟩ := fin hq k1 k2 (g3.trans k3)
    rw [hy] at hA
    exact hA a' w' B2 Y' Mo' (bs ++ bs0) (fun e => hbs' (by simpa [noR] using e)) r1 r2 r3 (g4.trans k4)
  cases hit with
  | go h k =>
   obtain ⟨e1,s1,h1,h2⟩ := st h
   refine out h1 ?_
   cases e1 with
   | n => obtain ⟨q1,r1,r2⟩ := zN h2; cases r2; exact .inl ⟨_,r1,rfl,_,rfl,k⟩
   | x id => obtain ⟨q1,r1,r2⟩ := zN h2; cases r2
   | r => obtain ⟨q1,r1,r2⟩ := zN h2; cases r2
   | p t => cases h2
  | out h =>
   obtain ⟨e1,s1,h1,h2⟩ := st h
   refine out h1 ?_
   cases e1 with
   | n => obtain ⟨q1,r1,r2⟩ := zN h2; cases r2
   | x id => obtain ⟨q1,r1,r2⟩ := zN h2; cases r2; exact .inr (.inl ⟨q1,r1,⟨id,rfl⟩,rfl⟩)
   | r => obtain ⟨q1,r1,r2⟩ := zN h2; cases r2; exact .inr (.inr ⟨q1,r1,rfl,rfl⟩)
   | p t => cases h2
noncomputable def Lp.row (l : Lp) (h : Hs → DT (Ex × Hs)) (s : S) : DT (Ex × S) := bif Nat.beq l.m (ln s.H) then (zCo l.m l.sp s).bind fun q => (h q).bind fun y => .ret (l.bx y) else .no
noncomputable def eqP : List Bool → List Bool → Bool
 | [],[] => true
 | a :: p,b :: q => zTx a b && eqP p q
 | _,_ => false
theorem zYn : ∀ {p q : List Bool},eqP p q = true → p = q
 | [],[],_ => rfl
 | a :: p,b :: q,h => by
  simp only [eqP,Bool.and_eq_true] at h
  rw [zYn h.2]
  congr 1
  cases a <;> cases b <;> first | rfl | cases h.1
noncomputable def loT : List (Nat × List Bool × (S → DT (Ex × S))) → Lo
 | [],_,_,_ => none
 | (g,p',h) :: l,f,p,s => bif Nat.beq g f && eqP p' p then some (h s) else loT l f p s
theorem zPv : zTt P (loT []) := fun _ _ _ _ h => by cases h
theorem xF {t : List (Nat × List Bool × (S → DT (Ex × S)))} (ht : zTt P (loT t)) {h : Hs → DT (Ex × Hs)} (hrn : zFy P rn) (hc : cAt P f p = some (.loop x)) (hh : ∀ q y,(h q).run = some y → ∃ n,It (l.stp rn f p x) n q y) : zTt P (loT ((f,p,l.row h) :: t)) := by
 intro f' p' s d hd x' hx' e s' hrun
 simp only [loT] at hd
 cases hb : Nat.beq f f' && eqP p p' with
 | false => rw [hb,cond_false] at hd; exact ht f' p' s d hd x' hx' e s' hrun
 | true =>
  rw [hb,cond_true] at hd
  cases hd
  simp only [Bool.and_eq_true] at hb
  obtain rfl := qD hb.1
  obtain rfl := zYn hb.2
  rw [hc] at hx'
  cases hx'
  unfold Lp.row at hrun
  cases hm : Nat.beq l.m (ln s.H) with
  | false => rw [hm] at hrun; cases hrun
  | true =>
   rw [hm,cond_true] at hrun
   have hm := qD hm
   rw [qO] at hm
   obtain ⟨q,h1,h2⟩ := zN hrun
   obtain ⟨y,h3,h4⟩ := zN h2
   obtain ⟨n,hn⟩ := hh q y h3
   have := qFl hrn hc hm h1 hn
   have e4 : l.bx y = (e,s') := Option.some.inj h4
   rw [e4] at this
   exact this
end
@[match_pattern] abbrev limsT : Ty := .list .lim
@[match_pattern] abbrev zZ : Ty := .prod .bool (.prod (.list .lim) (.list .lim))
noncomputable def qQe (A : Ty) : T → Option (List A.den)
 | .ls _ A' l => zGo A' A l
 | .v (.slice none 0 0) => some []
 | .sl cs n => bif nR A then (match mI (n * A.size) cs with
  | some us => (match chk A (n + 1) us with
   | some l => (match zLu false A l [] with
    | some x => bif Nat.beq (ln x) n then some x.reverse else none
    | none => none)
   | none => none)
  | none => none) else none
 | _ => none
noncomputable def qDn : Ty → T → Option T
 | .list A,t => (match qQe A t with
  | some l => some (.ls false A l)
  | none => none)
 | .prod A B,.ag cs => (match pY false (.prod A B) cs with
  | some x => some (.ag (qZ false (.prod A B) x))
  | none => none)
 | .int k,.v (.int k' a) => bif Nat.beq (kind k) (kind k') then some (.v (.int k' a)) else none
 | .bool,.v (.bool b) => some (.v (.bool b))
 | _,_ => none
noncomputable def zLo : List Ty → List T → Option (List T)
 | [],[] => some []
 | A :: As,t :: ts => (match qDn A t,zLo As ts with
  | some x,some r => some (x :: r)
  | _,_ => none)
 | _,_ => none
section
variable {P : Program} {B : Bm} {r : Rd} {f k : Nat} {az cz : List T} {tv : T} {nw : Bool}
theorem zLi.of_flat {p : Nat → Prop} {g : Bool} {A : Ty} {x : List A.den} {vs : List Value} {b o c : Nat} (hg : ∀ (A : Ty) (l : List A.den) (v : Value),Rep B r (.ls g A l) v → jB r p (.list A) l [v]) (hA : nR A = true) (h : zP B r (qN g A x) vs) (hr : ∀ (j : Nat) (v : Value),vs[j]? = some v → r ⟨b,o + j,none⟩ = some v) (hp : p b) (hc : x.length ≤ c) (hm : c ≤ maxLen) :
  zLi r p A.size (fun y us => jB r p A y us) (some ⟨b,o,none⟩) c x.reverse := by
 refine ⟨by simpa using hc,hm,.inr ⟨b,o,rfl,hp,fun j y hy => ?_⟩⟩
 have hj : j < x.length := by
  have := (List.getElem?_eq_some_iff.1 hy).1
  simpa using this
 have hlen : x.length * A.size = vs.length := by
  have := h.length
  rwa [kV] at this
 have hj1 : (j + 1) * A.size ≤ x.length * A.size := Nat.mul_le_mul_right _ hj
 rw [Nat.add_mul,Nat.one_mul] at hj1
 have hul : ((vs.drop (j * A.size)).take A.size).length = A.size := by
  rw [List.length_take,List.length_drop]; omega
 have hget : ∀ (q : Nat) (v : Value),((vs.drop (j * A.size)).take A.size)[q]? = some v → vs[j * A.size + q]? = some v := fun q v hq => by
  rw [List.getElem?_take] at hq
  split at hq
  ·rwa [List.getElem?_drop] at hq
  ·cases hq
 refine ⟨(vs.drop (j * A.size)).take A.size,hul,?_,fun q v hq => hr _ _ (hget q v hq)⟩
 refine jB.of_reps (B2 := B) hg A hA y _ (zP.of (by rw [jY,hul]) fun q t v ht hv => ?_)
 have h4 := aI g A x j y hy q t ht
 obtain ⟨v',h6,h7⟩ := h.get h4
 rw [hget q v hv] at h6
 cases h6
 exact h7
theorem qHc {A : Ty} {t : T} {l : List A.den} {v : Value} (h : qQe A t = some l) (hR : Rep B r t v) : Rep B r (.ls false A l) v := by
 unfold qQe at h
 split at h
 ·obtain ⟨rfl,he⟩ := dC h
  obtain rfl := eq_of_heq he
  cases hR with
  | ls h1 => exact .ls (jB.mono (Le.refl _) (fun b _ e => by cases e) _ _ _ h1)
 ·cases h
  obtain ⟨rfl,_⟩ := hR.vI
  exact .ls ⟨none,0,rfl,Nat.le_refl _,Nat.zero_le _,.inl rfl⟩
 ·rename_i cs n
  cases hA : nR A with
  | false => rw [hA] at h; cases h
  | true =>
   rw [hA,cond_true] at h
   split at h
   ·rename_i us hu
    split at h
    ·rename_i ch hch
     split at h
     ·rename_i x hx
      cases hn : Nat.beq (ln x) n with
      | false => rw [hn] at h; cases h
      | true =>
       rw [hn,cond_true] at h
       cases h
       have hn := qD hn
       rw [qO] at hn
       subst hn
       have hb := hR.dn
       obtain ⟨ad,c,rfl,hc,hh⟩ := hR.slI
       have hm := hR.slB
       obtain ⟨_,rfl⟩ := bH _ _ _ hu
       have he := chk_ok _ _ hch
       rcases hh with ⟨h0,rfl⟩ | ⟨b,o,rfl,hcl⟩
       ·have := List.eq_nil_of_length_eq_zero h0
        subst this
        exact .ls ⟨ad,c,rfl,Nat.zero_le _,hm,.inl rfl⟩
       ·obtain ⟨fv,g1,g2⟩ := hcl.fun
        have hRs : zP B r (cs.take (x.length * A.size)) ((List.range (cs.take (x.length * A.size)).length).map fv) := zP.of (by simp) fun j t v e e' => by
         rw [List.getElem?_map] at e'
         obtain ⟨j',e1,rfl⟩ := Option.map_eq_some_iff.1 e'
         have hj := (List.getElem?_eq_some_iff.1 e1)
         obtain ⟨hj1,hj2⟩ := hj
         rw [List.getElem_range] at hj2
         subst hj2
         rw [List.getElem?_take] at e
         split at e
         ·exact g2 _ _ e
         ·cases e
        have hk := zCq ch [] hx (by simpa [qN,← he] using hRs)
        refine .ls ⟨some ⟨b,o,none⟩,c,by rw [List.length_reverse],zLi.of_flat (g := false) (fun A l v h => by cases h with | ls h => exact h) hA hk.1 (fun j v hv => ?_) (fun e => by cases e) hc hm⟩
        rw [List.getElem?_map] at hv
        obtain ⟨j',e1,rfl⟩ := Option.map_eq_some_iff.1 hv
        obtain ⟨hj1,hj2⟩ := List.getElem?_eq_some_iff.1 e1
        rw [List.getElem_range] at hj2
        subst hj2
        have hj3 : j < cs.length := by
         have : j < (cs.take (x.length * A.size)).length := by simpa using hj1
         exact Nat.lt_of_lt_of_le this (List.length_take_le' _ _)
        exact g1 j cs[j] (by simp [hj3])
     ·cases h
    ·cases h
   ·cases h
 ·cases h
theorem qDo {A : Ty} {t t' : T} {v : Value} (h : qDn A t = some t') (hR : Rep B r t v) : Rep B r t' v := by
 unfold qDn at h
 split at h
 ·split at h
  ·rename_i l hl; cases h; exact qHc hl hR
  ·cases h
 ·split at h
  ·rename_i A C cs x hx
   cases h
   obtain ⟨vs,rfl,hvs⟩ := hR.agI
   exact Rep.mkAg (zCp _ hx hvs).1
  ·cases h
 ·rename_i k k' a
  cases hk : Nat.beq (kind k) (kind k') with
  | false => rw [hk] at h; cases h
  | true => rw [hk] at h; cases h; exact hR
 ·cases h; exact hR
 ·cases h
theorem zLp : ∀ {As : List Ty} {az cz : List T} {vs : List Value},zLo As az = some cz → zP B r az vs → zP B r cz vs
 | [],[],cz,vs,h,hR => by cases h; exact hR
 | A :: As,t :: ts,cz,v :: vs,h,hR => by
  simp only [zLo] at h
  cases h1 : qDn A t with
  | none => simp [h1] at h
  | some x =>
   cases h2 : zLo As ts with
   | none => simp [h1,h2] at h
   | some rr =>
    simp only [h1,h2,Option.some.injEq] at h
    subst h
    exact ⟨qDo h1 hR.1,zLp h2 hR.2⟩
 | [],_ :: _,_,_,h,_ => by cases h
 | _ :: _,[],_,_,h,_ => by cases h
 | _ :: _,_ :: _,_,[],_,hR => hR.elim
theorem KnP.arg (h : KnP P k f cz tv nw) (ha : ∀ (B : Bm) (r : Rd) (vs : List Value),zP B r az vs → zP B r cz vs) : KnP P k f az tv nw := fun B w X qK R hI hk hX hR hK => h B w X qK R hI hk hX (ha B _ _ hR) hK
noncomputable def odR (As : List Ty) (h : List T → DT (T × Bool)) (az : List T) : DT (T × Bool) := match zLo As az with
 | some cz => h cz
 | none => .no
noncomputable def odT : List (Nat × (List T → DT (T × Bool))) → Od
 | [],_ => none
 | (g,h) :: l,f => bif Nat.beq g f then some h else odT l f
theorem qAq : bU P (odT []) := fun _ _ h => by cases h
theorem yL {t : List (Nat × (List T → DT (T × Bool)))} {h : List T → DT (T × Bool)} (ht : bU P (odT t)) (hh : ∀ az tv nw,(h az).run = some (tv,nw) → ∀ k,KnP P k f az tv nw) : bU P (odT ((f,h) :: t)) := by
 intro g h' e
 simp only [odT] at e
 cases hb : Nat.beq f g with
 | false => rw [hb,cond_false] at e; exact ht g h' e
 | true => rw [hb,cond_true] at e; cases e; obtain rfl := qD hb; exact hh
theorem nU {As : List Ty} {h : List T → DT (T × Bool)} (hh : ∀ cz tv nw,(h cz).run = some (tv,nw) → ∀ k,KnP P k f cz tv nw) : ∀ az tv nw,(odR As h az).run = some (tv,nw) → ∀ k,KnP P k f az tv nw := fun az tv nw e k => by
 unfold odR at e
 split at e
 ·rename_i cz hc; exact (hh cz tv nw e k).arg fun B r vs hR => zLp hc hR
 ·cases e
theorem pQ {OD : Od} {LO : Lo} (hm : P.follows .mixedOrders = true) (hO : bU P OD) (hL : zTt P LO) {n : Nat} (h : ((gF P (evD P OD LO n) f (cz.map (unN 12)) []).bind aK).run = some (tv,nw)) (hc : (cz.all (clean 12) && clean 12 tv) = true) (k : Nat) : KnP P k f cz tv nw := by
 obtain ⟨⟨t,H1⟩,h1,h2⟩ := zN h
 simp only [Bool.and_eq_true] at hc
 exact (zYu (k := 0) hm (zYp hm hO hL n) h1 h2).clean hc.1 hc.2 k
noncomputable def zUy : T → Option (List Nat)
 | .ls _ .lim l => some l
 | t => zJk t
noncomputable def arX : T → Option Ar
 | .ag [.v (.bool b),x,y] => (match zUy x,zUy y with
  | some l,some l2 => some (.r ⟨b,l,l2⟩)
  | _,_ => none)
 | t => arT t
noncomputable def zPb : List T → Option (List Ar)
 | [] => some []
 | t :: l => match arX t,zPb l with
  | some a,some r => some (a :: r)
  | _,_ => none
noncomputable def unX : Ar → T
 | .r a => .ag [.v (.bool a.neg),.ls false .lim a.ln,.ls false .lim a.ld]
 | .i n => .v (.int .i64 n)
 | .b b => .v (.bool b)
 | .s s => .v (.string s)
noncomputable def qQr : Rs → T
 | .one a => unX a
 | .tup l => .tu (l.map unX)
variable {X : Hid} {w : World}
theorem qOs {g : Bool} {l : List Nat} {v : Value} (h : Rep B (rd w X) (.ls g .lim l) v) : ∃ ad n c,v = .slice ad n c ∧ zM (rd w X) ad n c l := by
 obtain ⟨ad,c,rfl,hn,hm,hh⟩ := h.lsI
 refine ⟨ad,_,c,rfl,rfl,hn,hm,?_,?_⟩
 ·rcases hh with rfl | ⟨b,o,rfl,_,k⟩
  ·intro x hx; cases hx
  ·intro x hx
   obtain ⟨i,hi⟩ := List.getElem?_of_mem hx
   obtain ⟨vs,_,g2,_⟩ := k i x hi
   exact g2.2
 ·rcases hh with rfl | ⟨b,o,rfl,_,k⟩
  ·exact .inl rfl
  ·refine .inr ⟨b,o,rfl,fun j v hv => ?_⟩
   simp only [U32,List.getElem?_map] at hv
   cases hx : l[j]? with
   | none => rw [hx] at hv; cases hv
   | some x =>
    rw [hx] at hv
    cases hv
    obtain ⟨vs,g1,g2,g3⟩ := k j x hx
    obtain ⟨rfl,_⟩ := g2
    have := g3 0 _ rfl
    rw [qM]
    have e : o + (j * Ty.lim.size + 0) = o + j := by show o + (j * 1 + 0) = o + j; omega
    rwa [e] at this
theorem zZx {ad : Option Addr} {n c : Nat} {l : List Nat} (h : zM (rd w X) ad n c l) : Rep B (rd w X) (.ls false .lim l) (.slice ad n c) := by
 have e := h.hlen
 subst e
 refine .ls ⟨ad,c,rfl,h.hcap,h.hbig,?_⟩
 rcases h.hat with rfl | ⟨b,o,rfl,ha⟩
 ·exact .inl rfl
 ·refine .inr ⟨b,o,rfl,(fun e => by cases e),fun i x hx => ⟨[.int .u32 (.ofNat x)],rfl,⟨rfl,h.hlt x (List.mem_of_getElem? hx)⟩,fun j v hv => ?_⟩⟩
  cases j with
  | succ j => simp at hv
  | zero =>
   cases hv
   have := ha i (.int .u32 (.ofNat x)) (by simp only [U32,List.getElem?_map,hx]; rfl)
   rw [qM] at this
   have e : o + (i * Ty.lim.size + 0) = o + i := by show o + (i * 1 + 0) = o + i; omega
   rwa [e]
theorem zSa {t : T} {l : List Nat} {v : Value} (h : zUy t = some l) (hR : Rep B (rd w X) t v) : ∃ ad n c,v = .slice ad n c ∧ zM (rd w X) ad n c l := by
 unfold zUy at h
 split at h
 ·cases h; exact qOs hR
 ·exact dV h hR
theorem qJx {t : T} {a : Ar} {v : Value} (h : arX t = some a) (hR : Rep B (rd w X) t v) : ArV X w a v := by
 unfold arX at h
 split at h
 ·rename_i b x y
  cases h1 : zUy x with
  | none => simp [h1] at h
  | some l =>
   cases h2 : zUy y with
   | none => simp [h1,h2] at h
   | some l2 =>
    simp only [h1,h2,Option.some.injEq] at h
    subst h
    obtain ⟨vs,rfl,hvs⟩ := hR.agI
    match vs,hvs with
    | [v1,v2,v3],⟨g1,g2,g3,_⟩ =>
     obtain ⟨rfl,_⟩ := g1.vI
     obtain ⟨a1,n1,c1,rfl,k1⟩ := zSa h1 g2
     obtain ⟨a2,n2,c2,rfl,k2⟩ := zSa h2 g3
     exact ⟨_,_,_,_,_,_,rfl,k1,k2⟩
 ·exact zXd h hR
theorem zIn : ∀ {ts : List T} {az : List Ar} {vs : List Value},zPb ts = some az → zP B (rd w X) ts vs → zOu X w az vs
 | [],az,[],h,_ => by simp [zPb] at h; subst h; trivial
 | t :: ts,az,v :: vs,h,hR => by
  simp only [zPb] at h
  cases h1 : arX t with
  | none => simp [h1] at h
  | some a =>
   cases h2 : zPb ts with
   | none => simp [h1,h2] at h
   | some r =>
    simp only [h1,h2,Option.some.injEq] at h
    subst h
    exact ⟨qJx h1 hR.1,zIn h2 hR.2⟩
 | [],_,_ :: _,_,hR => hR.elim
 | _ :: _,_,[],_,hR => hR.elim
theorem qCu {a : Ar} {v : Value} (h : ArV X w a v) : Rep B (rd w X) (unX a) v := by
 cases a with
 | r a =>
  obtain ⟨_,_,_,_,_,_,rfl,h1,h2⟩ := h
  exact Rep.mkAg (vs := [.bool a.neg,_,_]) ⟨.v rfl,zZx h1,zZx h2,trivial⟩
 | i n => cases h; exact .v rfl
 | b b => cases h; exact .v rfl
 | s s => cases h; exact .v rfl
theorem zTk : ∀ {az : List Ar} {vs : List Value},zOu X w az vs → zP B (rd w X) (az.map unX) vs
 | [],[],_ => trivial
 | _ :: _,_ :: _,h => ⟨qCu h.1,zTk h.2⟩
 | [],_ :: _,h => h.elim
 | _ :: _,[],h => h.elim
theorem zTj {y : Rs} {v : Value} (h : RsV X w y v) : Rep B (rd w X) (qQr y) v := by
 cases y with
 | one a => exact qCu h
 | tup l =>
  obtain ⟨vs,rfl,h⟩ := h
  exact Rep.mkTu (zTk h)
noncomputable def kcD (p : List Ar → Option Rs) (nw : Bool) (az : List T) : DT (T × Bool) := match zPb az with
 | some az => (ofO (p az)).bind fun y => .ret (qQr y,nw)
 | none => .no
theorem zJg {p : List Ar → Option Rs} {nw nw' : Bool} (hc : KC P f p nw) : ∀ az tv,(kcD p nw az).run = some (tv,nw') → ∀ k,KnP P k f az tv nw' := by
 intro az tv h k
 unfold kcD at h
 split at h
 ·rename_i az2 h1
  obtain ⟨y,h2,h3⟩ := zN h
  rw [kI] at h2
  cases h3
  intro B w X qK R _ _ hX hR hk
  refine (hc w X hX az2 qK (zIn h1 hR) y h2).mono ?_
  rintro e w' ⟨hu,v,rfl,hv⟩
  exact hk v w' hu (zTj hv)
 ·cases h
end
noncomputable def us' : Nat → List Sl
 | 0 => []
 | n + 1 => .u :: us' n
noncomputable def lpc (P : Program) (f : Nat) (p : List Bool) : Code := match cAt P f p with
 | some (.loop x) => x
 | _ => .skip
def fol {α γ : Type} (g : Nat → α → α ⊕ γ) (d : α → γ) : Nat → Nat → α → γ
 | 0,_,a => d a
 | k + 1,i,a => match g i a with
  | .inl b => fol g d k (i + 1) b
  | .inr y => y
theorem vQ {st : Hs → Option (Hs ⊕ (Ex × Hs))} {α γ : Type} {iv : Nat → α → Hs} {g : Nat → α → α ⊕ γ} {d : α → γ} {out : γ → Ex × Hs} {n : Nat} (J : Nat → α → Prop)
  (h1 : ∀ i a,i < n → J i a → st (iv i a) = some (match g i a with | .inl b => .inl (iv (i + 1) b) | .inr y => .inr (out y)))
  (h2 : ∀ i a b,i < n → J i a → g i a = .inl b → J (i + 1) b) (h3 : ∀ a,J n a → st (iv n a) = some (.inr (out (d a)))) : ∀ k i a,i + k = n → J i a → ∃ m,It st m (iv i a) (out (fol g d k i a))
 | 0,i,a,e,hJ => by
  obtain rfl : i = n := by omega
  exact ⟨0,.out (h3 a hJ)⟩
 | k + 1,i,a,e,hJ => by
  have hi : i < n := by omega
  have h := h1 i a hi hJ
  cases hg : g i a with
  | inl b =>
   rw [hg] at h
   obtain ⟨m,hm⟩ := vQ J h1 h2 h3 k (i + 1) b (by omega) (h2 i a b hi hJ hg)
   have e : fol g d (k + 1) i a = fol g d k (i + 1) b := by simp only [fol,hg]
   rw [e]
   exact ⟨m + 1,.go h hm⟩
  | inr y =>
   rw [hg] at h
   have e : fol g d (k + 1) i a = y := by simp only [fol,hg]
   rw [e]
   exact ⟨0,.out h⟩
section
variable {P : Program} {f : Nat}
noncomputable def kcT (p : List Ar → DT Rs) (nw : Bool) (az : List T) : DT (T × Bool) := match zPb az with
 | some az => (p az).bind fun y => .ret (qQr y,nw)
 | none => .no
theorem zZn {p : List Ar → DT Rs} {nw : Bool} (hc : KC P f (fun az => (p az).run) nw) : ∀ az tv nw',(kcT p nw az).run = some (tv,nw') → ∀ k,KnP P k f az tv nw' := by
 intro az tv nw' h k
 unfold kcT at h
 split at h
 ·rename_i az2 h1
  obtain ⟨y,h2,h3⟩ := zN h
  cases h3
  intro B w X qK R _ _ hX hR hk
  refine (hc w X hX az2 qK (zIn h1 hR) y h2).mono ?_
  rintro e w' ⟨hu,v,rfl,hv⟩
  exact hk v w' hu (zTj hv)
 ·cases h
end
theorem jR {a b : Nat} (h : a < b) : Nat.blt a b = true := by rw [Nat.blt_eq]; exact h
theorem xO {a b : Nat} (h : b ≤ a) : Nat.blt a b = false := by
 cases e : Nat.blt a b with
 | false => rfl
 | true => rw [Nat.blt_eq] at e; omega
theorem kS {a b : Nat} (h : a ≤ b) : Nat.ble a b = true := by rw [Nat.ble_eq]; exact h
theorem kG (a : Nat) : Nat.beq a a = true := Nat.beq_refl a
end Go.Ev
namespace Go.Ev
open Go Go.Gv Go.RowKit Go.ChangeShapes IntKind
def zQu : (A : Ty) → A.den → Prop
 | .lim,_ => True
 | .int .i64,a => -9223372036854775808 ≤ a ∧ a ≤ 9223372036854775807
 | .int _,_ => True
 | .bool,_ => True
 | .list A,l => l.length ≤ 140737488355328 ∧ ∀ x ∈ l,zQu A x
 | .prod A B,x => zQu A x.1 ∧ zQu B x.2
mutual
inductive TyF (P : Program) : Ty → TypeId → Prop
  | lim {t : TypeId} (h : P.underlying t = some (.int .u32)) : TyF P .lim t
  | int {t : TypeId} {k : IntKind} (h : P.underlying t = some (.int k)) : TyF P (.int k) t
  | bool {t : TypeId} (h : P.underlying t = some .bool) : TyF P .bool t
  | list {t e : TypeId} {A : Ty} (h : P.underlying t = some (.slice e)) (hs : P.cellsOf e = A.size) (hb : 1 ≤ P.bytesOf e) (he : TyF P A e) : TyF P (.list A) t
  | struct {t : TypeId} {A : Ty} {fs : Array Field} (h : P.underlying t = some (.struct fs)) (hs : P.cellsOf t = A.size) (hf : FsF P A 0 fs.toList) : TyF P A t
inductive FsF (P : Program) : Ty → Nat → List Field → Prop
  | one {A : Ty} {off : Nat} {f : Field} (ho : f.offset = off) (hs : P.cellsOf f.type = A.size) (h : TyF P A f.type) : FsF P A off [f]
  | cons {A B : Ty} {off : Nat} {f : Field} {l : List Field} (ho : f.offset = off) (hs : P.cellsOf f.type = A.size) (h : TyF P A f.type) (hl : FsF P B (off + A.size) l) : FsF P (.prod A B) off (f :: l)
end
section
variable {H : Type} {enc : TypeId × Value → H} {P : Program} {w : World} {spare : Nat → Bool} {held : Bool}
def Opn (enc : TypeId × Value → H) (P : Program) (w : World) (spare : Nat → Bool) (held : Bool) (A : Ty) (t : TypeId) : Prop := ∀ (n : Nat) (cs : List Value) (y : DataW H × List MemPlace),fV enc P w spare held n t cs y → ∃ x : A.den,zQu A x ∧ jB (rd w X0) (fun _ => True) A x cs
def zWs (enc : TypeId × Value → H) (P : Program) (w : World) (spare : Nat → Bool) (held : Bool) (A : Ty) (off : Nat) (l : List Field) : Prop := ∀ (cs : List Value),cs.length = off + A.size → (∀ f ∈ l,∃ n y,fV enc P w spare held n f.type ((cs.drop f.offset).take (P.cellsOf f.type)) y) → ∃ x : A.den,zQu A x ∧ jB (rd w X0) (fun _ => True) A x (cs.drop off)
theorem qGf {t : TypeId} (h : P.underlying t = some (.int .u32)) : Opn enc P w spare held .lim t := by
 intro n cs y k
 obtain ⟨z,rfl,_,hw⟩ := DataW.trod_int h k.1
 have hz : 0 ≤ z ∧ z < 4294967296 := by
  simp [Lit.wf,IntKind.min,IntKind.max,IntKind.signed,IntKind.bits] at hw
  omega
 refine ⟨z.toNat,trivial,?_,show z.toNat < 4294967296 by omega⟩
 rw [Int.ofNat_eq_natCast,Int.toNat_of_nonneg hz.1]
theorem qGe {t : TypeId} {kk : IntKind} (h : P.underlying t = some (.int kk)) : Opn enc P w spare held (.int kk) t := by
 intro n cs y k'
 obtain ⟨z,rfl,_,hw⟩ := DataW.trod_int h k'.1
 refine ⟨z,?_,rfl⟩
 cases kk <;> first | trivial | skip
 simp [Lit.wf,IntKind.min,IntKind.max,IntKind.signed,IntKind.bits] at hw
 exact ⟨show -9223372036854775808 ≤ z by omega,show z ≤ 9223372036854775807 by omega⟩
theorem qAz {t : TypeId} (h : P.underlying t = some .bool) : Opn enc P w spare held .bool t := by
 intro n cs y k
 obtain ⟨b,rfl,_⟩ := DataW.trod_bool h k.1
 exact ⟨b,trivial,rfl⟩
theorem qBb {t e : TypeId} {A : Ty} (h : P.underlying t = some (.slice e)) (hs : P.cellsOf e = A.size) (hb : 1 ≤ P.bytesOf e) (ih : Opn enc P w spare held A e) : Opn enc P w spare held (.list A) t := by
 intro n cs y k
 obtain ⟨ad,len,cap,xs,rfl,hx,hl⟩ := qGd (α := A.den) (El := fun r a x => zQu A x ∧ ∃ us,us.length = A.size ∧ jB r (fun _ => True) A x us ∧ At r a us) (bts := P.bytesOf e) h hs A.size_pos rfl (fun n cs y b off hz hcl hat => by
  obtain ⟨x,hv,hR⟩ := ih n cs y hz
  exact ⟨x,hv,cs,hcl,hR,hat⟩) k
 refine ⟨xs,⟨?_,?_⟩,ad,cap,?_,?_⟩
 ·have : xs.length * 1 ≤ xs.length * P.bytesOf e := Nat.mul_le_mul_left _ hb
  omega
 ·intro x hx'
  rcases hx.hat with rfl | ⟨b,off,_,ha⟩
  ·cases hx'
  ·obtain ⟨i,hi⟩ := List.getElem?_of_mem hx'
   exact (ha i x hi).1
 ·rw [hx.hlen]
 ·refine ⟨by rw [← hx.hlen]; exact hx.hcap,hx.hbig,hx.hat.imp id fun ⟨b,off,e,ha⟩ => ⟨b,off,e,trivial,fun i x hi => ?_⟩⟩
  obtain ⟨_,us,h1,h2,h3⟩ := ha i x hi
  refine ⟨us,h1,h2,fun j v hv => ?_⟩
  have := h3 j v hv
  rwa [qM,Nat.add_assoc] at this
theorem zQc {t : TypeId} {A : Ty} {fs : Array Field} (h : P.underlying t = some (.struct fs)) (hs : P.cellsOf t = A.size) (ih : zWs enc P w spare held A 0 fs.toList) : Opn enc P w spare held A t := by
 intro n cs y k
 have hl := flen h k hs
 obtain ⟨x,hv,hR⟩ := ih cs (by rw [hl,Nat.zero_add]) fun f hf => by
  obtain ⟨i,hi⟩ := List.getElem?_of_mem hf
  exact fld h k i (by simpa using hi) rfl
 exact ⟨x,hv,by simpa using hR⟩
theorem qGg {A : Ty} {off : Nat} {f : Field} (ho : f.offset = off) (hs : P.cellsOf f.type = A.size) (ih : Opn enc P w spare held A f.type) : zWs enc P w spare held A off [f] := by
 intro cs hl hf
 obtain ⟨n,y,k⟩ := hf _ List.mem_cons_self
 obtain ⟨x,hv,hR⟩ := ih n _ y k
 refine ⟨x,hv,?_⟩
 rw [ho,hs,List.take_of_length_le (by rw [List.length_drop]; omega)] at hR
 exact hR
theorem qBa {A1 B1 : Ty} {off : Nat} {f : Field} {l : List Field} (ho : f.offset = off) (hs : P.cellsOf f.type = A1.size) (ih : Opn enc P w spare held A1 f.type) (ih2 : zWs enc P w spare held B1 (off + A1.size) l) : zWs enc P w spare held (.prod A1 B1) off (f :: l) := by
 intro cs hl hf
 obtain ⟨n,y,k⟩ := hf _ List.mem_cons_self
 obtain ⟨x,hv,hR⟩ := ih n _ y k
 obtain ⟨x2,hv2,hR2⟩ := ih2 cs (by rw [hl]; show off + (A1.size + B1.size) = _; omega) fun f hf' => hf f (List.mem_cons_of_mem _ hf')
 refine ⟨(x,x2),⟨hv,hv2⟩,(cs.drop off).take A1.size,(cs.drop off).drop A1.size,(List.take_append_drop _ _).symm,?_,?_⟩
 ·rw [ho,hs] at hR; exact hR
 ·rw [List.drop_drop]; exact hR2
theorem TyF.open {A : Ty} {t : TypeId} (h : TyF P A t) : Opn enc P w spare held A t :=
 TyF.rec (motive_1 := fun A t _ => Opn enc P w spare held A t) (motive_2 := fun A off l _ => zWs enc P w spare held A off l) (fun h => qGf h) (fun h => qGe h) (fun h => qAz h) (fun h hs hb _ ih => qBb h hs hb ih) (fun h hs _ ih => zQc h hs ih) (fun ho hs _ ih => qGg ho hs ih) (fun ho hs _ _ ih ih2 => qBa ho hs ih ih2) h
end
section
variable {H : Type} {enc : TypeId × Value → H} {P : Program} {w : World} {spare : Nat → Bool} {held : Bool}
theorem zSq {t e : TypeId} {A : Ty} {v : Value} {d : DataW H} {ps : List MemPlace} {r : Reach} {base : Nat} (ht : P.underlying t = some (.slice e)) (hF : TyF P (.list A) t) (hok : Value.okWide P w r base t v) (h : DataW.Trod enc P w 0 spare held t v d ps) (hz : w.noneFrozen ps) (hw : ∀ n ∈ d.weights P t,n ≤ 140737488351232) (B : Bm) :
  ∃ x : List A.den,zQu (.list A) x ∧ Rep B (rd w X0) (.ls false A x) v := by
 obtain ⟨a,len,cap,rfl⟩ := Go.WideShapes.okWide_slice ht hok
 obtain ⟨n,h⟩ := h
 have h : fV enc P w spare held n t _ _ := ⟨h,hz,hw⟩
 simp only [Value.cells] at h
 obtain ⟨x,hv,hR⟩ := TyF.open hF n _ _ h
 exact ⟨x,hv,.ls (jB.mono (Le.refl _) (fun _ _ e => by cases e) _ _ _ hR)⟩
end
end Go.Ev
namespace Go.Proofs.YtfijdjigiapnbaaGreatDoor
open Go Go.Gv Go.Ev Go.RowKit IntKind
theorem kAdd : KC Tryz.prog 137 (pRR fun a b => some (opR a b (a.rat + b.rat),opE a b (a.rat + b.rat))) true := zZo fun w X hX a va ha b vb hb y hy => by
 obtain ⟨_,_,_,_,_,_,rfl,h1,h2⟩ := ha
 obtain ⟨_,_,_,_,_,_,rfl,h3,h4⟩ := hb
 cases hy
 exact qPx w X hX a _ _ _ h1 _ _ _ h2 b _ _ _ h3 _ _ _ h4
theorem kMul : KC Tryz.prog 121 (pRR fun a b => some (opR a b (a.rat * b.rat),opE a b (a.rat * b.rat))) true := zZo fun w X hX a va ha b vb hb y hy => by
 obtain ⟨_,_,_,_,_,_,rfl,h1,h2⟩ := ha
 obtain ⟨_,_,_,_,_,_,rfl,h3,h4⟩ := hb
 cases hy
 exact qQa w X hX a _ _ _ h1 _ _ _ h2 b _ _ _ h3 _ _ _ h4
theorem kDiv : KC Tryz.prog 26 (pRR fun a b => bif Nat.beq (val b.ln) 0 then none else some (opR a b (a.rat / b.rat),opE a b (a.rat / b.rat))) true := zZo fun w X hX a va ha b vb hb y hy => by
 obtain ⟨_,_,_,_,_,_,rfl,h1,h2⟩ := ha
 obtain ⟨_,_,_,_,_,_,rfl,h3,h4⟩ := hb
 cases h0 : Nat.beq (val b.ln) 0 with
 | true => simp [h0] at hy
 | false =>
  simp only [h0,cond_false] at hy
  cases hy
  exact qPz w X hX a _ _ _ h1 _ _ _ h2 b _ _ _ h3 _ _ _ h4 (fun e => by rw [e] at h0; cases h0)
theorem kCmp : KC Tryz.prog 30 (pRI fun a b => (rT a b,zBg a b)) true := qRr fun w X hX a va ha b vb hb => by
 obtain ⟨_,_,_,_,_,_,rfl,h1,h2⟩ := ha
 obtain ⟨_,_,_,_,_,_,rfl,h3,h4⟩ := hb
 exact qPy w X hX a _ _ _ h1 _ _ _ h2 b _ _ _ h3 _ _ _ h4
theorem kChk : KC Tryz.prog 56 (pR Raw.chk) true := kc_r fun w X hX a va ha => by
 obtain ⟨_,_,_,_,_,_,rfl,h1,h2⟩ := ha
 exact xI w X hX a _ _ _ h1 _ _ _ h2
theorem qIv : KC Tryz.prog 52 (pR Raw.chk) true := kc_r fun w X hX a va ha => by
 obtain ⟨_,_,_,_,_,_,rfl,h1,h2⟩ := ha
 exact zVr w X hX a _ _ _ h1 _ _ _ h2
theorem qRp : KC Tryz.prog 27 (pI fun n => Raw.of (n : Rat)) true := kc_i fun w n h1 h2 => qGx w (old w) (fun k _ h => h) n h1 h2
theorem kOf : KC Tryz.prog 75 (pII fun n m => Raw.of (mkRat (sgn (!(decide (n < 0) == decide (m < 0))) n.natAbs) m.natAbs)) true := qRq fun w n m h1 h2 h3 h4 h5 => qSa w (old w) (fun k _ h => h) n m h1 h2 h3 h4 h5
theorem kEq : KC Tryz.prog 28 (pB fun a b => decide (a = b)) true := kc_b fun w X hX a va ha b vb hb => by
 obtain ⟨_,_,_,_,_,_,rfl,h1,h2⟩ := ha
 obtain ⟨_,_,_,_,_,_,rfl,h3,h4⟩ := hb
 exact zOv w X hX a _ _ _ h1 _ _ _ h2 b _ _ _ h3 _ _ _ h4
noncomputable def zPy : List (Nat × (List T → Option (T × Bool))) := [(137,kcE (pRR fun a b => some (opR a b (a.rat + b.rat),opE a b (a.rat + b.rat))) true),(121,kcE (pRR fun a b => some (opR a b (a.rat * b.rat),opE a b (a.rat * b.rat))) true),(26,kcE (pRR fun a b => bif Nat.beq (val b.ln) 0 then none else some (opR a b (a.rat / b.rat),opE a b (a.rat / b.rat))) true),(30,kcE (pRI fun a b => (rT a b,zBg a b)) true),(56,kcE (pR Raw.chk) true),(52,kcE (pR Raw.chk) true),(27,kcE (pI fun n => Raw.of (n : Rat)) true),(75,kcE (pII fun n m => Raw.of (mkRat (sgn (!(decide (n < 0) == decide (m < 0))) n.natAbs) m.natAbs)) true),(28,kcE (pB fun a b => decide (a = b)) true)]
theorem qOz : zL Tryz.prog (zR zPy) := qCp fun g p hm ts tv nw h k => by
 simp only [zPy,List.mem_cons,List.not_mem_nil,or_false,Prod.mk.injEq] at hm
 rcases hm with ⟨rfl,rfl⟩ | ⟨rfl,rfl⟩ | ⟨rfl,rfl⟩ | ⟨rfl,rfl⟩ | ⟨rfl,rfl⟩ | ⟨rfl,rfl⟩ | ⟨rfl,rfl⟩ | ⟨rfl,rfl⟩ | ⟨rfl,rfl⟩
 ·exact dQ kAdd h k
 ·exact dQ kMul h k
 ·exact dQ kDiv h k
 ·exact dQ kCmp h k
 ·exact dQ kChk h k
 ·exact dQ qIv h k
 ·exact dQ qRp h k
 ·exact dQ kOf h k
 ·exact dQ kEq h k
end Go.Proofs.YtfijdjigiapnbaaGreatDoor
namespace Go.Proofs.YtfijdjigiapnbaaGreatDoor
open Go Go.RowKit Go.Shelf IntKind
set_option maxRecDepth 100000
set_option maxHeartbeats 1000000
def qIn : Go.Shelf.Ren := ⟨fun | 166 => 94 | 240 => 147 | 276 => 187 | n => n,fun | 0 => 0 | 3 => 3 | 4 => 4 | 5 => 5 | 9 => 9 | 20 => 20 | 37 => 34 | 70 => 152 | 72 => 154 | 75 => 156 | 80 => 161 | 164 => 259 | n => n,fun n => n⟩
theorem qKa : Go.Proofs.Lays.n166 Tryz.prog qIn := { mixed := by kernel_rfl,f166 := Tryz.func94.trans (congrArg some (by kernel_rfl)),f240 := Tryz.func147.trans (congrArg some (by kernel_rfl)),f276 := Tryz.func187.trans (congrArg some (by kernel_rfl)),t0 := Tryz.underlying0,a0 := Tryz.isAgg0,z0 := Tryz.sizeOf0,v0 := Tryz.zeroValue0,t3 := Tryz.underlying3,a3 := Tryz.isAgg3,z3 := Tryz.sizeOf3,v3 := Tryz.zeroValue3,t4 := Tryz.underlying4,a4 := Tryz.isAgg4,z4 := Tryz.sizeOf4,v4 := Tryz.zeroValue4,t9 := Tryz.underlying9,a9 := Tryz.isAgg9,z9 := Tryz.sizeOf9,v9 := Tryz.zeroValue9,t20 := Tryz.underlying20,a20 := Tryz.isAgg20,z20 := Tryz.sizeOf20,v20 := Tryz.zeroValue20,t37 := Tryz.underlying34,a37 := Tryz.isAgg34,z37 := Tryz.sizeOf34,v37 := Tryz.zeroValue34,t70 := Tryz.underlying152,a70 := Tryz.isAgg152,z70 := Tryz.sizeOf152,v70 := Tryz.zeroValue152,t72 := Tryz.underlying154,a72 := Tryz.isAgg154,z72 := Tryz.sizeOf154,v72 := Tryz.zeroValue154,t75 := Tryz.underlying156,a75 := Tryz.isAgg156,z75 := Tryz.sizeOf156,v75 := Tryz.zeroValue156,t164 := Tryz.underlying259,a164 := Tryz.isAgg259,z164 := Tryz.sizeOf259,v164 := Tryz.zeroValue259 }
def qIm : Go.Shelf.Ren := ⟨fun | 167 => 96 | 240 => 147 | 276 => 187 | n => n,fun | 0 => 0 | 3 => 3 | 4 => 4 | 5 => 5 | 9 => 9 | 20 => 20 | 37 => 34 | 70 => 152 | 72 => 154 | 75 => 156 | 80 => 161 | 164 => 259 | n => n,fun n => n⟩
theorem qJy : Go.Proofs.Lays.n167 Tryz.prog qIm := { mixed := by kernel_rfl,f167 := Tryz.func96.trans (congrArg some (by kernel_rfl)),f240 := Tryz.func147.trans (congrArg some (by kernel_rfl)),f276 := Tryz.func187.trans (congrArg some (by kernel_rfl)),t0 := Tryz.underlying0,a0 := Tryz.isAgg0,z0 := Tryz.sizeOf0,v0 := Tryz.zeroValue0,t4 := Tryz.underlying4,a4 := Tryz.isAgg4,z4 := Tryz.sizeOf4,v4 := Tryz.zeroValue4,t5 := Tryz.underlying5,a5 := Tryz.isAgg5,z5 := Tryz.sizeOf5,v5 := Tryz.zeroValue5,t9 := Tryz.underlying9,a9 := Tryz.isAgg9,z9 := Tryz.sizeOf9,v9 := Tryz.zeroValue9,t20 := Tryz.underlying20,a20 := Tryz.isAgg20,z20 := Tryz.sizeOf20,v20 := Tryz.zeroValue20,t37 := Tryz.underlying34,a37 := Tryz.isAgg34,z37 := Tryz.sizeOf34,v37 := Tryz.zeroValue34,t70 := Tryz.underlying152,a70 := Tryz.isAgg152,z70 := Tryz.sizeOf152,v70 := Tryz.zeroValue152,t72 := Tryz.underlying154,a72 := Tryz.isAgg154,z72 := Tryz.sizeOf154,v72 := Tryz.zeroValue154,t75 := Tryz.underlying156,a75 := Tryz.isAgg156,z75 := Tryz.sizeOf156,v75 := Tryz.zeroValue156,t164 := Tryz.underlying259,a164 := Tryz.isAgg259,z164 := Tryz.sizeOf259,v164 := Tryz.zeroValue259 }
def qIo : Go.Shelf.Ren := ⟨fun | 169 => 97 | n => n,fun | 70 => 152 | 9 => 9 | 0 => 0 | 72 => 154 | 37 => 34 | 127 => 219 | 3 => 3 | 5 => 5 | n => n,fun n => n⟩
theorem qKb : Go.Proofs.Lays.n169 Tryz.prog qIo := { mixed := by kernel_rfl,f169 := Tryz.func97.trans (congrArg some (by kernel_rfl)),t0 := Tryz.underlying0,a0 := Tryz.isAgg0,z0 := Tryz.sizeOf0,v0 := Tryz.zeroValue0,t3 := Tryz.underlying3,a3 := Tryz.isAgg3,z3 := Tryz.sizeOf3,v3 := Tryz.zeroValue3,t9 := Tryz.underlying9,a9 := Tryz.isAgg9,z9 := Tryz.sizeOf9,v9 := Tryz.zeroValue9,t37 := Tryz.underlying34,a37 := Tryz.isAgg34,z37 := Tryz.sizeOf34,v37 := Tryz.zeroValue34,t70 := Tryz.underlying152,a70 := Tryz.isAgg152,z70 := Tryz.sizeOf152,v70 := Tryz.zeroValue152,t72 := Tryz.underlying154,a72 := Tryz.isAgg154,z72 := Tryz.sizeOf154,v72 := Tryz.zeroValue154,t127 := Tryz.underlying219,a127 := Tryz.isAgg219,z127 := Tryz.sizeOf219,v127 := Tryz.zeroValue219 }
def qRf : Go.Shelf.Ren := ⟨fun | 171 => 95 | 243 => 148 | 246 => 188 | 283 => 205 | 284 => 206 | 285 => 207 | 286 => 208 | 129 => 219 | 317 => 218 | 318 => 220 | 319 => 221 | 320 => 222 | 337 => 235 | 338 => 236 | n => n,fun | 3 => 3 | 9 => 9 | 2 => 2 | 4 => 4 | 171 => 276 | 0 => 0 | 53 => 193 | 37 => 34 | 5 => 5 | 173 => 279 | 212 => 289 | 51 => 195 | 20 => 20 | 213 => 290 | 46 => 77 | 232 => 306 | 233 => 307 | n => n,fun | 17 => 0 | 18 => 1 | 19 => 2 | n => n⟩
theorem qJz : Go.Proofs.LaysM.n171 Tryz.prog qRf := { mixed := by kernel_rfl,f129 := Tryz.func219.trans (congrArg some (by kernel_rfl)),f171 := Tryz.func95.trans (congrArg some (by kernel_rfl)),f243 := Tryz.func148.trans (congrArg some (by kernel_rfl)),f246 := Tryz.func188.trans (congrArg some (by kernel_rfl)),f283 := Tryz.func205.trans (congrArg some (by kernel_rfl)),f284 := Tryz.func206.trans (congrArg some (by kernel_rfl)),f285 := Tryz.func207.trans (congrArg some (by kernel_rfl)),f286 := Tryz.func208.trans (congrArg some (by kernel_rfl)),f317 := Tryz.func218.trans (congrArg some (by kernel_rfl)),f318 := Tryz.func220.trans (congrArg some (by kernel_rfl)),f319 := Tryz.func221.trans (congrArg some (by kernel_rfl)),f320 := Tryz.func222.trans (congrArg some (by kernel_rfl)),f337 := Tryz.func235.trans (congrArg some (by kernel_rfl)),f338 := Tryz.func236.trans (congrArg some (by kernel_rfl)),t0 := Tryz.underlying0,a0 := Tryz.isAgg0,z0 := Tryz.sizeOf0,v0 := Tryz.zeroValue0,t2 := Tryz.underlying2,a2 := Tryz.isAgg2,z2 := Tryz.sizeOf2,v2 := Tryz.zeroValue2,t3 := Tryz.underlying3,a3 := Tryz.isAgg3,z3 := Tryz.sizeOf3,v3 := Tryz.zeroValue3,t4 := Tryz.underlying4,a4 := Tryz.isAgg4,z4 := Tryz.sizeOf4,v4 := Tryz.zeroValue4,t5 := Tryz.underlying5,a5 := Tryz.isAgg5,z5 := Tryz.sizeOf5,v5 := Tryz.zeroValue5,t9 := Tryz.underlying9,a9 := Tryz.isAgg9,z9 := Tryz.sizeOf9,v9 := Tryz.zeroValue9,t20 := Tryz.underlying20,a20 := Tryz.isAgg20,z20 := Tryz.sizeOf20,v20 := Tryz.zeroValue20,t37 := Tryz.underlying34,a37 := Tryz.isAgg34,z37 := Tryz.sizeOf34,v37 := Tryz.zeroValue34,t46 := Tryz.underlying77,a46 := Tryz.isAgg77,z46 := Tryz.sizeOf77,v46 := Tryz.zeroValue77,t51 := Tryz.underlying195,a51 := Tryz.isAgg195,z51 := Tryz.sizeOf195,v51 := Tryz.zeroValue195,t53 := Tryz.underlying193,a53 := Tryz.isAgg193,z53 := Tryz.sizeOf193,v53 := Tryz.zeroValue193,t171 := Tryz.underlying276,a171 := Tryz.isAgg276,z171 := Tryz.sizeOf276,v171 := Tryz.zeroValue276,t173 := Tryz.underlying279,a173 := Tryz.isAgg279,z173 := Tryz.sizeOf279,v173 := Tryz.zeroValue279,t212 := Tryz.underlying289,a212 := Tryz.isAgg289,z212 := Tryz.sizeOf289,v212 := Tryz.zeroValue289,t213 := Tryz.underlying290,a213 := Tryz.isAgg290,z213 := Tryz.sizeOf290,t232 := Tryz.underlying306,a232 := Tryz.isAgg306,z232 := Tryz.sizeOf306,v232 := Tryz.zeroValue306,t233 := Tryz.underlying307,a233 := Tryz.isAgg307,z233 := Tryz.sizeOf307,v233 := Tryz.zeroValue307,g17 := by kernel_rfl,g18 := by kernel_rfl,g19 := by kernel_rfl,i0 := by kernel_rfl,i2 := by kernel_rfl,i3 := by kernel_rfl,i4 := by kernel_rfl,i5 := by kernel_rfl,i9 := by kernel_rfl,i20 := by kernel_rfl,i37 := by kernel_rfl,i46 := by kernel_rfl,i51 := by kernel_rfl,i53 := by kernel_rfl,i171 := by kernel_rfl,i173 := by kernel_rfl,i212 := by kernel_rfl,i232 := by kernel_rfl,i233 := by kernel_rfl,m17 := by kernel_rfl,m18 := by kernel_rfl,m19 := by kernel_rfl }
theorem bSX : Builder.Extra Tryz.prog qIn := { sizeBuilder := by kernel_rfl,liesBuilder := by kernel_rfl,t5 := Tryz.underlying5,a5 := Tryz.isAgg5,z5 := Tryz.sizeOf5,v5 := Tryz.zeroValue5,infoByte := by kernel_rfl,cellsByte := by kernel_rfl,sizeByte := by kernel_rfl,neB5 := by decide }
theorem bBX : Builder.Extra Tryz.prog qIm := { sizeBuilder := by kernel_rfl,liesBuilder := by kernel_rfl,t5 := Tryz.underlying5,a5 := Tryz.isAgg5,z5 := Tryz.sizeOf5,v5 := Tryz.zeroValue5,infoByte := by kernel_rfl,cellsByte := by kernel_rfl,sizeByte := by kernel_rfl,neB5 := by decide }
theorem bTX : Builder.Extra Tryz.prog qIo := { sizeBuilder := by kernel_rfl,liesBuilder := by kernel_rfl,t5 := Tryz.underlying5,a5 := Tryz.isAgg5,z5 := Tryz.sizeOf5,v5 := Tryz.zeroValue5,infoByte := by kernel_rfl,cellsByte := by kernel_rfl,sizeByte := by kernel_rfl,neB5 := by decide }
theorem zGj (B b : Nat) (bs : List Value) (s : ByteArray) (w : World) (h : Lib.IsBuilder 154 5 B b bs w) (hlen : bs.length + s.size ≤ 140737488355328) (hBw : B ≤ w.heap.size) :
  Calls Tryz.prog 94 #[.pointer (some ⟨b,0,none⟩),.string s] w fun e w' => e = .returned (.tuple #[.int .i64 s.size,.nilIface]) ∧ (Lib.BuilderAt 154 5 B b (.pointer (some ⟨b,0,none⟩)) (bs ++ Lib.strCells s) w' ∧ Below B w w') := Any.Builder_WriteString qKa bSX B b bs s w h hlen hBw
theorem zOs (B b : Nat) (bs : List Value) (c : Int) (w : World) (h : Lib.IsBuilder 154 5 B b bs w) (hlen : bs.length + 1 ≤ 140737488355328) (hBw : B ≤ w.heap.size) :
  Calls Tryz.prog 96 #[.pointer (some ⟨b,0,none⟩),.int .u8 c] w fun e w' => e = .returned .nilIface ∧ (Lib.BuilderAt 154 5 B b (.pointer (some ⟨b,0,none⟩)) (bs ++ [.int .u8 c]) w' ∧ Below B w w') := Any.Builder_WriteByte qJy bBX B b bs c w h hlen hBw
theorem qCl (B b : Nat) (l : List UInt8) (w : World) (h : Lib.IsBuilder 154 5 B b (Lib.byteCells l) w) (hBw : B ≤ w.heap.size) :
  Calls Tryz.prog 97 #[.pointer (some ⟨b,0,none⟩)] w fun e w' => e = .returned (.string ⟨l.toArray⟩) ∧ Below B w w' := Any.Builder_String_any qKb bTX B b l w h hBw
theorem qLs (i : Int) (h0 : -9223372036854775808 ≤ i) (h1 : i ≤ 9223372036854775807) (w : World) (ht : Lib.TabIs Tryz.prog w "internal/strconv.uint64pow10" .u64 Lib.pow10Tab) : Calls Tryz.prog 95 #[.int .i64 i] w fun e w' => e = .returned (.string ⟨(Lib.itoa i).toArray⟩) ∧ ∃ k os, w' = Sort.grow (w.drewN k) os := Any.strconv_Itoa qJz i h0 h1 w ht
theorem qIy : Tryz.prog.globalNamed "internal/strconv.uint64pow10" = some 0 := by kernel_rfl
theorem qGt {l : List (String × DataW Unit)} {W : World} (h : laidMetH Tryz.prog l W) (hf : l.filter (fun x => x.1 == "internal/strconv.uint64pow10") = [("internal/strconv.uint64pow10", Lib.tabData .u64 Lib.pow10Tab)]) : Lib.TabIs Tryz.prog W "internal/strconv.uint64pow10" .u64 Lib.pow10Tab := by
 have h1 := h.filter fun x => x.1 == "internal/strconv.uint64pow10"
 rw [hf, MakeChecks.laidMetH_plain _ _ _ (by kernel_rfl)] at h1
 exact Lib.tabIs_of_head (rest := []) qIy (by kernel_rfl) Tryz.underlying289 Tryz.underlying77 (by kernel_rfl) (by kernel_rfl) h1
end Go.Proofs.YtfijdjigiapnbaaGreatDoor
namespace Go.Proofs.YtfijdjigiapnbaaGreatDoor
open Go Go.RowKit IntKind
def qEe : Nat → Nat → List UInt8
 | 0,_ => []
 | n + 1,x => bif Nat.blt x 10 then [UInt8.ofNat (48 + x)] else qEe n (x / 10) ++ [UInt8.ofNat (48 + x % 10)]
theorem zRi : ∀ {n x : Nat},x < 10 ^ n → 0 < n → qEe n x = Lib.decDigits x
 | 0,_,_,h => absurd h (by omega)
 | n + 1,x,h,_ => by
  rw [Lib.decDigits,qEe]
  by_cases h1 : x < 10
  ·have : Nat.blt x 10 = true := by simpa [Nat.blt_eq] using h1
   simp [h1,this]
  ·have : Nat.blt x 10 = false := by
    cases hb : Nat.blt x 10
    ·rfl
    ·rw [Nat.blt_eq] at hb; exact absurd hb h1
   rw [Nat.pow_succ] at h
   have hn : 0 < n := by
    rcases Nat.eq_zero_or_pos n with rfl | h'
    ·simp at h; omega
    ·exact h'
   rw [zRi (n := n) (x := x / 10) (by omega) hn]
   simp [h1,this]
def zUk (x : Nat) : List UInt8 := qEe 20 x
theorem zRj {x : Nat} (h : x ≤ 9223372036854775807) : Lib.itoa (x : Int) = zUk x := by
 rw [Lib.itoa_nonneg]
 exact (zRi (by omega) (by omega)).symm
theorem zYg {x : Nat} (h : x ≤ 9223372036854775807) : (zUk x).length ≤ 21 := by
 rw [← zRj h]
 exact Lib.itoa_length_le _ (by omega) (by omega)
def zBh : List Nat → List UInt8
 | [] => []
 | x :: l => zUk x ++ (32 :: zBh l)
theorem aO : ∀ (l : List Nat) (x : Nat),zBh (l ++ [x]) = (zBh l ++ zUk x) ++ [32]
 | [],x => by simp [zBh]
 | y :: l,x => by simp [zBh,aO l x,List.append_assoc]
theorem qLt {T e : TypeId} {B b : Nat} {bs : List Value} {w : World} (h : Lib.IsBuilder T e B b bs w) (k : Nat) (os : Array Obj) : Lib.IsBuilder T e B b bs (Sort.grow (w.drewN k) os) := by
 have q : ∀ p,Lib.BuilderAt T e B b p bs w → Lib.BuilderAt T e B b p bs (Sort.grow (w.drewN k) os) := fun p h => by
  have hl := h.lt
  obtain ⟨h1,v,h2,h3,h4⟩ := h
  exact ⟨h1,v,by rw [Lib.heap_grow_old w k os b hl]; exact h2,Lib.ownsRow_grow h3 k os,h4⟩
 exact h.elim (fun h => .inl (q _ h)) fun h => .inr (q _ h)
set_option maxHeartbeats 4000000 in
set_option maxRecDepth 1000000 in
theorem zZp (b off c : Nat) (l : List Nat) (w : World) (hl : l.length * 22 ≤ 140737488355328) (hx : ∀ x ∈ l, x ≤ 9223372036854775807) (ht : Lib.TabIs Tryz.prog w "internal/strconv.uint64pow10" .u64 Lib.pow10Tab) (hc : ∀ (k x : Nat), l[k]? = some x → w.cell? ⟨b, off + k, none⟩ = some (.int .i64 x)) :
  Calls Tryz.prog 48 #[.slice (some ⟨b, off, none⟩) l.length c] w fun e w' => e = .returned (.string ⟨(zBh l).toArray⟩) ∧ Below w.heap.size w w' := by
 go_enter Tryz.func48, Tryz.ntmps48
 go_wp2
 go_loopw [8] (fun i wr => ∃ k : Nat, k ≤ l.length ∧ i = .int .i64 k ∧ Lib.IsBuilder 154 5 w.heap.size w.heap.size (Lib.byteCells (zBh (l.take k))) wr ∧ Below w.heap.size w wr ∧ (zBh (l.take k)).length ≤ 22 * k) (fun i _ => l.length - (intOf i).toNat)
 case atStart => exact ⟨0, Nat.zero_le _, rfl, Lib.fresh_isBuilder 154 5 w, (Below.refl _ w).alloc (Nat.le_refl _) _, by simp [zBh]⟩
 case round =>
  obtain ⟨k, hk, rfl, hI, hbw, hle⟩ := hrel
  have hsz := hbw.size
  by_cases hlt : k < l.length
  ·obtain ⟨x, hx1⟩ : ∃ x, l[k]? = some x := ⟨l[k], by simp [hlt]⟩
   have hxl := hx x (List.mem_of_getElem? hx1)
   have hcw := hc k x hx1
   have hcx : wr.cell? ⟨b, off + k, none⟩ = some (.int .i64 x) := (hbw.cell (p := ⟨b, off + k, none⟩) (World.block_lt_of_cell? _ _ hcw)).trans hcw
   go_wp2_with (go_at_call 95; refine (qLs x (by omega) (by omega) _ (Lib.tabBelow_of_tabIs ht _ hbw)).mono ?_; rintro e w1 ⟨rfl, kk, os, rfl⟩)
   rw [zRj hxl]
   have hI' := qLt hI kk os
   have hbw' := hbw.trans (Lib.below_grow w.heap.size _ hsz kk os)
   have hsz' := hbw'.size
   have hdl := zYg hxl
   go_wp2_with (go_at_call 94; refine (zGj w.heap.size w.heap.size _ _ _ hI' (by rw [Lib.byteCells_length]; show _ + (zUk x).toArray.size ≤ _; simp; omega) hsz').mono ?_)
   rintro e w2 ⟨rfl, h2, b2⟩
   have hI2 : Lib.IsBuilder 154 5 w.heap.size w.heap.size (Lib.byteCells (zBh (l.take k) ++ zUk x)) w2 := by
    rw [Lib.byteCells_append]
    exact Or.inr h2
   have hsz2 : w.heap.size ≤ w2.heap.size := Nat.le_trans hsz' b2.size
   go_wp2_with (go_at_call 96; refine (zOs w.heap.size w.heap.size _ 32 _ hI2 (by rw [Lib.byteCells_length]; simp; omega) hsz2).mono ?_)
   rintro e w3 ⟨rfl, h3, b3⟩
   go_wp2
   go_roundw
   case rel =>
    have ht : l.take (k + 1) = l.take k ++ [x] := by rw [List.take_add_one, hx1]; rfl
    refine ⟨k + 1, by omega, by go_num, ?_, (hbw'.trans b2).trans b3, ?_⟩
    ·rw [ht, aO, Lib.byteCells_append]
     exact Or.inr h3
    ·rw [ht, aO]
     simp only [List.length_append, List.length_cons, List.length_nil]
     omega
   case measure => simp [intOf]; omega
  ·have : k = l.length := by omega
   subst this
   rw [List.take_length] at hI
   go_wp2_with (go_at_call 97; refine (qCl w.heap.size w.heap.size (zBh l) _ hI hsz).mono ?_)
   rintro e w1 ⟨rfl, b1⟩
   go_wp2
   go_ret
   exact ⟨rfl, hbw.trans b1⟩
end Go.Proofs.YtfijdjigiapnbaaGreatDoor
namespace Go.Proofs.YtfijdjigiapnbaaGreatDoor
open Go Go.Gv Go.Ev IntKind
noncomputable def zPs : List T → Option (List Nat)
 | [] => some []
 | t :: l => match t with
  | .v (.int .i64 (.ofNat x)) => bif Nat.blt x 9223372036854775808 then (match zPs l with | some r => some (x :: r) | none => none) else none
  | _ => none
noncomputable def qLu : List T → Option (T × Bool)
 | [.sl (t :: cs) n] => bif Nat.beq (ln (t :: cs)) n && Nat.blt n 1000 then (match zPs (t :: cs) with | some l => some (.v (.string ⟨(zBh l).toArray⟩),true) | none => none) else none
 | _ => none
theorem zRx {B : Bm} {r : Rd} : ∀ {cs : List T} {l : List Nat},zPs cs = some l → l.length = cs.length ∧ (∀ x ∈ l,x ≤ 9223372036854775807) ∧ ∀ (k x : Nat),l[k]? = some x → ∃ t,cs[k]? = some t ∧ ∀ v,Rep B r t v → v = .int .i64 x
 | [],l,h => by simp only [zPs,Option.some.injEq] at h; subst h; simp
 | t :: cs,l,h => by
  simp only [zPs] at h
  split at h
  ·rename_i x
   cases hb : Nat.blt x 9223372036854775808 with
   | false => simp [hb] at h
   | true =>
    simp only [hb,cond_true] at h
    cases hr : zPs cs with
    | none => simp [hr] at h
    | some q =>
     simp only [hr,Option.some.injEq] at h
     subst h
     obtain ⟨h1,h2,h3⟩ := zRx (B := B) (r := r) hr
     rw [Nat.blt_eq] at hb
     have hb := Nat.le_of_lt_succ hb
     refine ⟨by simp [h1],fun y hy => ?_,fun k y hk => ?_⟩
     ·rcases List.mem_cons.1 hy with rfl | hy
      ·exact hb
      ·exact h2 y hy
     ·cases k with
      | zero => simp at hk; subst hk; exact ⟨_,rfl,fun v hv => hv.vI.1⟩
      | succ k => simpa using h3 k y (by simpa using hk)
  ·cases h
theorem qLv {ts : List T} {tv : T} {nw : Bool} (h : qLu ts = some (tv,nw)) (k : Nat) : KnP Tryz.prog k 48 ts tv nw := by
 unfold qLu at h
 split at h
 ·rename_i t cs n
  cases hb : Nat.beq (ln (t :: cs)) n && Nat.blt n 1000 with
  | false => simp [hb] at h
  | true =>
   simp only [hb,cond_true] at h
   simp only [Bool.and_eq_true,Nat.blt_eq] at hb
   have hn := qD hb.1
   rw [qO] at hn
   cases hk : zPs (t :: cs) with
   | none => simp [hk] at h
   | some l =>
    simp only [hk,Option.some.injEq,Prod.mk.injEq] at h
    obtain ⟨rfl,rfl⟩ := h
    intro B w X qK R hI _ hX hR hK
    obtain ⟨h1,h2,h3⟩ := zRx (B := B) (r := rd w X) hk
    match qK,hR with
    | [v],⟨hv,_⟩ =>
     cases hv with
     | @sl _ _ b o c hnc f hf hg hm =>
      have hlen : l.length = n := by rw [h1,← hn]
      subst hlen
      refine (zZp b o c l w (by omega) h2 (hI (by rw [qIy]; exact fun h => by cases h)) fun j x hj => ?_).mono ?_
      ·obtain ⟨t',ht,hv⟩ := h3 j x hj
       rw [← hv _ (hg j t' ht)]
       exact jH (hf j t' ht)
      ·rintro e w' ⟨rfl,hb⟩
       exact hK _ w' (Upd.of_below hb) (.v rfl)
 ·cases h
noncomputable def tb0 : List (Nat × (List T → Option (T × Bool))) := (48,qLu) :: zPy
theorem qQo : zL Tryz.prog (zR tb0) := mG (fun _ _ _ h k => qLv h k) qOz
end Go.Proofs.YtfijdjigiapnbaaGreatDoor
namespace Go.Proofs.YtfijdjigiapnbaaGreatDoor
open Go Go.Gv Go.RowKit Go.Sort Go.Maps Go.Shelf IntKind
set_option maxRecDepth 100000
set_option maxHeartbeats 1000000
def zMp : Go.Shelf.Ren := ⟨fun | 7 => 179 | 10 => 203 | n => n,fun | 23 => 241 | 26 => 3 | 3 => 28 | 28 => 249 | 0 => 0 | 27 => 248 | 33 => 100 | 4 => 4 | n => n,fun n => n⟩
theorem zUr : Go.Proofs.SlLaysZI.n7 Tryz.prog zMp := { mixed := by kernel_rfl, f7 := ⟨"maps.Keys[map[int]clearway/api.Rat,int,clearway/api.Rat]", by decide, Tryz.func179.trans (congrArg some (by kernel_rfl))⟩, f10 := ⟨"maps.Keys[map[int]clearway/api.Rat,int,clearway/api.Rat]$1", by decide, Tryz.func203.trans (congrArg some (by kernel_rfl))⟩, t0 := Tryz.underlying0, a0 := Tryz.isAgg0, z0 := Tryz.sizeOf0, v0 := Tryz.zeroValue0, t4 := Tryz.underlying4, a4 := Tryz.isAgg4, z4 := Tryz.sizeOf4, v4 := Tryz.zeroValue4, t23 := Tryz.underlying241, a23 := Tryz.isAgg241, z23 := Tryz.sizeOf241, v23 := Tryz.zeroValue241, t26 := Tryz.underlying3, a26 := Tryz.isAgg3, z26 := Tryz.sizeOf3, v26 := Tryz.zeroValue3, t27 := Tryz.underlying248, a27 := Tryz.isAgg248, z27 := Tryz.sizeOf248, v27 := Tryz.zeroValue248, t28 := Tryz.underlying249, a28 := Tryz.isAgg249, z28 := Tryz.sizeOf249, v28 := Tryz.zeroValue249, t33 := Tryz.underlying100, a33 := Tryz.isAgg100, z33 := Tryz.sizeOf100, v33 := Tryz.zeroValue100 }
def zFk : Go.Shelf.Ren := ⟨fun | 6 => 178 | 8 => 201 | 9 => 202 | 11 => 215 | 13 => 217 | 12 => 216 | 23 => 234 | 24 => 219 | 14 => 225 | 15 => 226 | 16 => 227 | 17 => 228 | 18 => 229 | 19 => 230 | 20 => 231 | 21 => 232 | 22 => 233 | 25 => 237 | 26 => 238 | 27 => 239 | 28 => 240 | 29 => 241 | 30 => 210 | 31 => 242 | n => n,fun | 26 => 3 | 28 => 249 | 24 => 22 | 0 => 0 | 3 => 3 | 37 => 77 | 48 => 195 | 50 => 193 | 4 => 4 | 40 => 294 | 39 => 293 | 45 => 138 | 5 => 5 | 9 => 9 | 51 => 300 | 55 => 304 | 57 => 308 | 58 => 309 | 33 => 100 | n => n,fun n => n⟩
theorem zOm : Go.Proofs.SlLaysZI.n6 Tryz.prog zFk := { mixed := by kernel_rfl, f6 := ⟨"slices.Sorted[int]", by decide, Tryz.func178.trans (congrArg some (by kernel_rfl))⟩, f8 := ⟨"slices.Collect[int]", by decide, Tryz.func201.trans (congrArg some (by kernel_rfl))⟩, f11 := ⟨"slices.AppendSeq[[]int,int]", by decide, Tryz.func215.trans (congrArg some (by kernel_rfl))⟩, t0 := Tryz.underlying0, a0 := Tryz.isAgg0, z0 := Tryz.sizeOf0, v0 := Tryz.zeroValue0, t24 := Tryz.underlying22, a24 := Tryz.isAgg22, z24 := Tryz.sizeOf22, v24 := Tryz.zeroValue22, t26 := Tryz.underlying3, a26 := Tryz.isAgg3, z26 := Tryz.sizeOf3, v26 := Tryz.zeroValue3, t28 := Tryz.underlying249, a28 := Tryz.isAgg249, z28 := Tryz.sizeOf249, v28 := Tryz.zeroValue249, i26 := by kernel_rfl }
def qCk : Go.Shelf.Ren := ⟨fun | 5 => 202 | 8 => 217 | 7 => 216 | 19 => 234 | 20 => 219 | 10 => 225 | 11 => 226 | 12 => 227 | 13 => 228 | 14 => 229 | 15 => 230 | 16 => 231 | 17 => 232 | 18 => 233 | 30 => 237 | 31 => 238 | 32 => 239 | 33 => 240 | 34 => 241 | 35 => 210 | 40 => 242 | n => n,fun | 23 => 22 | 25 => 3 | 3 => 3 | 32 => 77 | 22 => 22 | 0 => 0 | 44 => 195 | 46 => 193 | 4 => 4 | 36 => 294 | 35 => 293 | 41 => 138 | 5 => 5 | 9 => 9 | 53 => 300 | 57 => 304 | 63 => 308 | 64 => 309 | n => n,fun n => n⟩
theorem zId : Go.Proofs.SlLaysM.n5 Tryz.prog qCk := { mixed := by kernel_rfl, f5 := ⟨"slices.Sort[[]int,int]", by decide, Tryz.func202.trans (congrArg some (by kernel_rfl))⟩, f7 := ⟨"slices.pdqsortOrdered[int]", by decide, Tryz.func216.trans (congrArg some (by kernel_rfl))⟩, f8 := Tryz.func217.trans (congrArg some (by kernel_rfl)), f10 := ⟨"slices.insertionSortOrdered[int]", by decide, Tryz.func225.trans (congrArg some (by kernel_rfl))⟩, f11 := ⟨"slices.heapSortOrdered[int]", by decide, Tryz.func226.trans (congrArg some (by kernel_rfl))⟩, f12 := ⟨"slices.breakPatternsOrdered[int]", by decide, Tryz.func227.trans (congrArg some (by kernel_rfl))⟩, f13 := ⟨"slices.choosePivotOrdered[int]", by decide, Tryz.func228.trans (congrArg some (by kernel_rfl))⟩, f14 := ⟨"slices.reverseRangeOrdered[int]", by decide, Tryz.func229.trans (congrArg some (by kernel_rfl))⟩, f15 := ⟨"slices.partialInsertionSortOrdered[int]", by decide, Tryz.func230.trans (congrArg some (by kernel_rfl))⟩, f16 := ⟨"cmp.Less[int]", by decide, Tryz.func231.trans (congrArg some (by kernel_rfl))⟩, f17 := ⟨"slices.partitionEqualOrdered[int]", by decide, Tryz.func232.trans (congrArg some (by kernel_rfl))⟩, f18 := ⟨"slices.partitionOrdered[int]", by decide, Tryz.func233.trans (congrArg some (by kernel_rfl))⟩, f19 := Tryz.func234.trans (congrArg some (by kernel_rfl)), f20 := Tryz.func219.trans (congrArg some (by kernel_rfl)), f30 := ⟨"slices.siftDownOrdered[int]", by decide, Tryz.func237.trans (congrArg some (by kernel_rfl))⟩, f31 := Tryz.func238.trans (congrArg some (by kernel_rfl)), f32 := Tryz.func239.trans (congrArg some (by kernel_rfl)), f33 := ⟨"slices.medianAdjacentOrdered[int]", by decide, Tryz.func240.trans (congrArg some (by kernel_rfl))⟩, f34 := ⟨"slices.medianOrdered[int]", by decide, Tryz.func241.trans (congrArg some (by kernel_rfl))⟩, f35 := ⟨"cmp.isNaN[int]", by decide, Tryz.func210.trans (congrArg some (by kernel_rfl))⟩, f40 := ⟨"slices.order2Ordered[int]", by decide, Tryz.func242.trans (congrArg some (by kernel_rfl))⟩, t0 := Tryz.underlying0, a0 := Tryz.isAgg0, z0 := Tryz.sizeOf0, v0 := Tryz.zeroValue0, t3 := Tryz.underlying3, a3 := Tryz.isAgg3, z3 := Tryz.sizeOf3, v3 := Tryz.zeroValue3, t4 := Tryz.underlying4, a4 := Tryz.isAgg4, z4 := Tryz.sizeOf4, v4 := Tryz.zeroValue4, t5 := Tryz.underlying5, a5 := Tryz.isAgg5, z5 := Tryz.sizeOf5, v5 := Tryz.zeroValue5, t9 := Tryz.underlying9, a9 := Tryz.isAgg9, z9 := Tryz.sizeOf9, v9 := Tryz.zeroValue9, t22 := Tryz.underlying22, a22 := Tryz.isAgg22, z22 := Tryz.sizeOf22, v22 := Tryz.zeroValue22, t23 := Tryz.underlying22, a23 := Tryz.isAgg22, z23 := Tryz.sizeOf22, v23 := Tryz.zeroValue22, t25 := Tryz.underlying3, a25 := Tryz.isAgg3, z25 := Tryz.sizeOf3, v25 := Tryz.zeroValue3, t32 := Tryz.underlying77, a32 := Tryz.isAgg77, z32 := Tryz.sizeOf77, v32 := Tryz.zeroValue77, t35 := Tryz.underlying293, a35 := Tryz.isAgg293, z35 := Tryz.sizeOf293, v35 := Tryz.zeroValue293, t36 := Tryz.underlying294, a36 := Tryz.isAgg294, z36 := Tryz.sizeOf294, v36 := Tryz.zeroValue294, t41 := Tryz.underlying138, a41 := Tryz.isAgg138, z41 := Tryz.sizeOf138, v41 := Tryz.zeroValue138, t44 := Tryz.underlying195, a44 := Tryz.isAgg195, z44 := Tryz.sizeOf195, v44 := Tryz.zeroValue195, t46 := Tryz.underlying193, a46 := Tryz.isAgg193, z46 := Tryz.sizeOf193, v46 := Tryz.zeroValue193, t53 := Tryz.underlying300, a53 := Tryz.isAgg300, z53 := Tryz.sizeOf300, v53 := Tryz.zeroValue300, t57 := Tryz.underlying304, a57 := Tryz.isAgg304, z57 := Tryz.sizeOf304, v57 := Tryz.zeroValue304, t63 := Tryz.underlying308, a63 := Tryz.isAgg308, z63 := Tryz.sizeOf308, v63 := Tryz.zeroValue308, t64 := Tryz.underlying309, a64 := Tryz.isAgg309, z64 := Tryz.sizeOf309, v64 := Tryz.zeroValue309 }
def zPr (x : Int) : List Int → List Int
 | [] => [x]
 | y :: l => if x ≤ y then x :: y :: l else y :: zPr x l
def gP : List Int → List Int
 | [] => []
 | x :: l => zPr x (gP l)
theorem aN (x : Int) : ∀ l : List Int,(zPr x l).Perm (x :: l)
 | [] => .refl _
 | y :: l => by
  unfold zPr
  split
  ·exact .refl _
  ·exact ((aN x l).cons y).trans (.swap x y l)
theorem fK : ∀ l : List Int,(gP l).Perm l
 | [] => .refl _
 | x :: l => (aN x (gP l)).trans ((fK l).cons x)
theorem zAu (x : Int) : ∀ l : List Int,l.Pairwise (· ≤ ·) → (zPr x l).Pairwise (· ≤ ·)
 | [],_ => by simp [zPr]
 | y :: l,h => by
  have h1 := List.pairwise_cons.1 h
  unfold zPr
  split
  ·rename_i hxy
   exact .cons (fun a ha => by
    rcases List.mem_cons.1 ha with rfl | ha
    ·exact hxy
    ·exact Int.le_trans hxy (h1.1 a ha)) h
  ·rename_i hxy
   refine .cons (fun a ha => ?_) (zAu x l h1.2)
   rcases List.mem_cons.1 ((aN x l).mem_iff.1 ha) with rfl | ha
   ·omega
   ·exact h1.1 a ha
theorem bF : ∀ l : List Int,(gP l).Pairwise (· ≤ ·)
 | [] => .nil
 | x :: l => zAu x _ (bF l)
theorem zGi {l m : List Int} (h : l.Perm m) (hl : l.Pairwise (· ≤ ·)) (hm : m.Pairwise (· ≤ ·)) : l = m :=
 List.Perm.eq_of_pairwise (le := (· ≤ ·)) (fun _ _ _ _ h1 h2 => Int.le_antisymm h1 h2) hl hm h
theorem qHg (m : Nat) : AnyZI.SortsIn Tryz.prog zFk Fence.wide m :=
 ⟨fun blk off cap ss W hH hblk hsz => callsIn_wide.2 (AnyM.slices_Sort_int zId blk off cap ss W hH hblk hsz),fun p cap W => callsIn_wide.2 (AnyM.slices_Sort_int_none zId p cap W)⟩
abbrev R0 : Value → Option (DataW Unit × List MemPlace) := fun _ => some (.lit (.bool true),[])
theorem zMd : ∀ (l : List (Int × Value)) (b : Nat),(wR l b).map (·.key) = l.map fun p => Value.int .i64 p.1
 | [],_ => rfl
 | _ :: l,b => by simp [wR,zMd l]
theorem aD : ∀ (l : List (Int × Value)) (b : Nat),(wR l b).map (·.born) = List.range' b l.length
 | [],_ => rfl
 | _ :: l,b => by simp [wR,aD l,List.range'_succ]
theorem qCe {P : Program} {k : TypeId} (hk : P.underlying k = some (.int .i64)) {z : Int} {v : Value} {b : Nat} (hz : -9223372036854775808 ≤ z ∧ z ≤ 9223372036854775807) : Go.WideElems.rd P k R0 ⟨.int .i64 z,v,b⟩ = some (.int .i64 z,.lit (.bool true)) :=
 Go.WideElems.rd_mk (R := R0) (val := v) (born := b) (yv := (.lit (.bool true),[])) (keyOf_int_mk (a := z) hk (by simp [Lit.wf,IntKind.min,IntKind.max,hz,IntKind.bits,IntKind.signed])) rfl
theorem zDb {P : Program} {k : TypeId} (hk : P.underlying k = some (.int .i64)) : ∀ (l : List (Int × Value)) (b : Nat),(∀ x ∈ l,-9223372036854775808 ≤ x.1 ∧ x.1 ≤ 9223372036854775807) → ∀ x ∈ wR l b,∃ z,Go.WideElems.rd P k R0 x = some (.int .i64 z,.lit (.bool true))
 | [],_,_,x,hx => by cases hx
 | p :: l,b,h,x,hx => by
  rcases List.mem_cons.1 hx with rfl | hx
  ·exact ⟨p.1,qCe hk (h p List.mem_cons_self)⟩
  ·exact zDb hk l (b + 1) (fun x hx => h x (List.mem_cons_of_mem _ hx)) x hx
theorem zRm {P : Program} {k : TypeId} (hk : P.underlying k = some (.int .i64)) : ∀ (l : List (Int × Value)) (b : Nat),(∀ x ∈ l,-9223372036854775808 ≤ x.1 ∧ x.1 ≤ 9223372036854775807) → ((wR l b).map (Go.WideElems.rg P k R0)).map (fun p => Go.intOf p.1) = l.map Prod.fst
 | [],_,_ => rfl
 | p :: l,b,h => by
  rw [wR,List.map_cons,List.map_cons,List.map_cons,zRm hk l (b + 1) (fun x hx => h x (List.mem_cons_of_mem _ hx)),Go.WideElems.rg_of (qCe hk (h p List.mem_cons_self))]
  rfl
theorem zVj {P : Program} {k : TypeId} {w : World} {b : Nat} {es : List (Int × Value)} (hk : P.underlying k = some (.int .i64)) (hb : w.heap[b]? = some (mapO es)) (hnd : (es.map Prod.fst).Nodup)
  (hr : ∀ x ∈ es,-9223372036854775808 ≤ x.1 ∧ x.1 ≤ 9223372036854775807) (hl : es.length ≤ maxLen) : w.ownsMap P k R0 b es.length (.map (((wR es 0).map (Go.WideElems.rg P k R0)).foldr DataW.insert [])) := by
 refine ⟨(wR es 0).toArray,es.length,hb,⟨by simpa [tL] using hl,⟨fun x hx => ?_,?_,?_⟩,fun x hx => ?_⟩,by simp [tL],rfl⟩
 ·have h1 : x.born ∈ (wR es 0).map (·.born) := List.mem_map_of_mem (by simpa using hx)
  rw [aD] at h1
  have := List.mem_range'.1 h1
  omega
 ·show ((wR es 0).map (·.born)).Nodup
  rw [aD]
  exact List.nodup_range'
 ·show ((wR es 0).map (·.key)).Nodup
  rw [zMd]
  have h2 : es.map (fun p => Value.int .i64 p.1) = (es.map Prod.fst).map (Value.int .i64) := by simp
  rw [h2]
  exact List.Pairwise.map _ (fun a b h e => h (by simpa using e)) hnd
 ·obtain ⟨z,hz⟩ := zDb hk es 0 hr x (by simpa using hx)
  exact ⟨_,hz⟩
theorem zUs {P : Program} {k : TypeId} {es : List (Int × Value)} (hk : P.underlying k = some (.int .i64)) (hr : ∀ x ∈ es,-9223372036854775808 ≤ x.1 ∧ x.1 ≤ 9223372036854775807) :
  (intKeys (DataW.map (((wR es 0).map (Go.WideElems.rg P k R0)).foldr DataW.insert []))).Perm (es.map Prod.fst) := by
 show ((((wR es 0).map (Go.WideElems.rg P k R0)).foldr DataW.insert []).map fun p => Go.intOf p.1).Perm _
 rw [← zRm hk es 0 hr]
 exact (Go.WideShapes.sorted_perm _).map _
theorem zIc {P : Program} {k : TypeId} (es : List (Int × Value)) : Maps.size (DataW.map (((wR es 0).map (Go.WideElems.rg P k R0)).foldr DataW.insert [])) = es.length := by
 show (((wR es 0).map (Go.WideElems.rg P k R0)).foldr DataW.insert []).length = es.length
 rw [length_sorted]
 simp [tL]
theorem zKl (w : World) {b b2 : Nat} {es : List (Int × Value)} (hb : w.heap[b]? = some (mapO es)) (hb2 : w.heap[b2]? = some (.cells #[.map (some b)] 241 (0,0))) (hnd : (es.map Prod.fst).Nodup)
  (hr : ∀ x ∈ es,-9223372036854775808 ≤ x.1 ∧ x.1 ≤ 9223372036854775807) (hl : es.length * 8 ≤ 140737488355328) :
  Calls Tryz.prog 178 #[.func (.func 203) #[] #[.pointer (some ⟨b2,0,none⟩)]] w (Ret E0 w fun w' v => ∃ ad cap,v = .slice ad es.length cap ∧ es.length ≤ cap ∧ cap ≤ maxLen ∧ ((es = [] ∧ ad = none) ∨ ∃ g,ad = some ⟨g,0,none⟩ ∧ ∀ (i : Nat) (x : Int),(gP (es.map Prod.fst))[i]? = some x → rd w' (old w) ⟨g,i,none⟩ = some (.int .i64 x))) := by
 have hk : Tryz.prog.underlying 3 = some (.int .i64) := by kernel_rfl
 have hown := zVj hk hb hnd hr (by simp only [maxLen]; omega)
 have hlt2 : b2 < w.heap.size := by
  rcases Nat.lt_or_ge b2 w.heap.size with h | h
  ·exact h
  ·rw [Array.getElem?_eq_none h] at hb2; cases hb2
 have hseq : SeqGives Fence.wide 2 Tryz.prog 203 #[.pointer (some ⟨b2,0,none⟩)] encZ (fun ss => ss.Perm (intKeys _)) (Maps.size _) w :=
  AnyZI.keys_gives (ρ := zMp) { zUr with } Fence.wide _ trivial rfl (by omega) b2 b es.length _ _ hlt2 (by simp [World.cell?,hb2]) hown
 have cS := AnyZI.sorted_in zOm Fence.wide 5 trivial trivial trivial trivial rfl (by omega) (qHg _) (enters_of Tryz.func202 (by kernel_rfl) rfl) 203 #[.pointer (some ⟨b2,0,none⟩)] trivial (enters_of Tryz.func203 (by kernel_rfl) rfl) _ _ (by rw [zIc]; simp only [maxLen]; omega) (by rw [zIc]; omega) _ hseq
 refine ((callsIn_wide (n := 5)).1 cS).mono ?_
 rintro e w' ⟨v,ss,rfl,hperm,hrow,hnil,hbel⟩
 refine ⟨Upd.of_below hbel,v,rfl,?_⟩
 have hs : ss.mergeSort (fun x y => decide (x ≤ y)) = gP (es.map Prod.fst) := by
  refine zGi (((List.mergeSort_perm _ _).trans hperm).trans ((zUs hk hr).trans (fK _).symm)) ?_ (bF _)
  have h1 := List.pairwise_mergeSort (le := fun x y : Int => decide (x ≤ y)) (fun a b c h1 h2 => by simp only [decide_eq_true_eq] at *; omega) (fun a b => by simp only [Bool.or_eq_true,decide_eq_true_eq]; omega) ss
  exact h1.imp fun h => by simpa using h
 rw [hs] at hrow
 have hzl : (gP (es.map Prod.fst)).length = es.length := by rw [(fK _).length_eq,List.length_map]
 obtain ⟨hxl,hrow⟩ := hrow
 rcases hrow with ⟨rfl,h0⟩ | ⟨g,cap,cur,rfl,hbase,hg,hn,hcap,hsz,hxs⟩
 ·have h1 : es = [] := List.eq_nil_of_length_eq_zero (by rw [← hzl]; simpa [h0] using hxl)
  subst h1
  exact ⟨none,0,rfl,Nat.le_refl _,Nat.zero_le _,.inl ⟨rfl,rfl⟩⟩
 ·have hle : ss.length = es.length := by rw [← hzl]; simpa using hxl.symm
  rw [hle]
  refine ⟨_,cap,rfl,by omega,by simp only [maxLen] at hcap ⊢; omega,.inr ⟨g,rfl,fun i x hi => ?_⟩⟩
  have hil := (List.getElem?_eq_some_iff.1 hi).1
  have hc : cur[i]? = some (.int .i64 x) := by
   have h3 : (cur.toList.take (ss.length * 1))[i]? = some (.int .i64 x) := by
    rw [hxs]
    simp [hi]
   rw [List.getElem?_take] at h3
   split at h3
   ·simpa using h3
   ·cases h3
  refine vL ((cell_of_row w' g _ cur _ _ hg).trans (by simpa using hc)) (Nat.not_lt.2 hbase) (frozen_of_row w' g _ cur _ hg)
end Go.Proofs.YtfijdjigiapnbaaGreatDoor
namespace Go.Proofs.YtfijdjigiapnbaaGreatDoor
open Go Go.Gv Go.Ev IntKind
noncomputable def zDo : List (Value × T) → Option (List Int)
 | [] => some []
 | p :: l => match p.1 with
  | .int .i64 z => bif zDl z then (match zDo l with | some r => some (z :: r) | none => none) else none
  | _ => none
noncomputable def qFp (z : Int) : List Int → Bool
 | [] => false
 | y :: l => ieq z y || qFp z l
noncomputable def qAn : List Int → Bool
 | [] => true
 | z :: l => !qFp z l && qAn l
noncomputable def skE : Oo := fun H f az => bif Nat.beq f 178 then (match az with
 | [.fn g [.op i o]] => bif Nat.beq g 203 && Nat.beq o 0 then (match nth .gone H i with
  | .row [.om j] e => bif Nat.beq e 241 then (match nth .gone H j with
   | .map l => (match zDo l with
    | some zs => bif qAn zs && Nat.blt (ln zs) 1000000 then some (.sn ((gP zs).map fun z => T.v (.int .i64 z)) (ln zs)) else none
    | none => none)
   | _ => none) else none
  | _ => none) else none
 | _ => none) else none
theorem zSe {z : Int} : ∀ {l : List Int},qFp z l = false → z ∉ l
 | [],_ => by simp
 | y :: l,h => by
  simp only [qFp,Bool.or_eq_false_iff] at h
  intro hm
  rcases List.mem_cons.1 hm with rfl | hm
  ·have := h.1
   rw [zJd] at this
   simp at this
  ·exact zSe h.2 hm
theorem zSg : ∀ {l : List Int},qAn l = true → l.Nodup
 | [],_ => .nil
 | z :: l,h => by
  simp only [qAn,Bool.and_eq_true,Bool.not_eq_true'] at h
  exact List.nodup_cons.2 ⟨zSe h.1,zSg h.2⟩
theorem zMq {B : Bm} {r : Rd} : ∀ {l : List (Value × T)} {es : List MapEntry} {zs : List Int} {k : Nat},zDo l = some zs → xM B r l es → es.map (·.born) = List.range' k es.length →
  ∃ es' : List (Int × Value),es = wR es' k ∧ es'.map Prod.fst = zs ∧ es'.length = es.length ∧ ∀ x ∈ es',-9223372036854775808 ≤ x.1 ∧ x.1 ≤ 9223372036854775807
 | [],[],zs,k,h,_,_ => by
  simp only [zDo,Option.some.injEq] at h
  subst h
  exact ⟨[],rfl,rfl,rfl,by simp⟩
 | p :: l,f :: es,zs,k,h,hR,hb => by
  simp only [zDo] at h
  split at h
  ·rename_i z hz
   cases hi : zDl z with
   | false => simp [hi] at h
   | true =>
    simp only [hi,cond_true] at h
    cases hr : zDo l with
    | none => simp [hr] at h
    | some q =>
     simp only [hr,Option.some.injEq] at h
     subst h
     simp only [List.map_cons,List.length_cons,List.range'_succ,List.cons.injEq] at hb
     obtain ⟨es',e1,e2,e3,e4⟩ := zMq hr hR.2.2 hb.2
     refine ⟨(z,f.val) :: es',?_,by simp [e2],by simp [e3],fun x hx => ?_⟩
     ·simp only [wR,← e1]
      congr 1
      cases f
      simp only [MapEntry.mk.injEq]
      exact ⟨hR.1.trans hz,trivial,hb.1⟩
     ·rcases List.mem_cons.1 hx with rfl | hx
      ·exact rU hi
      ·exact e4 x hx
  ·cases h
 | [],_ :: _,_,_,_,hR,_ => hR.elim
 | _ :: _,[],_,_,_,hR,_ => hR.elim
theorem zNe {H : List TO} {i : Nat} {x : TO} (h : nth .gone H i = x) (hx : x ≠ .gone) : H[i]? = some x := by
 rw [qV,List.getD_eq_getElem?_getD] at h
 cases hi : H[i]? with
 | none => rw [hi] at h; exact absurd h.symm hx
 | some y => rw [hi] at h; simp at h; rw [h]
theorem zU : zWu Tryz.prog skE := by
 intro H f az tv h E w0 X F B w Y Mo qK R hW hA hk
 unfold skE at h
 cases hf : Nat.beq f 178 with
 | false => simp [hf] at h
 | true =>
  obtain rfl := qD hf
  simp only [hf,cond_true] at h
  split at h
  ·rename_i g i o
   cases hc : Nat.beq g 203 && Nat.beq o 0 with
   | false => simp [hc] at h
   | true =>
    simp only [hc,cond_true] at h
    simp only [Bool.and_eq_true] at hc
    obtain rfl := qD hc.1
    obtain rfl := qD hc.2
    split at h
    ·rename_i j e hi
     cases he : Nat.beq e 241 with
     | false => simp [he] at h
     | true =>
      obtain rfl := qD he
      simp only [he,cond_true] at h
      split at h
      ·rename_i l hj
       cases hz : zDo l with
       | none => simp [hz] at h
       | some zs =>
        simp only [hz] at h
        cases hd : qAn zs && Nat.blt (ln zs) 1000000 with
        | false => simp [hd] at h
        | true =>
         simp only [hd,cond_true,Option.some.injEq] at h
         subst h
         simp only [Bool.and_eq_true,Nat.blt_eq,qO] at hd
         match qK,hA with
         | [v],⟨hv,_⟩ =>
          obtain ⟨caps,rfl,hcs⟩ := hv.fnI
          match caps,hcs with
          | [pv],⟨hp,_⟩ =>
           obtain ⟨b2,C2,rfl,hB2⟩ := hp.opI
           have hi := zNe hi (by simp)
           have hj := zNe hj (by simp)
           obtain ⟨b2',C',ob,g1,g2,g3⟩ := hW.ob i _ hi rfl
           rw [hB2] at g1; cases g1
           cases g3 with
           | @row _ _ c hR =>
            have J0 : ∃ b C,B j = some (b,C) ∧ c = #[.map (some b)] := by
             match hcl : c.toList,hR with
             | [mv],hR =>
              obtain ⟨b,C,rfl,hB⟩ := hR.1.omI
              exact ⟨b,C,hB,Array.ext' (by simpa using hcl)⟩
             | [],hR => exact hR.elim
             | _ :: _ :: _,hR => exact hR.2.elim
            obtain ⟨b,C,hB,rfl⟩ := J0
            obtain ⟨b',C'',ob',q1,q2,q3⟩ := hW.ob j _ hj rfl
            rw [hB] at q1; cases q1
            cases q3 with
            | @map _ es clk hm hclk hborn =>
             obtain ⟨es',e1,e2,e3,e4⟩ := zMq (k := 0) hz hm (by rw [hborn,List.range_eq_range']; simp)
             have hmO : w.heap[b]? = some (Gv.mapO es') := by
              rw [hW.heap q2,Gv.mapO,← e1,e3,hclk]
              simp
             have hlen : es'.length = zs.length := by rw [← e2]; simp
             refine (zKl w hmO (hW.heap g2) (by rw [e2]; exact zSg hd.1) e4 (by rw [hlen]; have := hd.2; omega)).mono ?_
             rintro ee w' ⟨hu,vv,rfl,ad,cap,rfl,hcap1,hcap2,hcells⟩
             refine hk _ w' B Y Mo (hW.call hu) ?_ (BLe.refl B) (hu.le Y)
             rw [e2] at hcells
             rw [qO,← hlen]
             rcases hcells with ⟨rfl,rfl⟩ | ⟨g,rfl,hcells⟩
             ·obtain rfl : zs = [] := by simpa using e2.symm
              exact .sn0 hcap2
             ·refine .sn hcap1 (fun n => .int .i64 ((gP zs).getD n 0)) (fun n t ht => ?_) (fun n t ht => ?_) hcap2 (fun n t ht => ?_)
              all_goals rw [List.getElem?_map] at ht; obtain ⟨z,hz1,rfl⟩ := Option.map_eq_some_iff.1 ht
              ·have := Le.new (Y := Y) hW.st.lt _ _ (hcells n z hz1)
               rw [Nat.zero_add,this]
               simp [hz1]
              ·have : (gP zs).getD n 0 = z := by simp [hz1]
               rw [this]; exact .v rfl
              ·exact Nat.le_trans hW.bNle (Nat.not_lt.1 (yN (hcells n z hz1)))
      ·cases h
    ·cases h
  ·cases h
end Go.Proofs.YtfijdjigiapnbaaGreatDoor
namespace Go.Proofs.YtfijdjigiapnbaaGreatDoor
open Go Go.RowKit IntKind
set_option maxHeartbeats 2000000 in
set_option maxRecDepth 100000 in
theorem qDv (n c : Nat) (w : World) : Calls Tryz.prog 143 #[.slice none n c] w fun e w' => e = .returned (.slice none 0 0) ∧ w' = w := by
 have q26 : ∀ (w : World) (a : Option Addr) (n c n' c' : Nat),(binOp .eql 26 (.slice a n c) (.slice none n' c')).run Tryz.prog w = .ok (.bool a.isNone) w := fun w a n c n' c' => Lib.run_eql_slice_nil w _ _ a n c n' c' Tryz.underlying26
 go_enter Tryz.func143,Tryz.ntmps143
 go_wp2
 go_ret
 exact ⟨rfl,rfl⟩
theorem qEz : (Tryz.prog.info? 195).map (fun i => (i.zero,i.size,i.bytes)) = some (some (.int .u32 0),1,4) := by kernel_rfl
set_option maxHeartbeats 2000000 in
set_option maxRecDepth 100000 in
theorem zXs (a : Addr) (c : Nat) (w : World) : Calls Tryz.prog 143 #[.slice (some a) 0 c] w fun e w' => ∃ v',e = .returned v' ∧ w'.ownsRow w.heap.size 195 1 v' 0 [] ∧ Below w.heap.size w w' := by
 obtain ⟨i0,hi,hz0,hz1,hz2⟩ := info_parts qEz
 have q26 : ∀ (w : World) (a : Option Addr) (n c n' c' : Nat),(binOp .eql 26 (.slice a n c) (.slice none n' c')).run Tryz.prog w = .ok (.bool a.isNone) w := fun w a n c n' c' => Lib.run_eql_slice_nil w _ _ a n c n' c' Tryz.underlying26
 go_enter Tryz.func143,Tryz.ntmps143
 go_wp2_with (at_builtin; refine wpList_append_own _ rfl _ _ 26 rfl w.heap.size 195 i0 (.int .u32 0) 1 4 Tryz.underlying26 hi hz0 hz1 hz2 rfl (by decide) _ _ _ rfl (World.ownsRow_made w #[] 0 (Nat.le_refl _) (Nat.zero_le _) rfl) a 0 c [] rfl rfl (by intro j u hj; simp at hj) (by intro u hu; cases hu) (by unfold maxLen; omega) (by omega) (by simp) ?_)
 intro v' w1 hown hgrow hnil
 go_wp2
 go_ret
 refine ⟨v',rfl,by simpa using hown,?_⟩
 exact ((Below.refl _ w).alloc (Nat.le_refl _) _).grown hgrow (by simp) (by intro k hk; simp [Value.ownBlock] at hk; omega)
end Go.Proofs.YtfijdjigiapnbaaGreatDoor
namespace Go.Proofs.YtfijdjigiapnbaaGreatDoor
open Go Go.Gv Go.Ev IntKind
noncomputable def zXu : List T → Option (T × Bool)
 | [.sl [] 0] => some (.sl [] 0,true)
 | _ => none
theorem qKh {ts : List T} {tv : T} {nw : Bool} (h : zXu ts = some (tv,nw)) (k : Nat) : KnP Tryz.prog k 143 ts tv nw := by
 unfold zXu at h
 split at h
 ·simp only [Option.some.injEq,Prod.mk.injEq] at h
  obtain ⟨rfl,rfl⟩ := h
  intro B w X qK R _ _ hX hR hK
  match qK,hR with
  | [v],⟨hv,_⟩ =>
   obtain ⟨ad,c,rfl,_,_⟩ := hv.slI
   cases ad with
   | none =>
    refine (qDv 0 c w).mono ?_
    rintro e w' ⟨rfl,rfl⟩
    exact hK _ w' (Upd.refl _ _) (.sl0 (by simp [maxLen]))
   | some a =>
    refine (zXs a c w).mono ?_
    rintro e w' ⟨v',rfl,⟨_,hrow⟩,hb⟩
    refine hK _ w' (Upd.of_below hb) ?_
    rcases hrow with ⟨rfl,_⟩ | ⟨g,cap,cur,rfl,_,_,_,hcap,_⟩
    ·exact .sl0 (by simp [maxLen])
    ·exact .sl0 hcap
 ·cases h
noncomputable def dmE : List T → Option (T × Bool)
 | [x,y] => (match zJk x,zJk y with
  | some l,some l2 => bif ieq (or2 (kD l l2) (zBc (val l2))) 0 then some (.tu [unL (yK (val l / val l2)),unL (yK (val l % val l2)),.v (.int .i64 0)],true) else none
  | _,_ => none)
 | _ => none
theorem qRh {ts : List T} {tv : T} {nw : Bool} (h : dmE ts = some (tv,nw)) (k : Nat) : KnP Tryz.prog k 169 ts tv nw := by
 unfold dmE at h
 split at h
 ·rename_i x y
  split at h
  ·rename_i l l2 e1 e2
   cases hb : ieq (or2 (kD l l2) (zBc (val l2))) 0 with
   | false => simp [hb] at h
   | true =>
    simp only [hb,cond_true,Option.some.injEq,Prod.mk.injEq] at h
    obtain ⟨rfl,rfl⟩ := h
    intro B w X qK R _ _ hX hR hK
    match qK,hR with
    | [vx,vy],⟨hx,hy,_⟩ =>
     obtain ⟨ad,n,c,rfl,h1⟩ := dV e1 hx
     obtain ⟨ad2,n2,c2,rfl,h2⟩ := dV e2 hy
     have h0 : or2 (kD l l2) (zBc (val l2)) = 0 := by rw [zJd] at hb; simpa using hb
     refine (zKz w X hX ad n c l h1 ad2 n2 c2 l2 h2).mono ?_
     rintro e w' ⟨hu,v,rfl,hv⟩
     rcases hv with ⟨hne,_⟩ | ⟨_,u,u2,q1,q2,a1,b1,c1,a2,b2,c3,rfl,hq,_,hr,_⟩
     ·exact absurd h0 hne
     ·obtain ⟨_,_,_,rfl,f1⟩ := hq.natV
      obtain ⟨_,_,_,rfl,f2⟩ := hr.natV
      refine hK _ w' hu ?_
      exact Rep.mkTu (vs := [_,_,_]) ⟨zKu (f1 (old w) fun _ _ h => h).lim,zKu (f2 (old w) fun _ _ h => h).lim,.v rfl,trivial⟩
  ·cases h
 ·cases h
noncomputable def tb1 : List (Nat × (List T → Option (T × Bool))) := (143,zXu) :: (169,dmE) :: tb0
theorem qCr : zL Tryz.prog (zR tb1) := mG (fun _ _ _ h k => qKh h k) (mG (fun _ _ _ h k => qRh h k) qQo)
end Go.Proofs.YtfijdjigiapnbaaGreatDoor

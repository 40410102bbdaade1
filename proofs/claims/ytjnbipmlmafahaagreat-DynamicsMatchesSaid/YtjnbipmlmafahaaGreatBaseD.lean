import Derived.Shelf.SlIterI.Nil
import Derived.Shelf.SortM.Plain
import Derived.Shelf.SortM.SortNone
import Derived.Test.YtjnbipmlmafahaaGreatRows
import Derived.Test.YtjnbipmlmafahaaGreatBaseA
import Derived.Test.YtjnbipmlmafahaaGreatBaseB
import Derived.Test.YtjnbipmlmafahaaGreatBaseC
set_option linter.unusedVariables false
set_option linter.unusedSimpArgs false
set_option linter.unnecessarySimpa false
namespace Go.Gv
open Go.RowKit IntKind
def vJ (r : Rd) (v : Value) (x : Raw) : Prop := ∃ a1 a2 a3 a4 a5 a6,v = .agg #[.bool x.neg,.slice a1 a2 a3,.slice a4 a5 a6] ∧ zL r a1 a2 a3 x.ln ∧ zL r a4 a5 a6 x.ld
theorem vJ.mono {r r' : Rd} {v : Value} {x : Raw} (h : vJ r v x) (k : Le r r') : vJ r' v x := by
 obtain ⟨a1,a2,a3,a4,a5,a6,h0,h1,h2⟩ := h
 exact ⟨a1,a2,a3,a4,a5,a6,h0,h1.mono k,h2.mono k⟩
def zAg (r : Rd) (a : Addr) (x : List Int) : Prop := ∃ a1 a3,At r a [.slice a1 x.length a3] ∧ wK r a1 x.length a3 x
theorem zAg.mono (r r' : Rd) (a : Addr) (x : List Int) (k : Le r r') (h : zAg r a x) : zAg r' a x := by
 obtain ⟨a1,a3,h1,h2⟩ := h
 exact ⟨a1,a3,h1.mono k,h2.mono k⟩
def zTs (r : Rd) (cs : List Value) (x : List Int) : Prop := ∃ a1 a3,cs = [.slice a1 x.length a3] ∧ wK r a1 x.length a3 x
theorem zTs.at (r : Rd) (a : Addr) (cs : List Value) (x : List Int) (h : zTs r cs x) (k : At r a cs) : zAg r a x := by
 obtain ⟨a1,a3,rfl,h2⟩ := h
 exact ⟨a1,a3,k,h2⟩
def dC := SlR zAg 1
theorem dC.mono {r r' : Rd} {ad : Option Addr} {len cap : Nat} {xs : List (List Int)} (h : dC r ad len cap xs) (k : Le r r') : dC r' ad len cap xs := SlR.mono zAg.mono h k
structure qJ where
 sense : Int
 lo : Int
 hi : Int
deriving DecidableEq
def nS (r : Rd) (a : Addr) (x : qJ) : Prop := At r a [.int .u8 x.sense,.int .i64 x.lo,.int .i64 x.hi]
theorem nS.mono (r r' : Rd) (a : Addr) (x : qJ) (k : Le r r') (h : nS r a x) : nS r' a x := At.mono k h
def zGr (r : Rd) (v : Value) (x : qJ) : Prop := v = .agg #[.int .u8 x.sense,.int .i64 x.lo,.int .i64 x.hi]
theorem zGr.mono {r r' : Rd} {v : Value} {x : qJ} (h : zGr r v x) (_ : Le r r') : zGr r' v x := h
def gZ (r : Rd) (cs : List Value) (x : qJ) : Prop := cs = [.int .u8 x.sense,.int .i64 x.lo,.int .i64 x.hi]
theorem gZ.at (r : Rd) (a : Addr) (cs : List Value) (x : qJ) (h : gZ r cs x) (k : At r a cs) : nS r a x := by subst h; exact k
def wC := SlR nS 3
theorem wC.mono {r r' : Rd} {ad : Option Addr} {len cap : Nat} {xs : List qJ} (h : wC r ad len cap xs) (k : Le r r') : wC r' ad len cap xs := SlR.mono nS.mono h k
structure zV where
 delta : Int
 p : Raw
deriving DecidableEq
def lQ (r : Rd) (a : Addr) (x : zV) : Prop := ∃ a1 a2 a3 a4,At r a [.int .i64 x.delta,.bool x.p.neg,.slice a1 x.p.ln.length a2,.slice a3 x.p.ld.length a4] ∧ zL r a1 x.p.ln.length a2 x.p.ln ∧ zL r a3 x.p.ld.length a4 x.p.ld
theorem lQ.mono (r r' : Rd) (a : Addr) (x : zV) (k : Le r r') (h : lQ r a x) : lQ r' a x := by
 obtain ⟨a1,a2,a3,a4,h0,h1,h2⟩ := h
 exact ⟨a1,a2,a3,a4,h0.mono k,h1.mono k,h2.mono k⟩
def bN (r : Rd) (v : Value) (x : zV) : Prop := ∃ a1 a2 a3 a4,v = .agg #[.int .i64 x.delta,.bool x.p.neg,.slice a1 x.p.ln.length a2,.slice a3 x.p.ld.length a4] ∧ zL r a1 x.p.ln.length a2 x.p.ln ∧ zL r a3 x.p.ld.length a4 x.p.ld
theorem bN.mono {r r' : Rd} {v : Value} {x : zV} (h : bN r v x) (k : Le r r') : bN r' v x := by
 obtain ⟨a1,a2,a3,a4,h0,h1,h2⟩ := h
 exact ⟨a1,a2,a3,a4,h0,h1.mono k,h2.mono k⟩
def bH (r : Rd) (cs : List Value) (x : zV) : Prop := ∃ a1 a2 a3 a4,cs = [.int .i64 x.delta,.bool x.p.neg,.slice a1 x.p.ln.length a2,.slice a3 x.p.ld.length a4] ∧ zL r a1 x.p.ln.length a2 x.p.ln ∧ zL r a3 x.p.ld.length a4 x.p.ld
theorem bH.at (r : Rd) (a : Addr) (cs : List Value) (x : zV) (h : bH r cs x) (k : At r a cs) : lQ r a x := by
 obtain ⟨a1,a2,a3,a4,rfl,h0,h1⟩ := h
 exact ⟨a1,a2,a3,a4,k,h0,h1⟩
def kQ := SlR lQ 4
theorem kQ.mono {r r' : Rd} {ad : Option Addr} {len cap : Nat} {xs : List zV} (h : kQ r ad len cap xs) (k : Le r r') : kQ r' ad len cap xs := SlR.mono lQ.mono h k
structure zO where
 height : List Int
 own : List Int
 other : List Int
 advisories : List qJ
 pull : Int
 near : Int
 steps : Int
 ownNoise : List zV
 otherNoise : List zV
 alert : Raw
 strengthen : Raw
 reversal : Raw
deriving DecidableEq
abbrev qDr (p : zO) (a0 : Option Addr) (b0 : Nat) (a1 : Option Addr) (b1 : Nat) (a2 : Option Addr) (b2 : Nat) (a3 : Option Addr) (b3 : Nat) (a4 : Option Addr) (b4 : Nat) (a5 : Option Addr) (b5 : Nat) (a6 : Option Addr) (b6 : Nat) (a7 : Option Addr) (b7 : Nat) (a8 : Option Addr) (b8 : Nat) (a9 : Option Addr) (b9 : Nat) (a10 : Option Addr) (b10 : Nat) (a11 : Option Addr) (b11 : Nat) : Array Value := #[.slice a0 p.height.length b0,.slice a1 p.own.length b1,.slice a2 p.other.length b2,.slice a3 p.advisories.length b3,.int .i64 p.pull,.int .i64 p.near,.int .i64 p.steps,.slice a4 p.ownNoise.length b4,.slice a5 p.otherNoise.length b5,.bool p.alert.neg,.slice a6 p.alert.ln.length b6,.slice a7 p.alert.ld.length b7,.bool p.strengthen.neg,.slice a8 p.strengthen.ln.length b8,.slice a9 p.strengthen.ld.length b9,.bool p.reversal.neg,.slice a10 p.reversal.ln.length b10,.slice a11 p.reversal.ld.length b11]
def zAu (r : Rd) (a : Addr) (x : zO) : Prop := ∃ a1 a2 a3 a4 a5 a6 a7 a8 a9 a10 a11 a12 a13 a14 a15 a16 a17 a18 a19 a20 a21 a22 a23 a24,At r a [.slice a1 x.height.length a2,.slice a3 x.own.length a4,.slice a5 x.other.length a6,.slice a7 x.advisories.length a8,.int .i64 x.pull,.int .i64 x.near,.int .i64 x.steps,.slice a9 x.ownNoise.length a10,.slice a11 x.otherNoise.length a12,.bool x.alert.neg,.slice a13 x.alert.ln.length a14,.slice a15 x.alert.ld.length a16,.bool x.strengthen.neg,.slice a17 x.strengthen.ln.length a18,.slice a19 x.strengthen.ld.length a20,.bool x.reversal.neg,.slice a21 x.reversal.ln.length a22,.slice a23 x.reversal.ld.length a24] ∧ wK r a1 x.height.length a2 x.height ∧ wK r a3 x.own.length a4 x.own ∧ wK r a5 x.other.length a6 x.other ∧ wC r a7 x.advisories.length a8 x.advisories ∧ kQ r a9 x.ownNoise.length a10 x.ownNoise ∧ kQ r a11 x.otherNoise.length a12 x.otherNoise ∧ zL r a13 x.alert.ln.length a14 x.alert.ln ∧ zL r a15 x.alert.ld.length a16 x.alert.ld ∧ zL r a17 x.strengthen.ln.length a18 x.strengthen.ln ∧ zL r a19 x.strengthen.ld.length a20 x.strengthen.ld ∧ zL r a21 x.reversal.ln.length a22 x.reversal.ln ∧ zL r a23 x.reversal.ld.length a24 x.reversal.ld
theorem zAu.mono (r r' : Rd) (a : Addr) (x : zO) (k : Le r r') (h : zAu r a x) : zAu r' a x := by
 obtain ⟨a1,a2,a3,a4,a5,a6,a7,a8,a9,a10,a11,a12,a13,a14,a15,a16,a17,a18,a19,a20,a21,a22,a23,a24,h0,h1,h2,h3,h4,h5,h6,h7,h8,h9,h10,h11,h12⟩ := h
 exact ⟨a1,a2,a3,a4,a5,a6,a7,a8,a9,a10,a11,a12,a13,a14,a15,a16,a17,a18,a19,a20,a21,a22,a23,a24,h0.mono k,h1.mono k,h2.mono k,h3.mono k,h4.mono k,h5.mono k,h6.mono k,h7.mono k,h8.mono k,h9.mono k,h10.mono k,h11.mono k,h12.mono k⟩
def zW (r : Rd) (v : Value) (x : zO) : Prop := ∃ a1 a2 a3 a4 a5 a6 a7 a8 a9 a10 a11 a12 a13 a14 a15 a16 a17 a18 a19 a20 a21 a22 a23 a24,v = .agg (qDr x a1 a2 a3 a4 a5 a6 a7 a8 a9 a10 a11 a12 a13 a14 a15 a16 a17 a18 a19 a20 a21 a22 a23 a24) ∧ wK r a1 x.height.length a2 x.height ∧ wK r a3 x.own.length a4 x.own ∧ wK r a5 x.other.length a6 x.other ∧ wC r a7 x.advisories.length a8 x.advisories ∧ kQ r a9 x.ownNoise.length a10 x.ownNoise ∧ kQ r a11 x.otherNoise.length a12 x.otherNoise ∧ zL r a13 x.alert.ln.length a14 x.alert.ln ∧ zL r a15 x.alert.ld.length a16 x.alert.ld ∧ zL r a17 x.strengthen.ln.length a18 x.strengthen.ln ∧ zL r a19 x.strengthen.ld.length a20 x.strengthen.ld ∧ zL r a21 x.reversal.ln.length a22 x.reversal.ln ∧ zL r a23 x.reversal.ld.length a24 x.reversal.ld
theorem zW.op {r : Rd} {v : Value} {x : zO} {C : Prop} (h : zW r v x) (k : ∀ (a1 : Option Addr) (a2 : Nat) (a3 : Option Addr) (a4 : Nat) (a5 : Option Addr) (a6 : Nat) (a7 : Option Addr) (a8 : Nat) (a9 : Option Addr) (a10 : Nat) (a11 : Option Addr) (a12 : Nat) (a13 : Option Addr) (a14 : Nat) (a15 : Option Addr) (a16 : Nat) (a17 : Option Addr) (a18 : Nat) (a19 : Option Addr) (a20 : Nat) (a21 : Option Addr) (a22 : Nat) (a23 : Option Addr) (a24 : Nat),v = .agg (qDr x a1 a2 a3 a4 a5 a6 a7 a8 a9 a10 a11 a12 a13 a14 a15 a16 a17 a18 a19 a20 a21 a22 a23 a24) → wK r a1 x.height.length a2 x.height → wK r a3 x.own.length a4 x.own → wK r a5 x.other.length a6 x.other → wC r a7 x.advisories.length a8 x.advisories → kQ r a9 x.ownNoise.length a10 x.ownNoise → kQ r a11 x.otherNoise.length a12 x.otherNoise → zL r a13 x.alert.ln.length a14 x.alert.ln → zL r a15 x.alert.ld.length a16 x.alert.ld → zL r a17 x.strengthen.ln.length a18 x.strengthen.ln → zL r a19 x.strengthen.ld.length a20 x.strengthen.ld → zL r a21 x.reversal.ln.length a22 x.reversal.ln → zL r a23 x.reversal.ld.length a24 x.reversal.ld → C) : C := by
 obtain ⟨a1,a2,a3,a4,a5,a6,a7,a8,a9,a10,a11,a12,a13,a14,a15,a16,a17,a18,a19,a20,a21,a22,a23,a24,h0,h1,h2,h3,h4,h5,h6,h7,h8,h9,h10,h11,h12⟩ := h
 exact k a1 a2 a3 a4 a5 a6 a7 a8 a9 a10 a11 a12 a13 a14 a15 a16 a17 a18 a19 a20 a21 a22 a23 a24 h0 h1 h2 h3 h4 h5 h6 h7 h8 h9 h10 h11 h12
theorem zAu.op {r : Rd} {a : Addr} {x : zO} {C : Prop} (h : zAu r a x) (k : ∀ (a1 : Option Addr) (a2 : Nat) (a3 : Option Addr) (a4 : Nat) (a5 : Option Addr) (a6 : Nat) (a7 : Option Addr) (a8 : Nat) (a9 : Option Addr) (a10 : Nat) (a11 : Option Addr) (a12 : Nat) (a13 : Option Addr) (a14 : Nat) (a15 : Option Addr) (a16 : Nat) (a17 : Option Addr) (a18 : Nat) (a19 : Option Addr) (a20 : Nat) (a21 : Option Addr) (a22 : Nat) (a23 : Option Addr) (a24 : Nat),At r a [.slice a1 x.height.length a2,.slice a3 x.own.length a4,.slice a5 x.other.length a6,.slice a7 x.advisories.length a8,.int .i64 x.pull,.int .i64 x.near,.int .i64 x.steps,.slice a9 x.ownNoise.length a10,.slice a11 x.otherNoise.length a12,.bool x.alert.neg,.slice a13 x.alert.ln.length a14,.slice a15 x.alert.ld.length a16,.bool x.strengthen.neg,.slice a17 x.strengthen.ln.length a18,.slice a19 x.strengthen.ld.length a20,.bool x.reversal.neg,.slice a21 x.reversal.ln.length a22,.slice a23 x.reversal.ld.length a24] → wK r a1 x.height.length a2 x.height → wK r a3 x.own.length a4 x.own → wK r a5 x.other.length a6 x.other → wC r a7 x.advisories.length a8 x.advisories → kQ r a9 x.ownNoise.length a10 x.ownNoise → kQ r a11 x.otherNoise.length a12 x.otherNoise → zL r a13 x.alert.ln.length a14 x.alert.ln → zL r a15 x.alert.ld.length a16 x.alert.ld → zL r a17 x.strengthen.ln.length a18 x.strengthen.ln → zL r a19 x.strengthen.ld.length a20 x.strengthen.ld → zL r a21 x.reversal.ln.length a22 x.reversal.ln → zL r a23 x.reversal.ld.length a24 x.reversal.ld → C) : C := by
 obtain ⟨a1,a2,a3,a4,a5,a6,a7,a8,a9,a10,a11,a12,a13,a14,a15,a16,a17,a18,a19,a20,a21,a22,a23,a24,h0,h1,h2,h3,h4,h5,h6,h7,h8,h9,h10,h11,h12⟩ := h
 exact k a1 a2 a3 a4 a5 a6 a7 a8 a9 a10 a11 a12 a13 a14 a15 a16 a17 a18 a19 a20 a21 a22 a23 a24 h0 h1 h2 h3 h4 h5 h6 h7 h8 h9 h10 h11 h12
theorem zW.mono {r r' : Rd} {v : Value} {x : zO} (h : zW r v x) (k : Le r r') : zW r' v x := by
 obtain ⟨a1,a2,a3,a4,a5,a6,a7,a8,a9,a10,a11,a12,a13,a14,a15,a16,a17,a18,a19,a20,a21,a22,a23,a24,h0,h1,h2,h3,h4,h5,h6,h7,h8,h9,h10,h11,h12⟩ := h
 exact ⟨a1,a2,a3,a4,a5,a6,a7,a8,a9,a10,a11,a12,a13,a14,a15,a16,a17,a18,a19,a20,a21,a22,a23,a24,h0,h1.mono k,h2.mono k,h3.mono k,h4.mono k,h5.mono k,h6.mono k,h7.mono k,h8.mono k,h9.mono k,h10.mono k,h11.mono k,h12.mono k⟩
structure wU where
 lo : Int
 hi : Int
deriving DecidableEq
def zBg (r : Rd) (a : Addr) (x : wU) : Prop := At r a [.int .i64 x.lo,.int .i64 x.hi]
theorem zBg.mono (r r' : Rd) (a : Addr) (x : wU) (k : Le r r') (h : zBg r a x) : zBg r' a x := At.mono k h
def zKy (r : Rd) (v : Value) (x : wU) : Prop := v = .agg #[.int .i64 x.lo,.int .i64 x.hi]
theorem zKy.mono {r r' : Rd} {v : Value} {x : wU} (h : zKy r v x) (_ : Le r r') : zKy r' v x := h
def mX (r : Rd) (a : Addr) (x : List zV) : Prop := ∃ a1 a3,At r a [.slice a1 x.length a3] ∧ kQ r a1 x.length a3 x
theorem mX.mono (r r' : Rd) (a : Addr) (x : List zV) (k : Le r r') (h : mX r a x) : mX r' a x := by
 obtain ⟨a1,a3,h1,h2⟩ := h
 exact ⟨a1,a3,h1.mono k,h2.mono k⟩
def zJm (r : Rd) (cs : List Value) (x : List zV) : Prop := ∃ a1 a3,cs = [.slice a1 x.length a3] ∧ kQ r a1 x.length a3 x
theorem zJm.at (r : Rd) (a : Addr) (cs : List Value) (x : List zV) (h : zJm r cs x) (k : At r a cs) : mX r a x := by
 obtain ⟨a1,a3,rfl,h2⟩ := h
 exact ⟨a1,a3,k,h2⟩
def zDp := SlR mX 1
theorem zDp.mono {r r' : Rd} {ad : Option Addr} {len cap : Nat} {xs : List (List zV)} (h : zDp r ad len cap xs) (k : Le r r') : zDp r' ad len cap xs := SlR.mono mX.mono h k
def gI (r : Rd) (cs : List Value) (x : Raw) : Prop := ∃ a1 a2 a3 a4 a5 a6,cs = [.bool x.neg,.slice a1 a2 a3,.slice a4 a5 a6] ∧ zL r a1 a2 a3 x.ln ∧ zL r a4 a5 a6 x.ld
theorem gI.at (r : Rd) (a : Addr) (cs : List Value) (x : Raw) (h : gI r cs x) (k : At r a cs) : aJ r a x := by
 obtain ⟨a1,a2,a3,a4,a5,a6,rfl,h0,h1⟩ := h
 exact ⟨a1,a2,a3,a4,a5,a6,k,h0,h1⟩
structure yS where
 index : Int
 w : Raw
deriving DecidableEq
def dR (r : Rd) (a : Addr) (x : yS) : Prop := ∃ a1 a2 a3 a4,At r a [.int .i64 x.index,.bool x.w.neg,.slice a1 x.w.ln.length a2,.slice a3 x.w.ld.length a4] ∧ zL r a1 x.w.ln.length a2 x.w.ln ∧ zL r a3 x.w.ld.length a4 x.w.ld
theorem dR.mono (r r' : Rd) (a : Addr) (x : yS) (k : Le r r') (h : dR r a x) : dR r' a x := by
 obtain ⟨a1,a2,a3,a4,h0,h1,h2⟩ := h
 exact ⟨a1,a2,a3,a4,h0.mono k,h1.mono k,h2.mono k⟩
def zLw (r : Rd) (v : Value) (x : yS) : Prop := ∃ a1 a2 a3 a4,v = .agg #[.int .i64 x.index,.bool x.w.neg,.slice a1 x.w.ln.length a2,.slice a3 x.w.ld.length a4] ∧ zL r a1 x.w.ln.length a2 x.w.ln ∧ zL r a3 x.w.ld.length a4 x.w.ld
theorem zLw.mono {r r' : Rd} {v : Value} {x : yS} (h : zLw r v x) (k : Le r r') : zLw r' v x := by
 obtain ⟨a1,a2,a3,a4,h0,h1,h2⟩ := h
 exact ⟨a1,a2,a3,a4,h0,h1.mono k,h2.mono k⟩
def mD (r : Rd) (cs : List Value) (x : yS) : Prop := ∃ a1 a2 a3 a4,cs = [.int .i64 x.index,.bool x.w.neg,.slice a1 x.w.ln.length a2,.slice a3 x.w.ld.length a4] ∧ zL r a1 x.w.ln.length a2 x.w.ln ∧ zL r a3 x.w.ld.length a4 x.w.ld
theorem mD.at (r : Rd) (a : Addr) (cs : List Value) (x : yS) (h : mD r cs x) (k : At r a cs) : dR r a x := by
 obtain ⟨a1,a2,a3,a4,rfl,h0,h1⟩ := h
 exact ⟨a1,a2,a3,a4,k,h0,h1⟩
def zDd := SlR dR 4
theorem zDd.mono {r r' : Rd} {ad : Option Addr} {len cap : Nat} {xs : List yS} (h : zDd r ad len cap xs) (k : Le r r') : zDd r' ad len cap xs := SlR.mono dR.mono h k
structure zU where
 vertex : Int
 w : Raw
deriving DecidableEq
def lC (r : Rd) (a : Addr) (x : zU) : Prop := ∃ a1 a2 a3 a4,At r a [.int .i64 x.vertex,.bool x.w.neg,.slice a1 x.w.ln.length a2,.slice a3 x.w.ld.length a4] ∧ zL r a1 x.w.ln.length a2 x.w.ln ∧ zL r a3 x.w.ld.length a4 x.w.ld
theorem lC.mono (r r' : Rd) (a : Addr) (x : zU) (k : Le r r') (h : lC r a x) : lC r' a x := by
 obtain ⟨a1,a2,a3,a4,h0,h1,h2⟩ := h
 exact ⟨a1,a2,a3,a4,h0.mono k,h1.mono k,h2.mono k⟩
def zHm (r : Rd) (v : Value) (x : zU) : Prop := ∃ a1 a2 a3 a4,v = .agg #[.int .i64 x.vertex,.bool x.w.neg,.slice a1 x.w.ln.length a2,.slice a3 x.w.ld.length a4] ∧ zL r a1 x.w.ln.length a2 x.w.ln ∧ zL r a3 x.w.ld.length a4 x.w.ld
theorem zHm.mono {r r' : Rd} {v : Value} {x : zU} (h : zHm r v x) (k : Le r r') : zHm r' v x := by
 obtain ⟨a1,a2,a3,a4,h0,h1,h2⟩ := h
 exact ⟨a1,a2,a3,a4,h0,h1.mono k,h2.mono k⟩
def tF (r : Rd) (cs : List Value) (x : zU) : Prop := ∃ a1 a2 a3 a4,cs = [.int .i64 x.vertex,.bool x.w.neg,.slice a1 x.w.ln.length a2,.slice a3 x.w.ld.length a4] ∧ zL r a1 x.w.ln.length a2 x.w.ln ∧ zL r a3 x.w.ld.length a4 x.w.ld
theorem tF.at (r : Rd) (a : Addr) (cs : List Value) (x : zU) (h : tF r cs x) (k : At r a cs) : lC r a x := by
 obtain ⟨a1,a2,a3,a4,rfl,h0,h1⟩ := h
 exact ⟨a1,a2,a3,a4,k,h0,h1⟩
def tT := SlR lC 4
theorem tT.mono {r r' : Rd} {ad : Option Addr} {len cap : Nat} {xs : List zU} (h : tT r ad len cap xs) (k : Le r r') : tT r' ad len cap xs := SlR.mono lC.mono h k
def zTn (r : Rd) (v : Value) (x : Out) : Prop := ∃ a1 a2 a3 a4 a5 a6,v = .agg #[.int .i64 x.to,.bool x.p.neg,.slice a1 a2 a3,.slice a4 a5 a6] ∧ zL r a1 a2 a3 x.p.ln ∧ zL r a4 a5 a6 x.p.ld
theorem zTn.mono {r r' : Rd} {v : Value} {x : Out} (h : zTn r v x) (k : Le r r') : zTn r' v x := by
 obtain ⟨a1,a2,a3,a4,a5,a6,h0,h1,h2⟩ := h
 exact ⟨a1,a2,a3,a4,a5,a6,h0,h1.mono k,h2.mono k⟩
def zBv (r : Rd) (cs : List Value) (x : Out) : Prop := ∃ a1 a2 a3 a4 a5 a6,cs = [.int .i64 x.to,.bool x.p.neg,.slice a1 a2 a3,.slice a4 a5 a6] ∧ zL r a1 a2 a3 x.p.ln ∧ zL r a4 a5 a6 x.p.ld
theorem zBv.at (r : Rd) (a : Addr) (cs : List Value) (x : Out) (h : zBv r cs x) (k : At r a cs) : zFp r a x := by
 obtain ⟨a1,a2,a3,a4,a5,a6,rfl,h0,h1⟩ := h
 exact ⟨a1,a2,a3,a4,a5,a6,k,h0,h1⟩
end Go.Gv
namespace Go.Proofs.YtjnbipmlmafahaaGreat
open Go Go.Gv Go.RowKit IntKind
set_option maxRecDepth 100000
section
variable (w : World) (X : Hid) (hX : ∀ k o,X k o → k < w.heap.size)
set_option maxHeartbeats 1000000
noncomputable def lN (p0 : Raw) : Option (Int) :=
 some p0.chk
include hX in
theorem zNa (p0 : Raw) (vp0 : Value) (hp0 : vJ (rd w X) vp0 p0) (y : Int) (hp : lN p0 = some y) : Calls Tryz.prog 79 #[vp0] w (Ret E0 w fun _ v => v = .int .i64 y) := by
 obtain ⟨a01,a02,a03,a04,a05,a06,rfl,h01,h02⟩ := hp0
 obtain rfl := Option.some.inj hp
 exact zAl w X hX p0 _ _ _ h01 _ _ _ h02
noncomputable def rJ (p0 : Raw) : Option (Int) :=
 some p0.chk
include hX in
theorem aO (p0 : Raw) (vp0 : Value) (hp0 : vJ (rd w X) vp0 p0) (y : Int) (hp : rJ p0 = some y) : Calls Tryz.prog 101 #[vp0] w (Ret E0 w fun _ v => v = .int .i64 y) := by
 obtain ⟨a01,a02,a03,a04,a05,a06,rfl,h01,h02⟩ := hp0
 obtain rfl := Option.some.inj hp
 exact zRp w X hX p0 _ _ _ h01 _ _ _ h02
noncomputable def kH (p0 : Raw) (p1 : Raw) : Option (Raw × Int) :=
 some (opR p0 p1 (p0.rat + p1.rat),opE p0 p1 (p0.rat + p1.rat))
include hX in
theorem dO (p0 : Raw) (vp0 : Value) (hp0 : vJ (rd w X) vp0 p0) (p1 : Raw) (vp1 : Value) (hp1 : vJ (rd w X) vp1 p1) (y : Raw × Int) (hp : kH p0 p1 = some y) : Calls Tryz.prog 57 #[vp0,vp1] w (Ret E0 w fun w' v => ∃ uu0,v = .tuple #[uu0,.int .i64 y.2] ∧ vJ (rd w' (old w)) uu0 y.1) := by
 obtain ⟨a01,a02,a03,a04,a05,a06,rfl,h01,h02⟩ := hp0
 obtain ⟨a11,a12,a13,a14,a15,a16,rfl,h11,h12⟩ := hp1
 obtain rfl := Option.some.inj hp
 exact qAh w X hX p0 _ _ _ h01 _ _ _ h02 p1 _ _ _ h11 _ _ _ h12
noncomputable def rE (p0 : Raw) (p1 : Raw) : Option (Raw × Int) :=
 some (opR p0 p1 (p0.rat * p1.rat),opE p0 p1 (p0.rat * p1.rat))
include hX in
theorem zFd (p0 : Raw) (vp0 : Value) (hp0 : vJ (rd w X) vp0 p0) (p1 : Raw) (vp1 : Value) (hp1 : vJ (rd w X) vp1 p1) (y : Raw × Int) (hp : rE p0 p1 = some y) : Calls Tryz.prog 95 #[vp0,vp1] w (Ret E0 w fun w' v => ∃ uu0,v = .tuple #[uu0,.int .i64 y.2] ∧ vJ (rd w' (old w)) uu0 y.1) := by
 obtain ⟨a01,a02,a03,a04,a05,a06,rfl,h01,h02⟩ := hp0
 obtain ⟨a11,a12,a13,a14,a15,a16,rfl,h11,h12⟩ := hp1
 obtain rfl := Option.some.inj hp
 exact qBh w X hX p0 _ _ _ h01 _ _ _ h02 p1 _ _ _ h11 _ _ _ h12
noncomputable def mU (p0 : Raw) (p1 : Raw) : Option (Int × Int) :=
 some (zFw p0 p1,zIz p0 p1)
include hX in
theorem zSh (p0 : Raw) (vp0 : Value) (hp0 : vJ (rd w X) vp0 p0) (p1 : Raw) (vp1 : Value) (hp1 : vJ (rd w X) vp1 p1) (y : Int × Int) (hp : mU p0 p1 = some y) : Calls Tryz.prog 80 #[vp0,vp1] w (Ret E0 w fun _ v => v = .tuple #[.int .i64 y.1,.int .i64 y.2]) := by
 obtain ⟨a01,a02,a03,a04,a05,a06,rfl,h01,h02⟩ := hp0
 obtain ⟨a11,a12,a13,a14,a15,a16,rfl,h11,h12⟩ := hp1
 obtain rfl := Option.some.inj hp
 exact qAu w X hX p0 _ _ _ h01 _ _ _ h02 p1 _ _ _ h11 _ _ _ h12
noncomputable def vV (p0 : Int) : Option (Raw) :=
 grd (-9223372036854775808 ≤ p0 ∧ p0 ≤ 9223372036854775807) (some (Raw.of (p0 : Rat)))
theorem lF (w : World) (X : Hid) (hX : ∀ k o,X k o → k < w.heap.size) (p0 : Int) (y : Raw) (hp : vV p0 = some y) : Calls Tryz.prog 38 #[.int .i64 p0] w (Ret E0 w fun w' v => vJ (rd w' (old w)) v y) := by
 obtain ⟨⟨h1,h2⟩,hp⟩ := nC hp
 obtain rfl := Option.some.inj hp
 exact zXb w (old w) (fun k _ h => h) p0 h1 h2
noncomputable def xD (p0 : Int) : Option (Raw) :=
 grd (-9223372036854775808 ≤ p0 ∧ p0 ≤ 9223372036854775807) (some (Raw.of (p0 : Rat)))
theorem rT (w : World) (X : Hid) (hX : ∀ k o,X k o → k < w.heap.size) (p0 : Int) (y : Raw) (hp : xD p0 = some y) : Calls Tryz.prog 76 #[.int .i64 p0] w (Ret E0 w fun w' v => vJ (rd w' (old w)) v y) := by
 obtain ⟨⟨h1,h2⟩,hp⟩ := nC hp
 obtain rfl := Option.some.inj hp
 exact zWb w (old w) (fun k _ h => h) p0 h1 h2
noncomputable def fD (p0 : Int) (p1 : Int) : Option (Raw × Int) :=
 grd ((-9223372036854775808 ≤ p0 ∧ p0 ≤ 9223372036854775807) ∧ (-9223372036854775808 ≤ p1 ∧ p1 ≤ 9223372036854775807) ∧ p1 ≠ 0) (some (Raw.of (mkRat (sgn (!(decide (p0 < 0) == decide (p1 < 0))) p0.natAbs) p1.natAbs),0))
theorem zDf (w : World) (X : Hid) (hX : ∀ k o,X k o → k < w.heap.size) (p0 : Int) (p1 : Int) (y : Raw × Int) (hp : fD p0 p1 = some y) : Calls Tryz.prog 84 #[.int .i64 p0,.int .i64 p1] w (Ret E0 w fun w' v => ∃ uu0,v = .tuple #[uu0,.int .i64 y.2] ∧ vJ (rd w' (old w)) uu0 y.1) := by
 obtain ⟨⟨⟨h1,h2⟩,⟨h3,h4⟩,h5⟩,hp⟩ := nC hp
 obtain rfl := Option.some.inj hp
 exact qDl w (old w) (fun k _ h => h) p0 p1 h1 h2 h3 h4 h5
noncomputable def wS (p0 : Int) (p1 : Int) : Option (Raw × Int) :=
 grd ((-9223372036854775808 ≤ p0 ∧ p0 ≤ 9223372036854775807) ∧ (-9223372036854775808 ≤ p1 ∧ p1 ≤ 9223372036854775807) ∧ p1 ≠ 0) (some (Raw.of (mkRat (sgn (decide (p0 < 0) != decide (p1 < 0)) p0.natAbs) p1.natAbs),0))
theorem fM (w : World) (X : Hid) (hX : ∀ k o,X k o → k < w.heap.size) (p0 : Int) (p1 : Int) (y : Raw × Int) (hp : wS p0 p1 = some y) : Calls Tryz.prog 157 #[.int .i64 p0,.int .i64 p1] w (Ret E0 w fun w' v => ∃ uu0,v = .tuple #[uu0,.int .i64 y.2] ∧ vJ (rd w' (old w)) uu0 y.1) := by
 obtain ⟨⟨⟨h1,h2⟩,⟨h3,h4⟩,h5⟩,hp⟩ := nC hp
 obtain rfl := Option.some.inj hp
 exact qAk w (old w) (fun k _ h => h) p0 p1 h1 h2 h3 h4 h5
instance (l : List Nat) : Decidable (jC l) := by unfold jC; infer_instance
instance (a : Raw) : Decidable (Vr a) := by unfold Vr; infer_instance
noncomputable def yM (p0 : Raw) (p1 : Raw) : Option (Raw) :=
 grd (Vr p0 ∧ Vr p1) (some (Raw.of (p0.rat + p1.rat)))
include hX in
theorem wM (p0 : Raw) (vp0 : Value) (hp0 : vJ (rd w X) vp0 p0) (p1 : Raw) (vp1 : Value) (hp1 : vJ (rd w X) vp1 p1) (y : Raw) (hp : yM p0 p1 = some y) : Calls Tryz.prog 87 #[vp0,vp1] w (Ret E0 w fun w' v => vJ (rd w' X) v y) := by
 obtain ⟨a01,a02,a03,a04,a05,a06,rfl,h01,h02⟩ := hp0
 obtain ⟨a11,a12,a13,a14,a15,a16,rfl,h11,h12⟩ := hp1
 obtain ⟨⟨va,vb⟩,hp⟩ := nC hp
 obtain rfl := Option.some.inj hp
 exact (zYr w X hX p0 _ _ _ h01 _ _ _ h02 p1 _ _ _ h11 _ _ _ h12 va vb).mono (by rintro e w' ⟨hu,v,rfl,h⟩; exact ⟨hu,_,rfl,h.raw⟩)
noncomputable def yL (p0 : Raw) (p1 : Raw) : Option (Raw) :=
 grd (Vr p0 ∧ Vr p1) (some (Raw.of (p0.rat * p1.rat)))
include hX in
theorem sN (p0 : Raw) (vp0 : Value) (hp0 : vJ (rd w X) vp0 p0) (p1 : Raw) (vp1 : Value) (hp1 : vJ (rd w X) vp1 p1) (y : Raw) (hp : yL p0 p1 = some y) : Calls Tryz.prog 88 #[vp0,vp1] w (Ret E0 w fun w' v => vJ (rd w' X) v y) := by
 obtain ⟨a01,a02,a03,a04,a05,a06,rfl,h01,h02⟩ := hp0
 obtain ⟨a11,a12,a13,a14,a15,a16,rfl,h11,h12⟩ := hp1
 obtain ⟨⟨va,vb⟩,hp⟩ := nC hp
 obtain rfl := Option.some.inj hp
 exact (zTp w X hX p0 _ _ _ h01 _ _ _ h02 p1 _ _ _ h11 _ _ _ h12 va vb).mono (by rintro e w' ⟨hu,v,rfl,h⟩; exact ⟨hu,_,rfl,h.raw⟩)
noncomputable def zY (p0 : Raw) (p1 : Raw) : Option (Bool) :=
 some (decide (p0 = p1))
include hX in
theorem qB (p0 : Raw) (vp0 : Value) (hp0 : vJ (rd w X) vp0 p0) (p1 : Raw) (vp1 : Value) (hp1 : vJ (rd w X) vp1 p1) (y : Bool) (hp : zY p0 p1 = some y) : Calls Tryz.prog 23 #[vp0,vp1] w (Ret E0 w fun _ v => v = .bool y) := by
 obtain ⟨a01,a02,a03,a04,a05,a06,rfl,h01,h02⟩ := hp0
 obtain ⟨a11,a12,a13,a14,a15,a16,rfl,h11,h12⟩ := hp1
 obtain rfl := Option.some.inj hp
 exact zOo w X hX p0 _ _ _ h01 _ _ _ h02 p1 _ _ _ h11 _ _ _ h12
end
section
variable (w : World) (X : Hid) (hX : ∀ k o,X k o → k < w.heap.size)
set_option maxHeartbeats 1000000
noncomputable def sM (J2 : Int → Option (Int)) : List (List Int) → Int → Option (Int)
 | [],v4_0 => J2 v4_0
 | x4 :: r4,v4_0 => sM J2 r4 (i64.wrap ((v4_0) * (x4.length : Int)))
noncomputable def pX (p0 : List (List Int)) : Option (Int) :=
 lt (fun (v2_0 : Int) => some v2_0) fun J2 => sM J2 (p0.drop 0)  1
include hX in
theorem zIy (p0 : List (List Int)) (vp0 : Value) (hp0 : SV dC (rd w X) vp0 p0) (y : Int) (hp : pX p0 = some y) : Calls Tryz.prog 98 #[vp0] w (Ret E0 w fun _ v => v = .int .i64 y) := by
 obtain ⟨D1,D2,rfl,p0a_h0⟩ := hp0
 unfold pX at hp
 refine zen Tryz.func98 ?_
 have C0 : St E0 w X w X [] := St.start hX
 refine zz 10 ?_
 have C := rQ hp
 obtain ⟨J2,hJ2,hp⟩ := C
 refine yT (fun (v2_0 : Int) => [(3,.int .i64 v2_0)]) (fun v2_0 w1 => ∃ Y1 : Hid,St E0 w X w1 Y1 [] ∧ Le (rd w X) (rd w1 Y1) ∧ J2 v2_0 = some y) ?_ ?_
 rintro v2_0 w2 ⟨Y2,C2,B2,hp⟩
 have hp := (hJ2 _).symm.trans hp
 refine zz 7 <| zr' (v := .int .i64 v2_0) ?_
 cases hp
 exact ⟨C2.upd,_,rfl,rfl⟩
 intro K3 H3
 refine zz 8 ?_
 have hb4 : (p0.length : Int) ≤ 9223372036854775807 := rR (p0a_h0).hcap (p0a_h0).hbig
 refine zlp Tryz.f98 [K3] [1,1,9,1,0] (fun ((v4_0,k4) : Int × Nat) => [(3,.int .i64 v4_0),(6,.slice D1 p0.length D2),(7,.int .i64 (p0.length : Int)),(8,.int .i64 (k4 : Int))]) (fun (v4_0,k4) w1 => ∃ Y1 : Hid,St E0 w X w1 Y1 [] ∧ Le (rd w X) (rd w1 Y1) ∧ sM J2 (p0.drop k4)  v4_0 = some y) (fun (v4_0,k4) => p0.length - k4) (1,0) ?_ ?_
 exact ⟨_,C0,Le.refl _,hp⟩
 rintro ⟨v4_0,k4⟩ w4 K4 H4 ⟨Y4,C4,B4,hp⟩
 refine zz 6 <| zt 9 (p := (k4 : Int) < (p0.length : Int)) (fun Q5 => ?_) (fun Q5 => ?_)
 have C := xK (l := p0) (k := k4) (qR Q5)
 obtain ⟨x4,O4⟩ := C
 rw [wG O4,sM] at hp
 have L4 : (0 : Int) ≤ (k4 : Int) := Int.natCast_nonneg _
 refine zz 7 ?_
 have C := p0a_h0.opn O4
 obtain ⟨be6,oe6,rfl,B6,hEe6⟩ := C
 obtain ⟨e61,e62,e6_at,e6_h0⟩ := hEe6
 refine zi (b := be6) (off := oe6) (len := p0.length) (cap := D2) (kd := .i64) (i := (k4 : Int)) 1 (oe6 + k4 * 1) ?_ (h0 := L4) (h1 := (jS L4 B6))
 refine zl ((e6_at.mono B4)).cells <| zz 14 <| zs 16 (v := .int .i64 (i64.wrap ((k4 : Int) + 1))) (v' := .int .i64 ((k4 : Int) + 1)) (zR (jE (wk0 k4) (wk1 Q5 hb4))) <| zz 2 <| zP (fun a h => H4 (i64.wrap ((v4_0) * (x4.length : Int)),k4 + 1) _ a h ⟨_,C4,B4,hp⟩ ?_)
 exact vK Q5
 rw [List.drop_eq_nil_of_le (qI Q5),sM] at hp
 refine zz 5 ?_
 exact zP (fun a h => H3 v4_0 _ a h ⟨_,C4,B4,hp⟩)
noncomputable def jI (x10 : List Int) (J12 : Option (Int)) : List Int → Nat → Option (Int)
 | [],k17 => J12
 | x17 :: r17,k17 => if (x17) < (-1073741824) then (some 1) else (if (x17) > 1073741824 then (some 1) else (if (k17 : Int) > 0 then ((ix x10 (i64.wrap ((k17 : Int) - 1))).bind fun x23 => if (x17) ≤ x23 then (some 1) else (jI x10 J12 r17 (k17 + 1))) else (jI x10 J12 r17 (k17 + 1))))
noncomputable def yD (J4 : Option (Int)) : List (List Int) → Option (Int)
 | [] => J4
 | x10 :: r10 => lt (yD J4 r10 ) fun J12 => if ((x10.length : Int) == 0) = true then (some 3) else (if (x10.length : Int) > 32 then (some 4) else (jI x10 J12 (x10.drop 0) 0))
noncomputable def yU (p0 : List (List Int)) : Option (Int) :=
 if ((p0.length : Int) == 0) = true then (some 3) else (if (p0.length : Int) > 4 then (some 4) else (lt ((pX p0).bind fun y6 => if (y6) > 256 then (some 10) else (some 0)) fun J4 => yD J4 (p0.drop 0) ))
include hX in
theorem zAa (p0 : List (List Int)) (vp0 : Value) (hp0 : SV dC (rd w X) vp0 p0) (y : Int) (hp : yU p0 = some y) : Calls Tryz.prog 59 #[vp0] w (Ret E0 w fun _ v => v = .int .i64 y) := by
 obtain ⟨D1,D2,rfl,p0a_h0⟩ := hp0
 unfold yU at hp
 refine zen Tryz.func59 ?_
 have C0 : St E0 w X w X [] := St.start hX
 refine zz 15 <| zb 7 (b := ((p0.length : Int) == 0)) (fun T2 => ?_) (fun T2 => ?_)
 have hp := ipb T2 hp
 refine zz 9 <| zr' (v := .int .i64 3) ?_
 cases hp
 exact ⟨C0.upd,_,rfl,rfl⟩
 have hp := iqb T2 hp
 refine zz 9 <| zt 11 (p := (p0.length : Int) > 4) (fun Q3 => ?_) (fun Q3 => ?_)
 have hp := ip Q3 hp
 refine zz 9 <| zr' (v := .int .i64 4) ?_
 cases hp
 exact ⟨C0.upd,_,rfl,rfl⟩
 have hp := iq Q3 hp
 refine zz 4 ?_
 have C := fG hp
 obtain ⟨J4,hJ4,hp⟩ := C
 refine yT (fun (_ : Unit) => [(0,.slice D1 p0.length D2)]) (fun _ w1 => ∃ Y1 : Hid,St E0 w X w1 Y1 [] ∧ Le (rd w X) (rd w1 Y1) ∧ J4 = some y) ?_ ?_
 rintro _ w4 ⟨Y4,C4,B4,hp⟩
 have hp := hJ4.symm.trans hp
 refine zz 4 <| zQ hp fun y6 hy6 hp => zc C4 (zIy _ X0 (zM _) p0 _ ⟨_,_,rfl,((p0a_h0.mono B4).mono Le.x0)⟩ y6 hy6) ?_
 rintro v7 w7 C7 B7 V7 rfl
 refine zz 3 <| zt 59 (p := (y6) > 256) (fun Q8 => ?_) (fun Q8 => ?_)
 have hp := ip Q8 hp
 refine zz 8 <| zr' (v := .int .i64 10) ?_
 cases hp
 exact ⟨C7.upd,_,rfl,rfl⟩
 have hp := iq Q8 hp
 refine zz 9 <| zr' (v := .int .i64 0) ?_
 cases hp
 exact ⟨C7.upd,_,rfl,rfl⟩
 intro K9 H9
 refine zz 8 ?_
 have hb10 : (p0.length : Int) ≤ 9223372036854775807 := rR (p0a_h0).hcap (p0a_h0).hbig
 refine zlp Tryz.f59 [K9] [1,1,9,1,0] (fun (k10 : Nat) => [(0,.slice D1 p0.length D2),(15,.slice D1 p0.length D2),(16,.int .i64 (p0.length : Int)),(17,.int .i64 (k10 : Int))]) (fun k10 w1 => ∃ Y1 : Hid,St E0 w X w1 Y1 [] ∧ Le (rd w X) (rd w1 Y1) ∧ yD J4 (p0.drop k10)  = some y) (fun k10 => p0.length - k10) 0 ?_ ?_
 exact ⟨_,C0,Le.refl _,hp⟩
 rintro k10 w10 K10 H10 ⟨Y10,C10,B10,hp⟩
 refine zz 6 <| zt 18 (p := (k10 : Int) < (p0.length : Int)) (fun Q11 => ?_) (fun Q11 => ?_)
 have C := xK (l := p0) (k := k10) (qR Q11)
 obtain ⟨x10,O10⟩ := C
 rw [wG O10,yD] at hp
 have L10 : (0 : Int) ≤ (k10 : Int) := Int.natCast_nonneg _
 refine zz 3 ?_
 have C := fG hp
 obtain ⟨J12,hJ12,hp⟩ := C
 refine yT (fun (_ : Unit) => [(0,.slice D1 p0.length D2),(15,.slice D1 p0.length D2),(16,.int .i64 (p0.length : Int)),(17,.int .i64 (k10 : Int))]) (fun _ w1 => ∃ Y1 : Hid,St E0 w X w1 Y1 [] ∧ Le (rd w10 Y10) (rd w1 Y1) ∧ J12 = some y) ?_ ?_
 rintro _ w12 ⟨Y12,C12,B12,hp⟩
 have hp := hJ12.symm.trans hp
 refine zz 2 <| zs 56 (v := .int .i64 (i64.wrap ((k10 : Int) + 1))) (v' := .int .i64 ((k10 : Int) + 1)) (zR (jE (wk0 k10) (wk1 Q11 hb10))) <| zz 2 <| zP (fun a h => H10 (k10 + 1) _ a h ⟨_,C12,(Le2 B10 B12),hp⟩ ?_)
 exact vK Q11
 intro K13 H13
 refine zz 3 ?_
 have C := p0a_h0.opn O10
 obtain ⟨be14,oe14,rfl,B14,hEe14⟩ := C
 obtain ⟨e141,e142,e14_at,e14_h0⟩ := hEe14
 refine zi (b := be14) (off := oe14) (len := p0.length) (cap := D2) (kd := .i64) (i := (k10 : Int)) 1 (oe14 + k10 * 1) ?_ (h0 := L10) (h1 := (jS L10 B14))
 refine zl ((e14_at.mono B10)).cells <| zz 13 <| zb 21 (b := ((x10.length : Int) == 0)) (fun T15 => ?_) (fun T15 => ?_)
 have hp := ipb T15 hp
 refine zz 14 <| zr' (v := .int .i64 3) ?_
 cases hp
 exact ⟨C10.upd,_,rfl,rfl⟩
 have hp := iqb T15 hp
 refine zz 9 <| zt 25 (p := (x10.length : Int) > 32) (fun Q16 => ?_) (fun Q16 => ?_)
 have hp := ip Q16 hp
 refine zz 14 <| zr' (v := .int .i64 4) ?_
 cases hp
 exact ⟨C10.upd,_,rfl,rfl⟩
 have hp := iq Q16 hp
 refine zz 12 ?_
 have hb17 : (x10.length : Int) ≤ 9223372036854775807 := rR (e14_h0).hcap (e14_h0).hbig
 refine zlp Tryz.f59 [K9,K10,K13] [1,1,9,1,0,0,1,1,9,0,1,1,1,0] (fun (k17 : Nat) => [(0,.slice (some ⟨be14,oe14,none⟩) p0.length D2),(4,.slice e141 x10.length e142),(15,.slice (some ⟨be14,oe14,none⟩) p0.length D2),(16,.int .i64 (p0.length : Int)),(17,.int .i64 (k10 : Int)),(29,.slice e141 x10.length e142),(30,.int .i64 (x10.length : Int)),(31,.int .i64 (k17 : Int))]) (fun k17 w1 => ∃ Y1 : Hid,St E0 w X w1 Y1 [] ∧ Le (rd w10 Y10) (rd w1 Y1) ∧ jI x10 J12 (x10.drop k17) k17 = some y) (fun k17 => x10.length - k17) 0 ?_ ?_
 exact ⟨_,C10,Le.refl _,hp⟩
 rintro k17 w17 K17 H17 ⟨Y17,C17,B17,hp⟩
 refine zz 6 <| zt 32 (p := (k17 : Int) < (x10.length : Int)) (fun Q18 => ?_) (fun Q18 => ?_)
 have C := xK (l := x10) (k := k17) (qR Q18)
 obtain ⟨x17,O17⟩ := C
 rw [wG O17,jI] at hp
 have L17 : (0 : Int) ≤ (k17 : Int) := Int.natCast_nonneg _
 refine zz 8 ?_
 have C := e14_h0.opn O17
 obtain ⟨be19,oe19,rfl,B19,hEe19⟩ := C
 have hAe19 : At (rd w X) ⟨be19,oe19 + k17 * 1,none⟩ [.int .i64 x17] := hEe19
 refine zi (b := be19) (off := oe19) (len := x10.length) (cap := e142) (kd := .i64) (i := (k17 : Int)) 1 (oe19 + k17 * 1) ?_ (h0 := L17) (h1 := (jS L17 B19))
 refine zl ((hAe19.mono (Le2 B10 B17))).cells <| zz 9 <| zt 38 (p := (x17) < (-1073741824)) (fun Q20 => ?_) (fun Q20 => ?_)
 have hp := ip Q20 hp
 refine zz 34 <| zr' (v := .int .i64 1) ?_
 cases hp
 exact ⟨C17.upd,_,rfl,rfl⟩
 have hp := iq Q20 hp
 refine zz 4 <| zt 42 (p := (x17) > 1073741824) (fun Q21 => ?_) (fun Q21 => ?_)
 have hp := ip Q21 hp
 refine zz 30 <| zr' (v := .int .i64 1) ?_
 cases hp
 exact ⟨C17.upd,_,rfl,rfl⟩
 have hp := iq Q21 hp
 refine zz 3 <| zt 45 (p := (k17 : Int) > 0) (fun Q22 => ?_) (fun Q22 => ?_)
 have hp := ip Q22 hp
 refine zz 4 <| zQ hp fun x23 hx23 hp => ?_
 have C := jU hx23
 obtain ⟨L23,O23⟩ := C
 have C := e14_h0.opn2 O23
 obtain ⟨B24,hEe24⟩ := C
 have hAe24 : At (rd w X) ⟨be19,oe19 + (i64.wrap ((k17 : Int) - 1)).toNat * 1,none⟩ [.int .i64 x23] := hEe24
 refine zi (b := be19) (off := oe19) (len := x10.length) (cap := e142) (kd := .i64) (i := i64.wrap ((k17 : Int) - 1)) 1 (oe19 + (i64.wrap ((k17 : Int) - 1)).toNat * 1) ?_ (h0 := L23) (h1 := (jS L23 B24))
 refine zl ((hAe24.mono (Le2 B10 B17))).cells <| zz 5 <| zt 54 (p := (x17) ≤ x23) (fun Q25 => ?_) (fun Q25 => ?_)
 have hp := ip Q25 hp
 refine zz 16 <| zr' (v := .int .i64 1) ?_
 cases hp
 exact ⟨C17.upd,_,rfl,rfl⟩
 have hp := iq Q25 hp
 refine zz 6 <| zs 55 (v := .int .i64 (i64.wrap ((k17 : Int) + 1))) (v' := .int .i64 ((k17 : Int) + 1)) (zR (jE (wk0 k17) (wk1 Q18 hb17))) <| zz 2 <| zP (fun a h => H17 (k17 + 1) _ a h ⟨_,C17,B17,hp⟩ ?_)
 exact vK Q18
 have hp := iq Q22 hp
 refine zz 17 <| zs 55 (v := .int .i64 (i64.wrap ((k17 : Int) + 1))) (v' := .int .i64 ((k17 : Int) + 1)) (zR (jE (wk0 k17) (wk1 Q18 hb17))) <| zz 2 <| zP (fun a h => H17 (k17 + 1) _ a h ⟨_,C17,B17,hp⟩ ?_)
 exact vK Q18
 rw [List.drop_eq_nil_of_le (qI Q18),jI] at hp
 refine zz 6 ?_
 exact zP (fun a h => H13 () _ a h ⟨_,C17,B17,hp⟩)
 rw [List.drop_eq_nil_of_le (qI Q11),yD] at hp
 refine zz 5 ?_
 exact zP (fun a h => H9 () _ a h ⟨_,C10,B10,hp⟩)
noncomputable def vO (p0 : zO) : Option ((List (List Int))) :=
 some ([p0.height,p0.own,p0.other])
include hX in
theorem aH (p0 : zO) (vp0 : Value) (hp0 : zW (rd w X) vp0 p0) (y : (List (List Int))) (hp : vO p0 = some y) : Calls Tryz.prog 60 #[vp0] w (Ret E0 w fun w' v => SV dC (rd w' X) v y) := by
 have hVp0 := hp0
 refine zW.op hp0 fun D1 D2 D3 D4 D5 D6 D7 D8 D9 D10 D11 D12 D13 D14 D15 D16 D17 D18 D19 D20 D21 D22 D23 D24 hv9 p0a_h0 p0a_h1 p0a_h2 p0a_h3 p0a_h4 p0a_h5 p0a_h6 p0a_h7 p0a_h8 p0a_h9 p0a_h10 p0a_h11 => ?_
 subst hv9
 unfold vO at hp
 refine zen Tryz.func60 ?_
 have C0 : St E0 w X w X [] := St.start hX
 refine zz 2 <| zn pn (.cells (qDr p0 D1 D2 D3 D4 D5 D6 D7 D8 D9 D10 D11 D12 D13 D14 D15 D16 D17 D18 D19 D20 D21 D22 D23 D24) 30 (0,0)) C0 fun b3 w3 Y3 C3 B3 V3 => zz 6 <| zo 0 C3 <| zz 1 <| zo 0 C3 <| zz 1 <| zo 0 C3 <| zn (fun b => .slice (some ⟨b,0,none⟩) 3 3) (.cells #[.slice D1 p0.height.length D2,.slice D3 p0.own.length D4,.slice D5 p0.other.length D6] 22 (0,0)) C3 fun b5 w5 Y5 C5 B5 V5 => ?_
 refine zz 4 <| zr' (v := .slice (some ⟨b5,0,none⟩) 3 3) ?_
 have C := St.pubAt 0 C5 rfl
 obtain ⟨Y6,hSx6,B6,hat6,hatN6⟩ := C
 have C6 : St E0 w X w5 Y6 [(b3,.cells (qDr p0 D1 D2 D3 D4 D5 D6 D7 D8 D9 D10 D11 D12 D13 D14 D15 D16 D17 D18 D19 D20 D21 D22 D23 D24) 30 (0,0))] := hSx6
 have hR6 : dC (rd w5 Y6) (some ⟨b5,0,none⟩) 3 3 [p0.height,p0.own,p0.other] := (SlR.lit (El := zAg) (size := 1) (n := 3) [⟨p0.height,[.slice D1 p0.height.length D2]⟩,⟨p0.own,[.slice D3 p0.own.length D4]⟩,⟨p0.other,[.slice D5 p0.other.length D6]⟩] hat6 (List.forall_mem_cons.2 ⟨⟨rfl,fun r2 h2 b o h9 => ⟨_,_,h9,((p0a_h0.mono (Le3 B3 B5 B6)).mono h2)⟩⟩,(List.forall_mem_cons.2 ⟨⟨rfl,fun r2 h2 b o h9 => ⟨_,_,h9,((p0a_h1.mono (Le3 B3 B5 B6)).mono h2)⟩⟩,(List.forall_mem_cons.2 ⟨⟨rfl,fun r2 h2 b o h9 => ⟨_,_,h9,((p0a_h2.mono (Le3 B3 B5 B6)).mono h2)⟩⟩,(List.forall_mem_nil _)⟩)⟩)⟩) rfl (by decide))
 cases hp
 exact ⟨C6.upd,_,rfl,⟨_,_,rfl,(hR6).mono C6.le⟩⟩
noncomputable def jK (p0 : zO) : Option (Int) :=
 (some (i64.wrap ((i64.wrap ((p0.height.length : Int) * (p0.own.length : Int))) * (p0.other.length : Int)))).bind fun z4 => some (i64.wrap ((z4) * (p0.advisories.length : Int)))
include hX in
theorem sZ (p0 : zO) (vp0 : Value) (hp0 : zW (rd w X) vp0 p0) (y : Int) (hp : jK p0 = some y) : Calls Tryz.prog 52 #[vp0] w (Ret E0 w fun _ v => v = .int .i64 y) := by
 have hVp0 := hp0
 refine zW.op hp0 fun D1 D2 D3 D4 D5 D6 D7 D8 D9 D10 D11 D12 D13 D14 D15 D16 D17 D18 D19 D20 D21 D22 D23 D24 hv9 p0a_h0 p0a_h1 p0a_h2 p0a_h3 p0a_h4 p0a_h5 p0a_h6 p0a_h7 p0a_h8 p0a_h9 p0a_h10 p0a_h11 => ?_
 subst hv9
 unfold jK at hp
 refine zen Tryz.func52 ?_
 have C0 : St E0 w X w X [] := St.start hX
 refine zz 2 <| zn pn (.cells (qDr p0 D1 D2 D3 D4 D5 D6 D7 D8 D9 D10 D11 D12 D13 D14 D15 D16 D17 D18 D19 D20 D21 D22 D23 D24) 30 (0,0)) C0 fun b3 w3 Y3 C3 B3 V3 => zz 6 <| zo 0 C3 <| zz 2 <| zo 0 C3 <| zz 3 <| zo 0 C3 <| zQ hp fun z4 hz4 hp => ?_
 refine zz 2 <| zs 13 (v := .int .i64 (i64.wrap ((i64.wrap ((p0.height.length : Int) * (p0.own.length : Int))) * (p0.other.length : Int)))) (v' := .int .i64 z4) (zR (Option.some.inj hz4)) <| zz 1 <| zo 0 C3 <| zz 6 <| zr' (v := .int .i64 (i64.wrap ((z4) * (p0.advisories.length : Int)))) ?_
 cases hp
 exact ⟨C3.upd,_,rfl,rfl⟩
noncomputable def vP (p0 : Int) (p1 : wU) : Option (Bool) :=
 if (p0) < p1.lo then (some true) else (some (decide ((p0) > p1.hi)))
include hX in
theorem aU (p0 : Int) (p1 : wU) (bp1 : Nat) (hp1 : zBg (rd w X) ⟨bp1,0,none⟩ p1) (y : Bool) (hp : vP p0 p1 = some y) : Calls Tryz.prog 100 #[.int .i64 p0,.pointer (some ⟨bp1,0,none⟩)] w (Ret E0 w fun _ v => v = .bool y) := by
 have p1a_at : At (rd w X) ⟨bp1,0,none⟩ [.int .i64 p1.lo,.int .i64 p1.hi] := hp1
 unfold vP at hp
 refine zen Tryz.func100 ?_
 have C0 : St E0 w X w X [] := St.start hX
 refine zz 9 <| zl (p1a_at.sub 0 1).cells <| zz 2 <| zt 8 (p := (p0) < p1.lo) (fun Q2 => ?_) (fun Q2 => ?_)
 have hp := ip Q2 hp
 refine zz 9 <| zr' (v := .bool true) ?_
 cases hp
 exact ⟨C0.upd,_,rfl,rfl⟩
 have hp := iq Q2 hp
 refine zz 2 <| zl (p1a_at.sub 1 1).cells <| zz 6 <| zr' (v := .bool (decide ((p0) > p1.hi))) ?_
 cases hp
 exact ⟨C0.upd,_,rfl,rfl⟩
noncomputable def zX (p1q0 : wU) (J2 : Option (Int)) : List Int → Nat → Option (Int)
 | [],k4 => J2
 | x4 :: r4,k4 => (vP (x4) p1q0).bind fun y8 => if y8 = true then (some (k4 : Int)) else (zX p1q0 J2 r4 (k4 + 1))
noncomputable def jH (p0 : List Int) (p1q0 : wU) : Option (Int) :=
 lt (some (-1)) fun J2 => zX p1q0 J2 (p0.drop 0) 0
include hX in
theorem tX (p0 : List Int) (vp0 : Value) (hp0 : SV wK (rd w X) vp0 p0) (p1q0 : wU) (bp1q0 : Nat) (hp1q0 : zBg (rd w X) ⟨bp1q0,0,none⟩ p1q0) (y : Int) (hp : jH p0 p1q0 = some y) : Calls Tryz.prog 138 #[vp0,.func (.func 100) #[] #[.pointer (some ⟨bp1q0,0,none⟩)]] w (Ret E0 w fun _ v => v = .int .i64 y) := by
 obtain ⟨D1,D2,rfl,p0a_h0⟩ := hp0
 have p1q0a_at : At (rd w X) ⟨bp1q0,0,none⟩ [.int .i64 p1q0.lo,.int .i64 p1q0.hi] := hp1q0
 unfold jH at hp
 refine zen Tryz.func138 ?_
 have C0 : St E0 w X w X [] := St.start hX
 refine zz 5 ?_
 have C := fG hp
 obtain ⟨J2,hJ2,hp⟩ := C
 refine yT (fun (_ : Unit) => []) (fun _ w1 => ∃ Y1 : Hid,St E0 w X w1 Y1 [] ∧ Le (rd w X) (rd w1 Y1) ∧ J2 = some y) ?_ ?_
 rintro _ w2 ⟨Y2,C2,B2,hp⟩
 have hp := hJ2.symm.trans hp
 refine zz 6 <| zr' (v := .int .i64 (-1)) ?_
 cases hp
 exact ⟨C2.upd,_,rfl,rfl⟩
 intro K3 H3
 refine zz 8 ?_
 have hb4 : (p0.length : Int) ≤ 9223372036854775807 := rR (p0a_h0).hcap (p0a_h0).hbig
 refine zlp Tryz.f138 [K3] [1,9,1,0] (fun (k4 : Nat) => [(0,.slice D1 p0.length D2),(1,.func (.func 100) #[] #[.pointer (some ⟨bp1q0,0,none⟩)]),(7,.int .i64 (p0.length : Int)),(8,.int .i64 (k4 : Int))]) (fun k4 w1 => ∃ Y1 : Hid,St E0 w X w1 Y1 [] ∧ Le (rd w X) (rd w1 Y1) ∧ zX p1q0 J2 (p0.drop k4) k4 = some y) (fun k4 => p0.length - k4) 0 ?_ ?_
 exact ⟨_,C0,Le.refl _,hp⟩
 rintro k4 w4 K4 H4 ⟨Y4,C4,B4,hp⟩
 refine zz 6 <| zt 9 (p := (k4 : Int) < (p0.length : Int)) (fun Q5 => ?_) (fun Q5 => ?_)
 have C := xK (l := p0) (k := k4) (qR Q5)
 obtain ⟨x4,O4⟩ := C
 rw [wG O4,zX] at hp
 have L4 : (0 : Int) ≤ (k4 : Int) := Int.natCast_nonneg _
 refine zz 16 ?_
 have C := p0a_h0.opn O4
 obtain ⟨be6,oe6,rfl,B6,hEe6⟩ := C
 have hAe6 : At (rd w X) ⟨be6,oe6 + k4 * 1,none⟩ [.int .i64 x4] := hEe6
 refine zi (b := be6) (off := oe6) (len := p0.length) (cap := D2) (kd := .i64) (i := (k4 : Int)) 1 (oe6 + k4 * 1) ?_ (h0 := L4) (h1 := (jS L4 B6))
 refine zl ((hAe6.mono B4)).cells <| zQ hp fun y8 hy8 hp => zc C4 (aU _ X0 (zM _) (x4) p1q0 _ ((p1q0a_at.mono B4).mono Le.x0) y8 hy8) ?_
 rintro v9 w9 C9 B9 V9 rfl
 refine zz 2 <| zb 16 (b := y8) (fun T10 => ?_) (fun T10 => ?_)
 have hp := ipb T10 hp
 refine zz 13 <| zr' (v := .int .i64 (k4 : Int)) ?_
 cases hp
 exact ⟨C9.upd,_,rfl,rfl⟩
 have hp := iqb T10 hp
 refine zz 6 <| zs 18 (v := .int .i64 (i64.wrap ((k4 : Int) + 1))) (v' := .int .i64 ((k4 : Int) + 1)) (zR (jE (wk0 k4) (wk1 Q5 hb4))) <| zz 2 <| zP (fun a h => H4 (k4 + 1) _ a h ⟨_,C9,(Le2 B4 B9),hp⟩ ?_)
 exact vK Q5
 rw [List.drop_eq_nil_of_le (qI Q5),zX] at hp
 refine zz 5 ?_
 exact zP (fun a h => H3 () _ a h ⟨_,C4,B4,hp⟩)
noncomputable def qY (p0 : List Int) (p1q0 : wU) : Option (Bool) :=
 (jH p0 p1q0).bind fun y3 => some (decide ((y3) ≥ 0))
include hX in
theorem wR (p0 : List Int) (vp0 : Value) (hp0 : SV wK (rd w X) vp0 p0) (p1q0 : wU) (bp1q0 : Nat) (hp1q0 : zBg (rd w X) ⟨bp1q0,0,none⟩ p1q0) (y : Bool) (hp : qY p0 p1q0 = some y) : Calls Tryz.prog 99 #[vp0,.func (.func 100) #[] #[.pointer (some ⟨bp1q0,0,none⟩)]] w (Ret E0 w fun _ v => v = .bool y) := by
 obtain ⟨D1,D2,rfl,p0a_h0⟩ := hp0
 have p1q0a_at : At (rd w X) ⟨bp1q0,0,none⟩ [.int .i64 p1q0.lo,.int .i64 p1q0.hi] := hp1q0
 unfold qY at hp
 refine zen Tryz.func99 ?_
 have C0 : St E0 w X w X [] := St.start hX
 refine zz 9 <| zQ hp fun y3 hy3 hp => zc C0 (tX _ X0 (zM _) p0 _ ⟨_,_,rfl,(p0a_h0.mono Le.x0)⟩ p1q0 _ (p1q0a_at.mono Le.x0) y3 hy3) ?_
 rintro v4 w4 C4 B4 V4 rfl
 refine zz 5 <| zr' (v := .bool (decide ((y3) ≥ 0))) ?_
 cases hp
 exact ⟨C4.upd,_,rfl,rfl⟩
noncomputable def qL (p0 : wU) (p1 : List Int) : Option (Bool) :=
 (qY p1 p0).bind fun y5 => some (!y5)
include hX in
theorem wL (p0 : wU) (vp0 : Value) (hp0 : zKy (rd w X) vp0 p0) (p1 : List Int) (vp1 : Value) (hp1 : SV wK (rd w X) vp1 p1) (y : Bool) (hp : qL p0 p1 = some y) : Calls Tryz.prog 61 #[vp0,vp1] w (Ret E0 w fun _ v => v = .bool y) := by
 obtain rfl := hp0
 obtain ⟨p1a1,p1a2,rfl,p1a_h0⟩ := hp1
 unfold qL at hp
 refine zen Tryz.func61 ?_
 have C0 : St E0 w X w X [] := St.start hX
 refine zz 2 <| zn pn (.cells #[.int .i64 p0.lo,.int .i64 p0.hi] 100 (0,0)) C0 fun b3 w3 Y3 C3 B3 V3 => zz 7 <| zQ hp fun y5 hy5 hp => zc C3 (wR _ X0 (zM _) p1 _ ⟨_,_,rfl,((p1a_h0.mono B3).mono Le.x0)⟩ p0 _ (C3.at0 0 rfl rfl) y5 hy5) ?_ (vs := #[.slice p1a1 p1.length p1a2,.func (.func 100) #[] #[.pointer (some ⟨b3,0,none⟩)]])
 rintro v6 w6 C6 B6 V6 rfl
 refine zz 5 <| zr' (v := .bool (!y5)) ?_
 cases hp
 exact ⟨C6.upd,_,rfl,rfl⟩
noncomputable def qO (p0 : List Int) (p2 : Int) : Option (Bool) :=
 (qL (wU.mk (i64.wrap ((0 : Int) - p2)) p2) p0).bind fun y3 => some y3
include hX in
theorem kT (p0 : List Int) (vp0 : Value) (hp0 : SV wK (rd w X) vp0 p0) (bp1 : Nat) (hp1 : FnAt (rd w X) ⟨bp1,0,none⟩ 61) (p2 : Int) (bp2 : Nat) (hp2 : sG (rd w X) ⟨bp2,0,none⟩ p2) (y : Bool) (hp : qO p0 p2 = some y) : Calls Tryz.prog 90 #[vp0,.pointer (some ⟨bp1,0,none⟩),.pointer (some ⟨bp2,0,none⟩)] w (Ret E0 w fun _ v => v = .bool y) := by
 obtain ⟨D1,D2,rfl,p0a_h0⟩ := hp0
 have hAp1 : At (rd w X) ⟨bp1,0,none⟩ [.func (.func 61) #[] #[]] := hp1
 have hAp2 : At (rd w X) ⟨bp2,0,none⟩ [.int .i64 p2] := hp2
 unfold qO at hp
 refine zen Tryz.func90 ?_
 have C0 : St E0 w X w X [] := St.start hX
 refine zz 7 <| zl (hAp1).cells <| zl (hAp2).cells <| zz 1 <| zl (hAp2).cells <| zz 2 <| zQ hp fun y3 hy3 hp => zc C0 (wL _ X0 (zM _) (wU.mk (i64.wrap ((0 : Int) - p2)) p2) _ rfl p0 _ ⟨_,_,rfl,(p0a_h0.mono Le.x0)⟩ y3 hy3) ?_
 rintro v4 w4 C4 B4 V4 rfl
 refine zz 4 <| zr' (v := .bool y3) ?_
 cases hp
 exact ⟨C4.upd,_,rfl,rfl⟩
noncomputable def zS (p0 : Int) : Option (Int) :=
 some p0
include hX in
theorem wI (p0 : Int) (y : Int) (hp : zS p0 = some y) : Calls Tryz.prog 54 #[.int .i64 p0] w (Ret E0 w fun w' v => ∃ b0 b1,v = .func (.func 90) #[] #[.pointer (some ⟨b0,0,none⟩),.pointer (some ⟨b1,0,none⟩)] ∧ FnAt (rd w' (old w)) ⟨b0,0,none⟩ 61 ∧ sG (rd w' (old w)) ⟨b1,0,none⟩ y) := by
 unfold zS at hp
 refine zen Tryz.func54 ?_
 have C0 : St E0 w X w X [] := St.start hX
 refine zz 2 <| zn pn (.cells #[.int .i64 p0] 3 (0,0)) C0 fun b3 w3 Y3 C3 B3 V3 => zz 5 <| zn pn (.cells #[.nilFunc] 125 (0,0)) C3 fun b5 w5 Y5 C5 B5 V5 => zx 0 #[.func (.func 61) #[] #[]] C5 fun w6 C6 B6 => zz 9 <| zr' (v := .func (.func 90) #[] #[.pointer (some ⟨b5,0,none⟩),.pointer (some ⟨b3,0,none⟩)]) ?_
 have C := St.pubAt 0 C6 rfl
 obtain ⟨Y7,hSx7,B7,hat7,hatN7⟩ := C
 have C7 : St E0 w X w6 Y7 [(b3,.cells #[.int .i64 p0] 3 (0,0))] := hSx7
 have C := St.pubAt 0 C7 rfl
 obtain ⟨Y8,hSx8,B8,hat8,hatN8⟩ := C
 have C8 : St E0 w X w6 Y8 [] := hSx8
 cases hp
 exact ⟨C8.upd,_,rfl,⟨_,_,rfl,(((hatN7 _ (Nat.le_refl _))).mono (Le.or B8 _)).mono Le.orr,(((hatN8 _ (Nat.le_refl _))).mono (Le.or (Le.refl _) _)).mono Le.orr⟩⟩
noncomputable def qK (p0 : Raw) : Option (Int) :=
 (lN p0).bind fun y5 => if ((y5) != 0) = true then (some y5) else (if (p0.ln.length : Int) > 8 then (some 4) else (if (p0.ld.length : Int) > 8 then (some 4) else (some 0)))
include hX in
theorem gG (p0 : Raw) (vp0 : Value) (hp0 : vJ (rd w X) vp0 p0) (y : Int) (hp : qK p0 = some y) : Calls Tryz.prog 63 #[vp0] w (Ret E0 w fun _ v => v = .int .i64 y) := by
 have hVp0 := hp0
 obtain ⟨D1,D2,D3,D4,D5,D6,rfl,p0a_h0,p0a_h1⟩ := hp0
 have C := p0a_h0.hlen
 subst C
 have C := p0a_h1.hlen
 subst C
 unfold qK at hp
 refine zen Tryz.func63 ?_
 have C0 : St E0 w X w X [] := St.start hX
 refine zz 2 <| zn pn (.cells #[.bool p0.neg,.slice D1 p0.ln.length D3,.slice D4 p0.ld.length D6] 28 (0,0)) C0 fun b3 w3 Y3 C3 B3 V3 => zz 6 <| zo 0 C3 <| zQ hp fun y5 hy5 hp => zc C3 (zNa _ X0 (zM _) p0 _ ((hVp0.mono B3).mono Le.x0) y5 hy5) ?_
 rintro v6 w6 C6 B6 V6 rfl
 refine zz 9 <| zb 7 (b := ((y5) != 0)) (fun T7 => ?_) (fun T7 => ?_)
 have hp := ipb T7 hp
 refine zz 9 <| zr' (v := .int .i64 y5) ?_
 cases hp
 exact ⟨C6.upd,_,rfl,rfl⟩
 have hp := iqb T7 hp
 refine zz 7 <| zo 0 C6 <| zz 3 <| zt 13 (p := (p0.ln.length : Int) > 8) (fun Q8 => ?_) (fun Q8 => ?_)
 have hp := ip Q8 hp
 refine zz 15 <| zr' (v := .int .i64 4) ?_
 cases hp
 exact ⟨C6.upd,_,rfl,rfl⟩
 have hp := iq Q8 hp
 refine zz 1 <| zo 0 C6 <| zz 5 <| zt 18 (p := (p0.ld.length : Int) > 8) (fun Q9 => ?_) (fun Q9 => ?_)
 have hp := ip Q9 hp
 refine zz 8 <| zr' (v := .int .i64 4) ?_
 cases hp
 exact ⟨C6.upd,_,rfl,rfl⟩
 have hp := iq Q9 hp
 refine zz 9 <| zr' (v := .int .i64 0) ?_
 cases hp
 exact ⟨C6.upd,_,rfl,rfl⟩
noncomputable def zT (p0 : List zV) (J7 : Raw → Option (Int)) : List zV → Nat → Raw → Option (Int)
 | [],k17,v17_1 => J7 v17_1
 | x17 :: r17,k17,v17_1 => lt ((qK x17.p).bind fun y25 => if ((y25) != 0) = true then (some y25) else (if x17.p.neg = true then (some 1) else (if ((x17.p.ln.length : Int) == 0) = true then (some 1) else ((kH v17_1 x17.p).bind fun y31 => zT p0 J7 r17 (k17 + 1) y31.1)))) fun J23 => (zS (100 : Int)).bind fun y36 => (qO ([x17.delta]) y36).bind fun y40 => if (!y40) = true then (some 1) else (if (k17 : Int) > 0 then ((ix p0 (i64.wrap ((k17 : Int) - 1))).bind fun x45 => if (x17.delta) ≤ x45.delta then (some 16) else (J23)) else (J23))
noncomputable def yF (p0 : List zV) : Option (Int) :=
 if ((p0.length : Int) == 0) = true then (some 3) else (if (p0.length : Int) > 5 then (some 4) else (lt (fun (v7_0 : Raw) => (vV (1 : Int)).bind fun y9 => (mU v7_0 y9).bind fun y12 => if ((y12.1) != 0) = true then (some 2) else (some 0)) fun J7 => zT p0 J7 (p0.drop 0) 0 Raw.zero))
include hX in
theorem aS (p0 : List zV) (vp0 : Value) (hp0 : SV kQ (rd w X) vp0 p0) (y : Int) (hp : yF p0 = some y) : Calls Tryz.prog 62 #[vp0] w (Ret E0 w fun _ v => v = .int .i64 y) := by
 obtain ⟨D1,D2,rfl,p0a_h0⟩ := hp0
 unfold yF at hp
 refine zen Tryz.func62 ?_
 have C0 : St E0 w X w X [] := St.start hX
 refine zz 15 <| zb 9 (b := ((p0.length : Int) == 0)) (fun T2 => ?_) (fun T2 => ?_)
 have hp := ipb T2 hp
 refine zz 9 <| zr' (v := .int .i64 3) ?_
 cases hp
 exact ⟨C0.upd,_,rfl,rfl⟩
 have hp := iqb T2 hp
 refine zz 9 <| zt 13 (p := (p0.length : Int) > 5) (fun Q3 => ?_) (fun Q3 => ?_)
 have hp := ip Q3 hp
 refine zz 9 <| zr' (v := .int .i64 4) ?_
 cases hp
 exact ⟨C0.upd,_,rfl,rfl⟩
 have hp := iq Q3 hp
 refine zz 7 <| zn pn (.cells #[.bool false,.slice none 0 0,.slice none 0 0] 28 (0,0)) C0 fun b5 w5 Y5 C5 B5 V5 => zx 0 #[.bool false,.slice none 0 0,.slice none 0 0] C5 fun w6 C6 B6 => zz 2 ?_
 have C := rQ hp
 obtain ⟨J7,hJ7,hp⟩ := C
 refine yT (fun ((v7_0,a7_0_1,a7_0_2,a7_0_3,a7_0_4) : Raw × (Option Addr) × Nat × (Option Addr) × Nat) => [(3,.pointer (some ⟨b5,0,none⟩))]) (fun (v7_0,a7_0_1,a7_0_2,a7_0_3,a7_0_4) w1 => ∃ Y1 : Hid,St E0 w X w1 Y1 [(b5,.cells #[.bool v7_0.neg,.slice a7_0_1 v7_0.ln.length a7_0_2,.slice a7_0_3 v7_0.ld.length a7_0_4] 28 (0,0))] ∧ Le (rd w6 Y5) (rd w1 Y1) ∧ zL (rd w1 (orN Y1 w.heap.size)) a7_0_1 v7_0.ln.length a7_0_2 v7_0.ln ∧ zL (rd w1 (orN Y1 w.heap.size)) a7_0_3 v7_0.ld.length a7_0_4 v7_0.ld ∧ J7 v7_0 = some y) ?_ ?_
 rintro ⟨v7_0,a7_0_1,a7_0_2,a7_0_3,a7_0_4⟩ w7 ⟨Y7,C7,B7,P7_0_0,P7_0_1,hp⟩
 have hp := (hJ7 _).symm.trans hp
 refine zz 2 <| zdr C7 <| gw 0 0 <| zQ hp fun y9 hy9 hp => gC 1 (fun w8 Y8 _ C8 B8 => (lF _ X0 (zM _) (1 : Int) y9 hy9)) ?_
 rintro v10 w8 Y10 w10 C8 B10 ⟨u10_0_1,u10_0_2,u10_0_3,u10_0_4,u10_0_5,u10_0_6,rfl,u10_0__h0,u10_0__h1⟩
 have C := u10_0__h0.hlen
 subst C
 have C := u10_0__h1.hlen
 subst C
 refine zQ hp fun y12 hy12 hp => gC 2 (fun w11 Y11 _ C11 B11 => (zSh _ X0 (zM _) v7_0 _ ⟨_,_,_,_,_,_,rfl,(((P7_0_0.mono Le.orl).mono (Le2 B10 B11)).mono Le.x0),(((P7_0_1.mono Le.orl).mono (Le2 B10 B11)).mono Le.x0)⟩ y9 _ ⟨_,_,_,_,_,_,rfl,(((u10_0__h0.mono (Le.new C8.lt)).mono B11).mono Le.x0),(((u10_0__h1.mono (Le.new C8.lt)).mono B11).mono Le.x0)⟩ y12 hy12)) ?_
 rintro v13 w11 Y13 w13 C11 B13 rfl
 refine gz [3,4,5,6,7] ?_
 refine yO (fun w14 Y14 C14 B14 => ?_)
 refine zz 7 <| zb 77 (b := ((y12.1) != 0)) (fun T15 => ?_) (fun T15 => ?_)
 have hp := ipb T15 hp
 refine zz 8 <| zr' (v := .int .i64 2) ?_
 cases hp
 exact ⟨C14.upd,_,rfl,rfl⟩
 have hp := iqb T15 hp
 refine zz 9 <| zr' (v := .int .i64 0) ?_
 cases hp
 exact ⟨C14.upd,_,rfl,rfl⟩
 intro K16 H16
 refine zz 8 ?_
 have hb17 : (p0.length : Int) ≤ 9223372036854775807 := rR (p0a_h0).hcap (p0a_h0).hbig
 refine zlp Tryz.f62 [K16] [1,1,1,9,1,0] (fun ((k17,v17_1,a17_1_1,a17_1_2,a17_1_3,a17_1_4) : Nat × Raw × (Option Addr) × Nat × (Option Addr) × Nat) => [(0,.slice D1 p0.length D2),(3,.pointer (some ⟨b5,0,none⟩)),(18,.slice D1 p0.length D2),(19,.int .i64 (p0.length : Int)),(20,.int .i64 (k17 : Int))]) (fun (k17,v17_1,a17_1_1,a17_1_2,a17_1_3,a17_1_4) w1 => ∃ Y1 : Hid,St E0 w X w1 Y1 [(b5,.cells #[.bool v17_1.neg,.slice a17_1_1 v17_1.ln.length a17_1_2,.slice a17_1_3 v17_1.ld.length a17_1_4] 28 (0,0))] ∧ Le (rd w6 Y5) (rd w1 Y1) ∧ zL (rd w1 (orN Y1 w.heap.size)) a17_1_1 v17_1.ln.length a17_1_2 v17_1.ln ∧ zL (rd w1 (orN Y1 w.heap.size)) a17_1_3 v17_1.ld.length a17_1_4 v17_1.ld ∧ zT p0 J7 (p0.drop k17) k17 v17_1 = some y) (fun (k17,v17_1,a17_1_1,a17_1_2,a17_1_3,a17_1_4) => p0.length - k17) (0,Raw.zero,none,0,none,0) ?_ ?_
 exact ⟨_,C6,Le.refl _,zL.nil0,zL.nil0,hp⟩
 rintro ⟨k17,v17_1,a17_1_1,a17_1_2,a17_1_3,a17_1_4⟩ w17 K17 H17 ⟨Y17,C17,B17,P17_1_0,P17_1_1,hp⟩
 refine zz 6 <| zt 21 (p := (k17 : Int) < (p0.length : Int)) (fun Q18 => ?_) (fun Q18 => ?_)
 have C := xK (l := p0) (k := k17) (qR Q18)
 obtain ⟨x17,O17⟩ := C
 rw [wG O17,zT] at hp
 have L17 : (0 : Int) ≤ (k17 : Int) := Int.natCast_nonneg _
 refine zz 8 ?_
 have C := p0a_h0.opn O17
 obtain ⟨be19,oe19,rfl,B19,hEe19⟩ := C
 obtain ⟨e191,e192,e193,e194,e19_at,e19_h0,e19_h1⟩ := hEe19
 refine zi (b := be19) (off := oe19) (len := p0.length) (cap := D2) (kd := .i64) (i := (k17 : Int)) 4 (oe19 + k17 * 4) ?_ (h0 := L17) (h1 := (jS L17 B19))
 refine zl ((e19_at.mono (Le3 B5 B6 B17))).cells <| zn pn (.cells #[.int .i64 0,.bool false,.slice none 0 0,.slice none 0 0] 76 (0,0)) C17 fun b21 w21 Y21 C21 B21 V21 => zz 1 <| zx 0 #[.int .i64 x17.delta,.bool x17.p.neg,.slice e191 x17.p.ln.length e192,.slice e193 x17.p.ld.length e194] C21 fun w22 C22 B22 => zz 2 ?_
 have C := fG hp
 obtain ⟨J23,hJ23,hp⟩ := C
 refine yT (fun (_ : Unit) => [(0,.slice (some ⟨be19,oe19,none⟩) p0.length D2),(3,.pointer (some ⟨b5,0,none⟩)),(5,.pointer (some ⟨b21,0,none⟩)),(18,.slice (some ⟨be19,oe19,none⟩) p0.length D2),(19,.int .i64 (p0.length : Int)),(20,.int .i64 (k17 : Int))]) (fun _ w1 => ∃ Y1 : Hid,St E0 w X w1 Y1 [(b21,.cells #[.int .i64 x17.delta,.bool x17.p.neg,.slice e191 x17.p.ln.length e192,.slice e193 x17.p.ld.length e194] 76 (0,0)),(b5,.cells #[.bool v17_1.neg,.slice a17_1_1 v17_1.ln.length a17_1_2,.slice a17_1_3 v17_1.ld.length a17_1_4] 28 (0,0))] ∧ Le (rd w22 Y21) (rd w1 Y1) ∧ J23 = some y) ?_ ?_
 rintro _ w23 ⟨Y23,C23,B23,hp⟩
 have hp := hJ23.symm.trans hp
 refine zz 4 <| zo 0 C23 ?_
 have T1_ := (Le5 B5 B6 B17 B21 B22).trans B23
 refine zQ hp fun y25 hy25 hp => zc C23 (gG _ X0 (zM _) x17.p _ ⟨_,_,_,_,_,_,rfl,((e19_h0.mono T1_).mono Le.x0),((e19_h1.mono T1_).mono Le.x0)⟩ y25 hy25) ?_
 rintro v26 w26 C26 B26 V26 rfl
 refine zz 9 <| zb 50 (b := ((y25) != 0)) (fun T27 => ?_) (fun T27 => ?_)
 have hp := ipb T27 hp
 refine zz 14 <| zr' (v := .int .i64 y25) ?_
 cases hp
 exact ⟨C26.upd,_,rfl,rfl⟩
 have hp := iqb T27 hp
 refine zz 8 <| zo 0 C26 <| zz 1 <| zb 55 (b := x17.p.neg) (fun T28 => ?_) (fun T28 => ?_)
 have hp := ipb T28 hp
 refine zz 21 <| zr' (v := .int .i64 1) ?_
 cases hp
 exact ⟨C26.upd,_,rfl,rfl⟩
 have hp := iqb T28 hp
 refine zz 2 <| zo 0 C26 <| zz 5 <| zb 61 (b := ((x17.p.ln.length : Int) == 0)) (fun T29 => ?_) (fun T29 => ?_)
 have hp := ipb T29 hp
 refine zz 13 <| zr' (v := .int .i64 1) ?_
 cases hp
 exact ⟨C26.upd,_,rfl,rfl⟩
 have hp := iqb T29 hp
 refine zz 4 <| zo 1 C26 <| zz 1 <| zo 0 C26 ?_
 have T2_ := (Le3 B21 B22 B23).trans B26
 have T3_ := T1_.trans B26
 refine zQ hp fun y31 hy31 hp => zc C26 (dO _ X0 (zM _) v17_1 _ ⟨_,_,_,_,_,_,rfl,(((P17_1_0.mono Le.orl).mono T2_).mono Le.x0),(((P17_1_1.mono Le.orl).mono T2_).mono Le.x0)⟩ x17.p _ ⟨_,_,_,_,_,_,rfl,((e19_h0.mono T3_).mono Le.x0),((e19_h1.mono T3_).mono Le.x0)⟩ y31 hy31) ?_
 rintro v32 w32 C32 B32 V32 ⟨uu32_0,rfl,⟨u32_0_1,u32_0_2,u32_0_3,u32_0_4,u32_0_5,u32_0_6,rfl,u32_0__h0,u32_0__h1⟩⟩
 have C := u32_0__h0.hlen
 subst C
 have C := u32_0__h1.hlen
 subst C
 refine zz 3 <| zx 1 #[.bool y31.1.neg,.slice u32_0_1 y31.1.ln.length u32_0_3,.slice u32_0_4 y31.1.ld.length u32_0_6] C32 fun w33 C33 B33 => zz 5 <| zs 69 (v := .int .i64 (i64.wrap ((k17 : Int) + 1))) (v' := .int .i64 ((k17 : Int) + 1)) (zR (jE (wk0 k17) (wk1 Q18 hb17))) <| zz 2 ?_
 have T4_ := (Le6 B17 B21 B22 B23 B26 B32).trans B33
 refine zP (fun a h => H17 (k17 + 1,y31.1,u32_0_1,u32_0_3,u32_0_4,u32_0_6) _ a h ⟨_,C33.tail,T4_,(u32_0__h0.mono (Le.own C26.lt C26.upd.size B33)),(u32_0__h1.mono (Le.own C26.lt C26.upd.size B33)),hp⟩ ?_)
 exact vK Q18
 intro K34 H34
 refine zz 2 <| zdr C22 <| gz [1] <| gw 2 0 <| gp (al 3 29 (fun b => .slice (some ⟨b,0,none⟩) 1 1) (.cells #[.int .i64 x17.delta] 3 (0,0))) <| zQ hp fun y36 hy36 hp => gC 0 (fun w35 Y35 _ C35 B35 => (wI _ X0 (zM _) (100 : Int) y36 hy36)) ?_ (hPd := rC.nil.k)
 rintro v37 w35 Y37 w37 C35 B37 ⟨u37_0_b0,u37_0_b1,rfl,u37_0_h0,u37_0_h1⟩
 have hAu37_0_b0 : At (rd w37 Y37) ⟨u37_0_b0,0,none⟩ [.func (.func 61) #[] #[]] := (At.mono (Le.new C35.lt) u37_0_h0)
 have hAu37_0_b1 : At (rd w37 Y37) ⟨u37_0_b1,0,none⟩ [.int .i64 y36] := (At.mono (Le.new C35.lt) u37_0_h1)
 refine gs1 (fun b38 => ?_) rC.nil.k
 refine zQ hp fun y40 hy40 hp => gC 4 (vs := #[.slice (some ⟨b38,0,none⟩) 1 1,.pointer (some ⟨u37_0_b0,0,none⟩),.pointer (some ⟨u37_0_b1,0,none⟩)]) (fun w39 Y39 _ C39 B39 => (kT _ X0 (zM _) ([x17.delta]) _ ⟨_,_,rfl,(SlR.lit (El := sG) (size := 1) (n := 1) [⟨(x17.delta : Int),[.int .i64 x17.delta]⟩] (C39.at0 0 rfl rfl) (List.forall_mem_cons.2 ⟨⟨rfl,fun r2 h2 b o h9 => h9⟩,(List.forall_mem_nil _)⟩) rfl (by decide))⟩ _ ((hAu37_0_b0.mono B39).mono Le.x0) y36 _ ((hAu37_0_b1.mono B39).mono Le.x0) y40 hy40)) ?_
 rintro v41 w39 Y41 w41 C39 B41 rfl
 refine gz [5,6] ?_
 refine yO (fun w42 Y42 C42 B42 => ?_)
 refine zz 1 <| zb 25 (b := !y40) (fun T43 => ?_) (fun T43 => ?_)
 have hp := ipb T43 hp
 refine zz 14 <| zr' (v := .int .i64 1) ?_
 cases hp
 exact ⟨C42.upd,_,rfl,rfl⟩
 have hp := iqb T43 hp
 refine zz 2 <| zdr C42 <| gz [0,1,2] <| gt 35 (p := (k17 : Int) > 0) (fun Q44 => ?_) (fun Q44 => ?_)
 have hp := ip Q44 hp
 refine gz [3] <| gw 4 1 <| zQ hp fun x45 hx45 hp => ?_
 have C := jU hx45
 obtain ⟨L45,O45⟩ := C
 have C := p0a_h0.opn2 O45
 obtain ⟨B46,hEe46⟩ := C
 obtain ⟨e461,e462,e463,e464,e46_at,e46_h0,e46_h1⟩ := hEe46
 refine gz [5,6,7] <| gi 8 (b := be19) (off := oe19) (len := p0.length) (cap := D2) (kd := .i64) (i := i64.wrap ((k17 : Int) - 1)) 4 (oe19 + (i64.wrap ((k17 : Int) - 1)).toNat * 4) ?_ (h0 := L45) (h1 := (jS L45 B46))
 have T5_ := (Le7 B5 B6 B17 B21 B22 B37 B41).trans B42
 refine gz [9] <| gl 10 ((e46_at.mono T5_).sub 0 1) <| gz [11,12,13] ?_
 refine yO (fun w47 Y47 C47 B47 => ?_)
 refine zz 1 <| zt 32 (p := (x17.delta) ≤ x45.delta) (fun Q48 => ?_) (fun Q48 => ?_)
 have hp := ip Q48 hp
 refine zz 14 <| zr' (v := .int .i64 16) ?_
 cases hp
 exact ⟨C47.upd,_,rfl,rfl⟩
 have hp := iq Q48 hp
 refine zz 3 ?_
 have T6_ := (Le3 B37 B41 B42).trans B47
 exact zP (fun a h => H34 () _ a h ⟨_,C47.tail,T6_,hp⟩)
 have hp := iq Q44 hp
 refine gz [3,4,5,6,7,8,9,10,11,12,13] ?_
 refine yO (fun w49 Y49 C49 B49 => ?_)
 refine zz 4 ?_
 have T7_ := (Le3 B37 B41 B42).trans B49
 exact zP (fun a h => H34 () _ a h ⟨_,C49.tail,T7_,hp⟩)
 rw [List.drop_eq_nil_of_le (qI Q18),zT] at hp
 refine zz 5 ?_
 exact zP (fun a h => H16 (v17_1,a17_1_1,a17_1_2,a17_1_3,a17_1_4) _ a h ⟨_,C17,B17,(P17_1_0.mono (Le.or (Le.refl _) _)),(P17_1_1.mono (Le.or (Le.refl _) _)),hp⟩)
noncomputable def qA (p0 : zO) (J54 : Option (Int)) : Nat → Nat → Option (Int)
 | 0,k62 => J54
 | r62 + 1,k62 => (ix ([p0.alert,p0.strengthen,p0.reversal]) (k62 : Int)).bind fun x65 => (qK x65).bind fun y71 => if ((y71) != 0) = true then (some y71) else (if x65.neg = true then (some 1) else (qA p0 J54 r62 (k62 + 1)))
noncomputable def zZ (p0 : zO) (J53 : Option (Int)) : Nat → Nat → Option (Int)
 | 0,k78 => J53
 | r78 + 1,k78 => (ix ([p0.ownNoise,p0.otherNoise]) (k78 : Int)).bind fun x81 => (yF x81).bind fun y84 => if ((y84) != 0) = true then (some y84) else (zZ p0 J53 r78 (k78 + 1))
noncomputable def qC (y5 : Int) (J34 : Option (Int)) : List qJ → Option (Int)
 | [] => J34
 | x92 :: r92 => lt (fun (v98_0 : Bool) => if v98_0 = true then (some 6) else (if (x92.lo) > x92.hi then (some 1) else ((qO ([x92.lo,x92.hi]) y5).bind fun y104 => if (!y104) = true then (some 1) else (qC y5 J34 r92 )))) fun J98 => if ((x92.sense) != 1) = true then (J98 ((x92.sense) != 2)) else (J98 false)
noncomputable def qF (p0 : zO) : Option (Int) :=
 (zS (100 : Int)).bind fun y5 => (vO p0).bind fun y8 => (yU y8).bind fun y11 => if ((y11) != 0) = true then (some y11) else ((zS (50000 : Int)).bind fun y15 => (qO p0.height y15).bind fun y18 => if (!y18) = true then (some 1) else ((qO p0.own y5).bind fun y23 => if (!y23) = true then (some 1) else ((qO p0.other y5).bind fun y28 => if (!y28) = true then (some 1) else (if ((p0.advisories.length : Int) == 0) = true then (some 3) else (if (p0.advisories.length : Int) > 6 then (some 4) else (lt ((qL (wU.mk 0 100) ([p0.pull])).bind fun y38 => if (!y38) = true then (some 1) else ((qL (wU.mk 0 50000) ([p0.near])).bind fun y44 => if (!y44) = true then (some 1) else ((qL (wU.mk 0 24) ([p0.steps])).bind fun y50 => if (!y50) = true then (some 1) else (lt (lt ((jK p0).bind fun y56 => if (y56) > 200 then (some 10) else (some 0)) fun J54 => qA p0 J54 ((3 : Int).toNat - 0) 0) fun J53 => zZ p0 J53 ((2 : Int).toNat - 0) 0)))) fun J34 => grd (0 ≤ (1 : Int) ∧ (1 : Int) ≤ (p0.advisories.length : Int) ∧ (p0.advisories.length : Int) ≤ (p0.advisories.length : Int)) <| qC y5 J34 ((p0.advisories.drop 1).drop 0) ))))))
include hX in
theorem vW (p0 : zO) (vp0 : Value) (hp0 : zW (rd w X) vp0 p0) (y : Int) (hp : qF p0 = some y) : Calls Tryz.prog 21 #[vp0] w (Ret E0 w fun _ v => v = .int .i64 y) := by
 have hVp0 := hp0
 refine zW.op hp0 fun D1 D2 D3 D4 D5 D6 D7 D8 D9 D10 D11 D12 D13 D14 D15 D16 D17 D18 D19 D20 D21 D22 D23 D24 hv9 p0a_h0 p0a_h1 p0a_h2 p0a_h3 p0a_h4 p0a_h5 p0a_h6 p0a_h7 p0a_h8 p0a_h9 p0a_h10 p0a_h11 => ?_
 subst hv9
 unfold qF at hp
 refine zen Tryz.func21 ?_
 have C0 : St E0 w X w X [] := St.start hX
 refine zz 2 <| zn pn (.cells (qDr p0 D1 D2 D3 D4 D5 D6 D7 D8 D9 D10 D11 D12 D13 D14 D15 D16 D17 D18 D19 D20 D21 D22 D23 D24) 30 (0,0)) C0 fun b3 w3 Y3 C3 B3 V3 => zz 5 <| zQ hp fun y5 hy5 hp => zc C3 (wI _ X0 (zM _) (100 : Int) y5 hy5) ?_
 rintro v6 w6 C6 B6 V6 ⟨u6_0_b0,u6_0_b1,rfl,u6_0_h0,u6_0_h1⟩
 have hAu6_0_b0 : At (rd w6 Y3) ⟨u6_0_b0,0,none⟩ [.func (.func 61) #[] #[]] := (At.mono (Le.new C3.lt) u6_0_h0)
 have hAu6_0_b1 : At (rd w6 Y3) ⟨u6_0_b1,0,none⟩ [.int .i64 y5] := (At.mono (Le.new C3.lt) u6_0_h1)
 refine zz 6 <| zo 0 C6 <| zQ hp fun y8 hy8 hp => zc C6 (aH _ _ C6.lt p0 _ (hVp0.mono (Le2 B3 B6)) y8 hy8) ?_
 rintro v9 w9 C9 B9 V9 ⟨u9_0_1,u9_0_2,rfl,u9_0__h0⟩
 refine zQ hp fun y11 hy11 hp => zc C9 (zAa _ X0 (zM _) y8 _ ⟨_,_,rfl,(u9_0__h0.mono Le.x0)⟩ y11 hy11) ?_
 rintro v12 w12 C12 B12 V12 rfl
 refine zz 11 <| zb 17 (b := ((y11) != 0)) (fun T13 => ?_) (fun T13 => ?_)
 have hp := ipb T13 hp
 refine zz 10 <| zr' (v := .int .i64 y11) ?_
 cases hp
 exact ⟨C12.upd,_,rfl,rfl⟩
 have hp := iqb T13 hp
 refine zz 2 <| zdr C12 <| gz [1] <| gw 2 0 <| zQ hp fun y15 hy15 hp => gC 0 (fun w14 Y14 _ C14 B14 => (wI _ X0 (zM _) (50000 : Int) y15 hy15)) ?_
 rintro v16 w14 Y16 w16 C14 B16 ⟨u16_0_b0,u16_0_b1,rfl,u16_0_h0,u16_0_h1⟩
 have hAu16_0_b0 : At (rd w16 Y16) ⟨u16_0_b0,0,none⟩ [.func (.func 61) #[] #[]] := (At.mono (Le.new C14.lt) u16_0_h0)
 have hAu16_0_b1 : At (rd w16 Y16) ⟨u16_0_b1,0,none⟩ [.int .i64 y15] := (At.mono (Le.new C14.lt) u16_0_h1)
 have T1_ := (Le4 B3 B6 B9 B12).trans B16
 refine zQ hp fun y18 hy18 hp => gC 3 (fun w17 Y17 _ C17 B17 => (kT _ X0 (zM _) p0.height _ ⟨_,_,rfl,((p0a_h0.mono (T1_.trans B17)).mono Le.x0)⟩ _ ((hAu16_0_b0.mono B17).mono Le.x0) y15 _ ((hAu16_0_b1.mono B17).mono Le.x0) y18 hy18)) ?_
 rintro v19 w17 Y19 w19 C17 B19 rfl
 refine gz [4,5] <| gb 27 (b := !y18) (fun T20 => ?_) (fun T20 => ?_)
 have hp := ipb T20 hp
 refine gz [6,7,8,9,10,11,12,13,14,15,16,17,18,19] ?_
 refine yO (fun w21 Y21 C21 B21 => ?_)
 refine zz 10 <| zr' (v := .int .i64 1) ?_
 cases hp
 exact ⟨C21.upd,_,rfl,rfl⟩
 have hp := iqb T20 hp
 refine gz [6,7] <| gw 8 0 ?_
 have T2_ := T1_.trans B19
 have T3_ := (Le3 B9 B12 B16).trans B19
 refine zQ hp fun y23 hy23 hp => gC 9 (fun w22 Y22 _ C22 B22 => (kT _ X0 (zM _) p0.own _ ⟨_,_,rfl,((p0a_h1.mono (T2_.trans B22)).mono Le.x0)⟩ _ ((hAu6_0_b0.mono (T3_.trans B22)).mono Le.x0) y5 _ ((hAu6_0_b1.mono (T3_.trans B22)).mono Le.x0) y23 hy23)) ?_
 rintro v24 w22 Y24 w24 C22 B24 rfl
 refine gz [10,11,12] <| gb 34 (b := !y23) (fun T25 => ?_) (fun T25 => ?_)
 have hp := ipb T25 hp
 refine gz [13,14,15,16,17,18,19] ?_
 refine yO (fun w26 Y26 C26 B26 => ?_)
 refine zz 10 <| zr' (v := .int .i64 1) ?_
 cases hp
 exact ⟨C26.upd,_,rfl,rfl⟩
 have hp := iqb T25 hp
 refine gz [13,14] <| gw 15 0 ?_
 have T4_ := T2_.trans B24
 have T5_ := T3_.trans B24
 refine zQ hp fun y28 hy28 hp => gC 16 (fun w27 Y27 _ C27 B27 => (kT _ X0 (zM _) p0.other _ ⟨_,_,rfl,((p0a_h2.mono (T4_.trans B27)).mono Le.x0)⟩ _ ((hAu6_0_b0.mono (T5_.trans B27)).mono Le.x0) y5 _ ((hAu6_0_b1.mono (T5_.trans B27)).mono Le.x0) y28 hy28)) ?_
 rintro v29 w27 Y29 w29 C27 B29 rfl
 refine gz [17,18,19] ?_
 refine yO (fun w30 Y30 C30 B30 => ?_)
 refine zz 1 <| zb 21 (b := !y28) (fun T31 => ?_) (fun T31 => ?_)
 have hp := ipb T31 hp
 refine zz 9 <| zr' (v := .int .i64 1) ?_
 cases hp
 exact ⟨C30.upd,_,rfl,rfl⟩
 have hp := iqb T31 hp
 refine zz 4 <| zo 0 C30 <| zz 5 <| zb 41 (b := ((p0.advisories.length : Int) == 0)) (fun T32 => ?_) (fun T32 => ?_)
 have hp := ipb T32 hp
 refine zz 9 <| zr' (v := .int .i64 3) ?_
 cases hp
 exact ⟨C30.upd,_,rfl,rfl⟩
 have hp := iqb T32 hp
 refine zz 4 <| zo 0 C30 <| zz 5 <| zt 46 (p := (p0.advisories.length : Int) > 6) (fun Q33 => ?_) (fun Q33 => ?_)
 have hp := ip Q33 hp
 refine zz 9 <| zr' (v := .int .i64 4) ?_
 cases hp
 exact ⟨C30.upd,_,rfl,rfl⟩
 have hp := iq Q33 hp
 refine zz 4 ?_
 have C := fG hp
 obtain ⟨J34,hJ34,hp⟩ := C
 refine yT (fun (_ : Unit) => [(1,.pointer (some ⟨b3,0,none⟩))]) (fun _ w1 => ∃ Y1 : Hid,St E0 w X w1 Y1 [(b3,.cells (qDr p0 D1 D2 D3 D4 D5 D6 D7 D8 D9 D10 D11 D12 D13 D14 D15 D16 D17 D18 D19 D20 D21 D22 D23 D24) 30 (0,0))] ∧ Le (rd w30 Y30) (rd w1 Y1) ∧ J34 = some y) ?_ ?_
 rintro _ w34 ⟨Y34,C34,B34,hp⟩
 have hp := hJ34.symm.trans hp
 refine zz 5 <| zo 0 C34 <| zn (fun b => .slice (some ⟨b,0,none⟩) 1 1) (.cells #[.int .i64 p0.pull] 3 (0,0)) C34 fun b36 w36 Y36 C36 B36 V36 => zQ hp fun y38 hy38 hp => zc C36 (wL _ X0 (zM _) (wU.mk 0 100) _ rfl ([p0.pull]) _ ⟨_,_,rfl,(SlR.lit (El := sG) (size := 1) (n := 1) [⟨(p0.pull : Int),[.int .i64 p0.pull]⟩] (C36.at0 0 rfl rfl) (List.forall_mem_cons.2 ⟨⟨rfl,fun r2 h2 b o h9 => h9⟩,(List.forall_mem_nil _)⟩) rfl (by decide))⟩ y38 hy38) ?_ (vs := #[.agg #[.int .i64 0,.int .i64 100],.slice (some ⟨b36,0,none⟩) 1 1])
 rintro v39 w39 C39 B39 V39 rfl
 refine zz 2 <| zb 91 (b := !y38) (fun T40 => ?_) (fun T40 => ?_)
 have hp := ipb T40 hp
 refine zz 25 <| zr' (v := .int .i64 1) ?_
 cases hp
 exact ⟨C39.upd,_,rfl,rfl⟩
 have hp := iqb T40 hp
 refine zz 2 <| zo 1 C39 <| zn (fun b => .slice (some ⟨b,0,none⟩) 1 1) (.cells #[.int .i64 p0.near] 3 (0,0)) C39 fun b42 w42 Y42 C42 B42 V42 => zQ hp fun y44 hy44 hp => zc C42 (wL _ X0 (zM _) (wU.mk 0 50000) _ rfl ([p0.near]) _ ⟨_,_,rfl,(SlR.lit (El := sG) (size := 1) (n := 1) [⟨(p0.near : Int),[.int .i64 p0.near]⟩] (C42.at0 0 rfl rfl) (List.forall_mem_cons.2 ⟨⟨rfl,fun r2 h2 b o h9 => h9⟩,(List.forall_mem_nil _)⟩) rfl (by decide))⟩ y44 hy44) ?_ (vs := #[.agg #[.int .i64 0,.int .i64 50000],.slice (some ⟨b42,0,none⟩) 1 1])
 rintro v45 w45 C45 B45 V45 rfl
 refine zz 3 <| zb 99 (b := !y44) (fun T46 => ?_) (fun T46 => ?_)
 have hp := ipb T46 hp
 refine zz 17 <| zr' (v := .int .i64 1) ?_
 cases hp
 exact ⟨C45.upd,_,rfl,rfl⟩
 have hp := iqb T46 hp
 refine zz 2 <| zo 2 C45 <| zn (fun b => .slice (some ⟨b,0,none⟩) 1 1) (.cells #[.int .i64 p0.steps] 3 (0,0)) C45 fun b48 w48 Y48 C48 B48 V48 => zQ hp fun y50 hy50 hp => zc C48 (wL _ X0 (zM _) (wU.mk 0 24) _ rfl ([p0.steps]) _ ⟨_,_,rfl,(SlR.lit (El := sG) (size := 1) (n := 1) [⟨(p0.steps : Int),[.int .i64 p0.steps]⟩] (C48.at0 0 rfl rfl) (List.forall_mem_cons.2 ⟨⟨rfl,fun r2 h2 b o h9 => h9⟩,(List.forall_mem_nil _)⟩) rfl (by decide))⟩ y50 hy50) ?_ (vs := #[.agg #[.int .i64 0,.int .i64 24],.slice (some ⟨b48,0,none⟩) 1 1])
 rintro v51 w51 C51 B51 V51 rfl
 refine zz 4 <| zb 106 (b := !y50) (fun T52 => ?_) (fun T52 => ?_)
 have hp := ipb T52 hp
 refine zz 8 <| zr' (v := .int .i64 1) ?_
 cases hp
 exact ⟨C51.upd,_,rfl,rfl⟩
 have hp := iqb T52 hp
 refine zz 3 ?_
 have C := fG hp
 obtain ⟨J53,hJ53,hp⟩ := C
 refine yT (fun (_ : Unit) => [(1,.pointer (some ⟨b3,0,none⟩))]) (fun _ w1 => ∃ Y1 : Hid,St E0 w X w1 Y1 [(b48,.cells #[.int .i64 p0.steps] 3 (0,0)),(b42,.cells #[.int .i64 p0.near] 3 (0,0)),(b36,.cells #[.int .i64 p0.pull] 3 (0,0)),(b3,.cells (qDr p0 D1 D2 D3 D4 D5 D6 D7 D8 D9 D10 D11 D12 D13 D14 D15 D16 D17 D18 D19 D20 D21 D22 D23 D24) 30 (0,0))] ∧ Le (rd w51 Y48) (rd w1 Y1) ∧ J53 = some y) ?_ ?_
 rintro _ w53 ⟨Y53,C53,B53,hp⟩
 have hp := hJ53.symm.trans hp
 have C := fG hp
 obtain ⟨J54,hJ54,hp⟩ := C
 refine yT (fun (_ : Unit) => [(1,.pointer (some ⟨b3,0,none⟩))]) (fun _ w1 => ∃ Y1 : Hid,St E0 w X w1 Y1 [(b48,.cells #[.int .i64 p0.steps] 3 (0,0)),(b42,.cells #[.int .i64 p0.near] 3 (0,0)),(b36,.cells #[.int .i64 p0.pull] 3 (0,0)),(b3,.cells (qDr p0 D1 D2 D3 D4 D5 D6 D7 D8 D9 D10 D11 D12 D13 D14 D15 D16 D17 D18 D19 D20 D21 D22 D23 D24) 30 (0,0))] ∧ Le (rd w53 Y53) (rd w1 Y1) ∧ J54 = some y) ?_ ?_
 rintro _ w54 ⟨Y54,C54,B54,hp⟩
 have hp := hJ54.symm.trans hp
 refine zz 3 <| zo 3 C54 ?_
 have T6_ := ((((((((((T4_.trans B29).trans B30).trans B34).trans B36).trans B39).trans B42).trans B45).trans B48).trans B51).trans B53).trans B54
 refine zQ hp fun y56 hy56 hp => zc C54 (sZ _ X0 (zM _) p0 _ ((hVp0.mono T6_).mono Le.x0) y56 hy56) ?_
 rintro v57 w57 C57 B57 V57 rfl
 refine zz 3 <| zt 145 (p := (y56) > 200) (fun Q58 => ?_) (fun Q58 => ?_)
 have hp := ip Q58 hp
 refine zz 8 <| zr' (v := .int .i64 10) ?_
 cases hp
 exact ⟨C57.upd,_,rfl,rfl⟩
 have hp := iq Q58 hp
 refine zz 9 <| zr' (v := .int .i64 0) ?_
 cases hp
 exact ⟨C57.upd,_,rfl,rfl⟩
 intro K59 H59
 refine zz 3 <| zo 3 C53 <| zz 1 <| zo 3 C53 <| zz 1 <| zo 3 C53 <| zn (fun b => .slice (some ⟨b,0,none⟩) 3 3) (.cells #[.bool p0.alert.neg,.slice D13 p0.alert.ln.length D14,.slice D15 p0.alert.ld.length D16,.bool p0.strengthen.neg,.slice D17 p0.strengthen.ln.length D18,.slice D19 p0.strengthen.ld.length D20,.bool p0.reversal.neg,.slice D21 p0.reversal.ln.length D22,.slice D23 p0.reversal.ld.length D24] 28 (0,0)) C53 fun b61 w61 Y61 C61 B61 V61 => zz 5 ?_
 have C := St.pubAt 0 C61 rfl
 obtain ⟨Y63,hSx63,B63,hat63,hatN63⟩ := C
 have C63 : St E0 w X w61 Y63 [(b48,.cells #[.int .i64 p0.steps] 3 (0,0)),(b42,.cells #[.int .i64 p0.near] 3 (0,0)),(b36,.cells #[.int .i64 p0.pull] 3 (0,0)),(b3,.cells (qDr p0 D1 D2 D3 D4 D5 D6 D7 D8 D9 D10 D11 D12 D13 D14 D15 D16 D17 D18 D19 D20 D21 D22 D23 D24) 30 (0,0))] := hSx63
 have T7_ := (((((((((((T4_.trans B29).trans B30).trans B34).trans B36).trans B39).trans B42).trans B45).trans B48).trans B51).trans B53).trans B61).trans B63
 have hR63 : nO (rd w61 Y63) (some ⟨b61,0,none⟩) 3 3 [p0.alert,p0.strengthen,p0.reversal] := (nO.ofSl (SlR.lit (El := aJ) (size := 3) (n := 3) [⟨p0.alert,[.bool p0.alert.neg,.slice D13 p0.alert.ln.length D14,.slice D15 p0.alert.ld.length D16]⟩,⟨p0.strengthen,[.bool p0.strengthen.neg,.slice D17 p0.strengthen.ln.length D18,.slice D19 p0.strengthen.ld.length D20]⟩,⟨p0.reversal,[.bool p0.reversal.neg,.slice D21 p0.reversal.ln.length D22,.slice D23 p0.reversal.ld.length D24]⟩] hat63 (List.forall_mem_cons.2 ⟨⟨rfl,fun r2 h2 b o h9 => ⟨_,_,_,_,_,_,h9,((p0a_h6.mono T7_).mono h2),((p0a_h7.mono T7_).mono h2)⟩⟩,(List.forall_mem_cons.2 ⟨⟨rfl,fun r2 h2 b o h9 => ⟨_,_,_,_,_,_,h9,((p0a_h8.mono T7_).mono h2),((p0a_h9.mono T7_).mono h2)⟩⟩,(List.forall_mem_cons.2 ⟨⟨rfl,fun r2 h2 b o h9 => ⟨_,_,_,_,_,_,h9,((p0a_h10.mono T7_).mono h2),((p0a_h11.mono T7_).mono h2)⟩⟩,(List.forall_mem_nil _)⟩)⟩)⟩) rfl (by decide)))
 refine zlp Tryz.f21 [K59] [1,1,1,1,1,1,9,1,0] (fun (k62 : Nat) => [(1,.pointer (some ⟨b3,0,none⟩)),(129,.slice (some ⟨b61,0,none⟩) 3 3),(130,.int .i64 3),(131,.int .i64 (k62 : Int))]) (fun k62 w1 => ∃ Y1 : Hid,St E0 w X w1 Y1 [(b48,.cells #[.int .i64 p0.steps] 3 (0,0)),(b42,.cells #[.int .i64 p0.near] 3 (0,0)),(b36,.cells #[.int .i64 p0.pull] 3 (0,0)),(b3,.cells (qDr p0 D1 D2 D3 D4 D5 D6 D7 D8 D9 D10 D11 D12 D13 D14 D15 D16 D17 D18 D19 D20 D21 D22 D23 D24) 30 (0,0))] ∧ Le (rd w61 Y63) (rd w1 Y1) ∧ qA p0 J54 ((3 : Int).toNat - k62) k62 = some y) (fun k62 => (3 : Int).toNat - k62) 0 ?_ ?_
 exact ⟨_,C63,Le.refl _,hp⟩
 rintro k62 w62 K62 H62 ⟨Y62,C62,B62,hp⟩
 refine zz 6 <| zt 132 (p := (k62 : Int) < 3) (fun Q64 => ?_) (fun Q64 => ?_)
 have C := dG (N := (3 : Int)) (k := k62) Q64
 obtain ⟨r62,hm62,hn62⟩ := C
 rw [hm62,qA] at hp
 refine zz 7 <| zQ hp fun x65 hx65 hp => ?_
 have C := jU hx65
 obtain ⟨L65,O65⟩ := C
 have hwx65 : ([p0.alert,p0.strengthen,p0.reversal])[k62]? = some x65 := O65
 have C := hR63.sl.opn2 hwx65
 obtain ⟨B66,hEe66⟩ := C
 obtain ⟨e661,e662,e663,e664,e665,e666,e66_at,e66_h0,e66_h1⟩ := hEe66
 have C := e66_h0.hlen
 subst C
 have C := e66_h1.hlen
 subst C
 refine zi (b := b61) (off := 0) (len := 3) (cap := 3) (kd := .i64) (i := (k62 : Int)) 3 (0 + k62 * 3) ?_ (h0 := L65) (h1 := (jS L65 B66))
 refine zl ((e66_at.mono B62)).cells <| zn pn (.cells #[.bool false,.slice none 0 0,.slice none 0 0] 28 (0,0)) C62 fun b68 w68 Y68 C68 B68 V68 => zx 0 #[.bool x65.neg,.slice e661 x65.ln.length e663,.slice e664 x65.ld.length e666] C68 fun w69 C69 B69 => zz 5 <| zo 0 C69 <| zQ hp fun y71 hy71 hp => zc C69 (gG _ X0 (zM _) x65 _ ⟨_,_,_,_,_,_,rfl,((e66_h0.mono (Le3 B62 B68 B69)).mono Le.x0),((e66_h1.mono (Le3 B62 B68 B69)).mono Le.x0)⟩ y71 hy71) ?_
 rintro v72 w72 C72 B72 V72 rfl
 refine zz 9 <| zb 138 (b := ((y71) != 0)) (fun T73 => ?_) (fun T73 => ?_)
 have hp := ipb T73 hp
 refine zz 14 <| zr' (v := .int .i64 y71) ?_
 cases hp
 exact ⟨C72.upd,_,rfl,rfl⟩
 have hp := iqb T73 hp
 refine zz 6 <| zo 0 C72 <| zz 2 <| zb 141 (b := x65.neg) (fun T74 => ?_) (fun T74 => ?_)
 have hp := ipb T74 hp
 refine zz 12 <| zr' (v := .int .i64 1) ?_
 cases hp
 exact ⟨C72.upd,_,rfl,rfl⟩
 have hp := iqb T74 hp
 refine zz 6 <| zs 142 (v := .int .i64 (i64.wrap ((k62 : Int) + 1))) (v' := .int .i64 ((k62 : Int) + 1)) (zR (jE (wk0 k62) (wk1 Q64 (by decide)))) <| zz 2 ?_
 have T8_ := (Le3 B62 B68 B69).trans B72
 refine zP (fun a h => H62 (k62 + 1) _ a h ⟨_,C72.tail,T8_,(by rw [hn62]; exact hp)⟩ ?_)
 exact lD Q64
 rw [fV (N := (3 : Int)) Q64,qA] at hp
 refine zz 5 ?_
 exact zP (fun a h => H59 () _ a h ⟨_,C62,(Le3 B61 B63 B62),hp⟩)
 intro K75 H75
 refine zz 3 <| zo 3 C51 <| zz 1 <| zo 3 C51 <| zn (fun b => .slice (some ⟨b,0,none⟩) 2 2) (.cells #[.slice D9 p0.ownNoise.length D10,.slice D11 p0.otherNoise.length D12] 24 (0,0)) C51 fun b77 w77 Y77 C77 B77 V77 => zz 5 ?_
 have C := St.pubAt 0 C77 rfl
 obtain ⟨Y79,hSx79,B79,hat79,hatN79⟩ := C
 have C79 : St E0 w X w77 Y79 [(b48,.cells #[.int .i64 p0.steps] 3 (0,0)),(b42,.cells #[.int .i64 p0.near] 3 (0,0)),(b36,.cells #[.int .i64 p0.pull] 3 (0,0)),(b3,.cells (qDr p0 D1 D2 D3 D4 D5 D6 D7 D8 D9 D10 D11 D12 D13 D14 D15 D16 D17 D18 D19 D20 D21 D22 D23 D24) 30 (0,0))] := hSx79
 have T9_ := ((((((((((T4_.trans B29).trans B30).trans B34).trans B36).trans B39).trans B42).trans B45).trans B48).trans B51).trans B77).trans B79
 have hR79 : zDp (rd w77 Y79) (some ⟨b77,0,none⟩) 2 2 [p0.ownNoise,p0.otherNoise] := (SlR.lit (El := mX) (size := 1) (n := 2) [⟨p0.ownNoise,[.slice D9 p0.ownNoise.length D10]⟩,⟨p0.otherNoise,[.slice D11 p0.otherNoise.length D12]⟩] hat79 (List.forall_mem_cons.2 ⟨⟨rfl,fun r2 h2 b o h9 => ⟨_,_,h9,((p0a_h4.mono T9_).mono h2)⟩⟩,(List.forall_mem_cons.2 ⟨⟨rfl,fun r2 h2 b o h9 => ⟨_,_,h9,((p0a_h5.mono T9_).mono h2)⟩⟩,(List.forall_mem_nil _)⟩)⟩) rfl (by decide))
 refine zlp Tryz.f21 [K75] [1,1,1,1,1,9,1,0] (fun (k78 : Nat) => [(1,.pointer (some ⟨b3,0,none⟩)),(111,.slice (some ⟨b77,0,none⟩) 2 2),(112,.int .i64 2),(113,.int .i64 (k78 : Int))]) (fun k78 w1 => ∃ Y1 : Hid,St E0 w X w1 Y1 [(b48,.cells #[.int .i64 p0.steps] 3 (0,0)),(b42,.cells #[.int .i64 p0.near] 3 (0,0)),(b36,.cells #[.int .i64 p0.pull] 3 (0,0)),(b3,.cells (qDr p0 D1 D2 D3 D4 D5 D6 D7 D8 D9 D10 D11 D12 D13 D14 D15 D16 D17 D18 D19 D20 D21 D22 D23 D24) 30 (0,0))] ∧ Le (rd w77 Y79) (rd w1 Y1) ∧ zZ p0 J53 ((2 : Int).toNat - k78) k78 = some y) (fun k78 => (2 : Int).toNat - k78) 0 ?_ ?_
 exact ⟨_,C79,Le.refl _,hp⟩
 rintro k78 w78 K78 H78 ⟨Y78,C78,B78,hp⟩
 refine zz 6 <| zt 114 (p := (k78 : Int) < 2) (fun Q80 => ?_) (fun Q80 => ?_)
 have C := dG (N := (2 : Int)) (k := k78) Q80
 obtain ⟨r78,hm78,hn78⟩ := C
 rw [hm78,zZ] at hp
 refine zz 7 <| zQ hp fun x81 hx81 hp => ?_
 have C := jU hx81
 obtain ⟨L81,O81⟩ := C
 have hwx81 : ([p0.ownNoise,p0.otherNoise])[k78]? = some x81 := O81
 have C := hR79.opn2 hwx81
 obtain ⟨B82,hEe82⟩ := C
 obtain ⟨e821,e822,e82_at,e82_h0⟩ := hEe82
 refine zi (b := b77) (off := 0) (len := 2) (cap := 2) (kd := .i64) (i := (k78 : Int)) 1 (0 + k78 * 1) ?_ (h0 := L81) (h1 := (jS L81 B82))
 refine zl ((e82_at.mono B78)).cells <| zz 6 <| zQ hp fun y84 hy84 hp => zc C78 (aS _ X0 (zM _) x81 _ ⟨_,_,rfl,((e82_h0.mono B78).mono Le.x0)⟩ y84 hy84) ?_
 rintro v85 w85 C85 B85 V85 rfl
 refine zz 9 <| zb 120 (b := ((y84) != 0)) (fun T86 => ?_) (fun T86 => ?_)
 have hp := ipb T86 hp
 refine zz 13 <| zr' (v := .int .i64 y84) ?_
 cases hp
 exact ⟨C85.upd,_,rfl,rfl⟩
 have hp := iqb T86 hp
 refine zz 6 <| zs 122 (v := .int .i64 (i64.wrap ((k78 : Int) + 1))) (v' := .int .i64 ((k78 : Int) + 1)) (zR (jE (wk0 k78) (wk1 Q80 (by decide)))) <| zz 2 <| zP (fun a h => H78 (k78 + 1) _ a h ⟨_,C85,(Le2 B78 B85),(by rw [hn78]; exact hp)⟩ ?_)
 exact lD Q80
 rw [fV (N := (2 : Int)) Q80,zZ] at hp
 refine zz 5 ?_
 exact zP (fun a h => H75 () _ a h ⟨_,C78,(Le3 B77 B79 B78),hp⟩)
 intro K87 H87
 refine zz 3 <| zo 0 C30 ?_
 have C := nC hp
 obtain ⟨hg89,hp⟩ := C
 have C := SlR.cutN (k := 1) (n := p0.advisories.length) (p0a_h3) (qCo hg89) (Nat.le_refl _)
 obtain ⟨ad90,cap90,hcu90,hsl90⟩ := C
 have hpe90 : ((p0.advisories.take p0.advisories.length).drop 1) = (p0.advisories.drop 1) := by simp
 rw [hpe90] at hsl90 hcu90
 have hsf90 : wC (rd w X) ad90 (p0.advisories.drop 1).length cap90 (p0.advisories.drop 1) := hsl90
 refine zop (at1 [K87] Tryz.f21 [1,1,1,9,0]) 2 (fun a88 _ G88 hz88 => zF (d := 53) (v := .slice ad90 ((p0.advisories.drop 1).length) cap90) G88 kr (zOx (kd := .i64) (i := 1) (t := 23) (e := 96) (g := true) (m := 3) (ad := D7) (len := p0.advisories.length) (cap := D8) hcu90 rfl kr kr kr kr hg89.1 hg89.2.1 rfl _) ?_)
 intro a91 G91
 refine hz88 G91 <| zz 5 ?_
 have hb92 : ((p0.advisories.drop 1).length : Int) ≤ 9223372036854775807 := rR (hsf90).hcap (hsf90).hbig
 refine zlp Tryz.f21 [K87] [1,1,1,9,1,0] (fun (k92 : Nat) => [(1,.pointer (some ⟨b3,0,none⟩)),(3,.func (.func 90) #[] #[.pointer (some ⟨u6_0_b0,0,none⟩),.pointer (some ⟨u6_0_b1,0,none⟩)]),(53,.slice ad90 ((p0.advisories.drop 1).length) cap90),(54,.int .i64 ((p0.advisories.drop 1).length : Int)),(55,.int .i64 (k92 : Int))]) (fun k92 w1 => ∃ Y1 : Hid,St E0 w X w1 Y1 [(b3,.cells (qDr p0 D1 D2 D3 D4 D5 D6 D7 D8 D9 D10 D11 D12 D13 D14 D15 D16 D17 D18 D19 D20 D21 D22 D23 D24) 30 (0,0))] ∧ Le (rd w30 Y30) (rd w1 Y1) ∧ qC y5 J34 ((p0.advisories.drop 1).drop k92)  = some y) (fun k92 => (p0.advisories.drop 1).length - k92) 0 ?_ ?_
 exact ⟨_,C30,Le.refl _,hp⟩
 rintro k92 w92 K92 H92 ⟨Y92,C92,B92,hp⟩
 refine zz 6 <| zt 56 (p := (k92 : Int) < ((p0.advisories.drop 1).length : Int)) (fun Q93 => ?_) (fun Q93 => ?_)
 have C := xK (l := (p0.advisories.drop 1)) (k := k92) (qR Q93)
 obtain ⟨x92,O92⟩ := C
 rw [wG O92,qC] at hp
 have L92 : (0 : Int) ≤ (k92 : Int) := Int.natCast_nonneg _
 refine zz 7 ?_
 have C := hsf90.opn O92
 obtain ⟨be94,oe94,rfl,B94,hEe94⟩ := C
 have e94_at : At (rd w X) ⟨be94,oe94 + k92 * 3,none⟩ [.int .u8 x92.sense,.int .i64 x92.lo,.int .i64 x92.hi] := hEe94
 refine zi (b := be94) (off := oe94) (len := (p0.advisories.drop 1).length) (cap := cap90) (kd := .i64) (i := (k92 : Int)) 3 (oe94 + k92 * 3) ?_ (h0 := L92) (h1 := (jS L92 B94))
 have T10_ := ((T4_.trans B29).trans B30).trans B92
 refine zl ((e94_at.mono T10_)).cells <| zn pn (.cells #[.int .u8 0,.int .i64 0,.int .i64 0] 96 (0,0)) C92 fun b96 w96 Y96 C96 B96 V96 => zx 0 #[.int .u8 x92.sense,.int .i64 x92.lo,.int .i64 x92.hi] C96 fun w97 C97 B97 => zz 3 ?_
 have C := rQ hp
 obtain ⟨J98,hJ98,hp⟩ := C
 refine yT (fun (v98_0 : Bool) => [(59,.bool v98_0),(1,.pointer (some ⟨b3,0,none⟩)),(3,.func (.func 90) #[] #[.pointer (some ⟨u6_0_b0,0,none⟩),.pointer (some ⟨u6_0_b1,0,none⟩)]),(6,.pointer (some ⟨b96,0,none⟩)),(53,.slice (some ⟨be94,oe94,none⟩) ((p0.advisories.drop 1).length) cap90),(54,.int .i64 ((p0.advisories.drop 1).length : Int)),(55,.int .i64 (k92 : Int))]) (fun v98_0 w1 => ∃ Y1 : Hid,St E0 w X w1 Y1 [(b96,.cells #[.int .u8 x92.sense,.int .i64 x92.lo,.int .i64 x92.hi] 96 (0,0)),(b3,.cells (qDr p0 D1 D2 D3 D4 D5 D6 D7 D8 D9 D10 D11 D12 D13 D14 D15 D16 D17 D18 D19 D20 D21 D22 D23 D24) 30 (0,0))] ∧ Le (rd w97 Y96) (rd w1 Y1) ∧ J98 v98_0 = some y) ?_ ?_
 rintro v98_0 w98 ⟨Y98,C98,B98,hp⟩
 have hp := (hJ98 _).symm.trans hp
 refine zb 59 (b := v98_0) (fun T99 => ?_) (fun T99 => ?_)
 have hp := ipb T99 hp
 refine zz 13 <| zr' (v := .int .i64 6) ?_
 cases hp
 exact ⟨C98.upd,_,rfl,rfl⟩
 have hp := iqb T99 hp
 refine zz 4 <| zo 0 C98 <| zz 1 <| zo 0 C98 <| zz 2 <| zt 74 (p := (x92.lo) > x92.hi) (fun Q100 => ?_) (fun Q100 => ?_)
 have hp := ip Q100 hp
 refine zz 25 <| zr' (v := .int .i64 1) ?_
 cases hp
 exact ⟨C98.upd,_,rfl,rfl⟩
 have hp := iq Q100 hp
 refine zz 2 <| zo 0 C98 <| zz 1 <| zo 0 C98 <| zn (fun b => .slice (some ⟨b,0,none⟩) 2 2) (.cells #[.int .i64 x92.lo,.int .i64 x92.hi] 3 (0,0)) C98 fun b102 w102 Y102 C102 B102 V102 => ?_
 have T11_ := ((((((T5_.trans B29).trans B30).trans B92).trans B96).trans B97).trans B98).trans B102
 refine zQ hp fun y104 hy104 hp => zc C102 (kT _ X0 (zM _) ([x92.lo,x92.hi]) _ ⟨_,_,rfl,(SlR.lit (El := sG) (size := 1) (n := 2) [⟨(x92.lo : Int),[.int .i64 x92.lo]⟩,⟨(x92.hi : Int),[.int .i64 x92.hi]⟩] (C102.at0 0 rfl rfl) (List.forall_mem_cons.2 ⟨⟨rfl,fun r2 h2 b o h9 => h9⟩,(List.forall_mem_cons.2 ⟨⟨rfl,fun r2 h2 b o h9 => h9⟩,(List.forall_mem_nil _)⟩)⟩) rfl (by decide))⟩ _ ((hAu6_0_b0.mono T11_).mono Le.x0) y5 _ ((hAu6_0_b1.mono T11_).mono Le.x0) y104 hy104) ?_ (vs := #[.slice (some ⟨b102,0,none⟩) 2 2,.pointer (some ⟨u6_0_b0,0,none⟩),.pointer (some ⟨u6_0_b1,0,none⟩)])
 rintro v105 w105 C105 B105 V105 rfl
 refine zz 5 <| zb 68 (b := !y104) (fun T106 => ?_) (fun T106 => ?_)
 have hp := ipb T106 hp
 refine zz 13 <| zr' (v := .int .i64 1) ?_
 cases hp
 exact ⟨C105.upd,_,rfl,rfl⟩
 have hp := iqb T106 hp
 refine zz 7 <| zs 84 (v := .int .i64 (i64.wrap ((k92 : Int) + 1))) (v' := .int .i64 ((k92 : Int) + 1)) (zR (jE (wk0 k92) (wk1 Q93 hb92))) <| zz 2 ?_
 have T12_ := (Le5 B92 B96 B97 B98 B102).trans B105
 refine zP (fun a h => H92 (k92 + 1) _ a h ⟨_,C105.tail.tail,T12_,hp⟩ ?_)
 exact vK Q93
 intro K107 H107
 refine zz 2 <| zo 0 C97 <| zz 2 <| zb 63 (b := ((x92.sense) != 1)) (fun T108 => ?_) (fun T108 => ?_)
 have hp := ipb T108 hp
 refine zz 1 <| zo 0 C97 <| zz 4 ?_
 exact zP (fun a h => H107 ((x92.sense) != 2) _ a h ⟨_,C97,(Le.refl _),hp⟩)
 have hp := iqb T108 hp
 refine zz 6 ?_
 exact zP (fun a h => H107 false _ a h ⟨_,C97,(Le.refl _),hp⟩)
 rw [List.drop_eq_nil_of_le (qI Q93),qC] at hp
 refine zz 5 ?_
 exact zP (fun a h => H87 () _ a h ⟨_,C92,B92,hp⟩)
end
section
variable (w : World) (X : Hid) (hX : ∀ k o,X k o → k < w.heap.size)
set_option maxHeartbeats 1000000
noncomputable def yN (p0 : zO) (p1 : List Int) : Option (Int) :=
 (qF p0).bind fun y5 => if ((y5) != 0) = true then (some y5) else ((qL (wU.mk 0 (i64.wrap ((p0.advisories.length : Int) - 1))) p1).bind fun y9 => if (!y9) = true then (some 8) else (some 0))
include hX in
theorem pE (p0 : zO) (vp0 : Value) (hp0 : zW (rd w X) vp0 p0) (p1 : List Int) (vp1 : Value) (hp1 : SV wK (rd w X) vp1 p1) (y : Int) (hp : yN p0 p1 = some y) : Calls Tryz.prog 53 #[vp0,vp1] w (Ret E0 w fun _ v => v = .int .i64 y) := by
 have hVp0 := hp0
 refine zW.op hp0 fun D1 D2 D3 D4 D5 D6 D7 D8 D9 D10 D11 D12 D13 D14 D15 D16 D17 D18 D19 D20 D21 D22 D23 D24 hv9 p0a_h0 p0a_h1 p0a_h2 p0a_h3 p0a_h4 p0a_h5 p0a_h6 p0a_h7 p0a_h8 p0a_h9 p0a_h10 p0a_h11 => ?_
 subst hv9
 obtain ⟨p1a1,p1a2,rfl,p1a_h0⟩ := hp1
 unfold yN at hp
 refine zen Tryz.func53 ?_
 have C0 : St E0 w X w X [] := St.start hX
 refine zz 2 <| zn pn (.cells (qDr p0 D1 D2 D3 D4 D5 D6 D7 D8 D9 D10 D11 D12 D13 D14 D15 D16 D17 D18 D19 D20 D21 D22 D23 D24) 30 (0,0)) C0 fun b3 w3 Y3 C3 B3 V3 => zz 6 <| zo 0 C3 <| zQ hp fun y5 hy5 hp => zc C3 (vW _ X0 (zM _) p0 _ ((hVp0.mono B3).mono Le.x0) y5 hy5) ?_
 rintro v6 w6 C6 B6 V6 rfl
 refine zz 9 <| zb 9 (b := ((y5) != 0)) (fun T7 => ?_) (fun T7 => ?_)
 have hp := ipb T7 hp
 refine zz 9 <| zr' (v := .int .i64 y5) ?_
 cases hp
 exact ⟨C6.upd,_,rfl,rfl⟩
 have hp := iqb T7 hp
 refine zz 7 <| zo 0 C6 <| zz 4 <| zQ hp fun y9 hy9 hp => zc C6 (wL _ X0 (zM _) (wU.mk 0 (i64.wrap ((p0.advisories.length : Int) - 1))) _ rfl p1 _ ⟨_,_,rfl,((p1a_h0.mono (Le2 B3 B6)).mono Le.x0)⟩ y9 hy9) ?_
 rintro v10 w10 C10 B10 V10 rfl
 refine zz 3 <| zb 18 (b := !y9) (fun T11 => ?_) (fun T11 => ?_)
 have hp := ipb T11 hp
 refine zz 8 <| zr' (v := .int .i64 8) ?_
 cases hp
 exact ⟨C10.upd,_,rfl,rfl⟩
 have hp := iqb T11 hp
 refine zz 9 <| zr' (v := .int .i64 0) ?_
 cases hp
 exact ⟨C10.upd,_,rfl,rfl⟩
noncomputable def xY (p0 : zO) : Option (Int × Int) :=
 (qF p0).bind fun y5 => if ((y5) != 0) = true then (some (0,y5)) else ((jK p0).bind fun y9 => some (y9,0))
include hX in
theorem aM (p0 : zO) (vp0 : Value) (hp0 : zW (rd w X) vp0 p0) (y : Int × Int) (hp : xY p0 = some y) : Calls Tryz.prog 15 #[vp0] w (Ret E0 w fun _ v => v = .tuple #[.int .i64 y.1,.int .i64 y.2]) := by
 have hVp0 := hp0
 refine zW.op hp0 fun D1 D2 D3 D4 D5 D6 D7 D8 D9 D10 D11 D12 D13 D14 D15 D16 D17 D18 D19 D20 D21 D22 D23 D24 hv9 p0a_h0 p0a_h1 p0a_h2 p0a_h3 p0a_h4 p0a_h5 p0a_h6 p0a_h7 p0a_h8 p0a_h9 p0a_h10 p0a_h11 => ?_
 subst hv9
 unfold xY at hp
 refine zen Tryz.func15 ?_
 have C0 : St E0 w X w X [] := St.start hX
 refine zz 2 <| zn pn (.cells (qDr p0 D1 D2 D3 D4 D5 D6 D7 D8 D9 D10 D11 D12 D13 D14 D15 D16 D17 D18 D19 D20 D21 D22 D23 D24) 30 (0,0)) C0 fun b3 w3 Y3 C3 B3 V3 => zz 7 <| zo 0 C3 <| zQ hp fun y5 hy5 hp => zc C3 (vW _ X0 (zM _) p0 _ ((hVp0.mono B3).mono Le.x0) y5 hy5) ?_
 rintro v6 w6 C6 B6 V6 rfl
 refine zz 9 <| zb 8 (b := ((y5) != 0)) (fun T7 => ?_) (fun T7 => ?_)
 have hp := ipb T7 hp
 refine zz 10 <| zr' (v := .tuple #[.int .i64 0,.int .i64 y5]) ?_
 cases hp
 exact ⟨C6.upd,_,rfl,rfl⟩
 have hp := iqb T7 hp
 refine zz 5 <| zo 0 C6 <| zQ hp fun y9 hy9 hp => zc C6 (sZ _ X0 (zM _) p0 _ ((hVp0.mono (Le2 B3 B6)).mono Le.x0) y9 hy9) ?_
 rintro v10 w10 C10 B10 V10 rfl
 refine zz 5 <| zr' (v := .tuple #[.int .i64 y9,.int .i64 0]) ?_
 cases hp
 exact ⟨C10.upd,_,rfl,rfl⟩
noncomputable def wH (p0 : zO) (p1 : Int) (p2 : Int) : Option (Int × Int) :=
 (yN p0 ([p2])).bind fun y7 => if ((y7) != 0) = true then (some (0,y7)) else (if (p1) < 0 then (some (0,8)) else ((jK p0).bind fun y13 => grd ((p0.advisories.length : Int) ≠ 0) <| if (p1) ≥ (i64.wrap (Int.tdiv y13 (p0.advisories.length : Int))) then (some (0,8)) else (some (i64.wrap ((i64.wrap ((p1) * (p0.advisories.length : Int))) + p2),0))))
include hX in
theorem zDo (p0 : zO) (vp0 : Value) (hp0 : zW (rd w X) vp0 p0) (p1 : Int) (p2 : Int) (y : Int × Int) (hp : wH p0 p1 p2 = some y) : Calls Tryz.prog 16 #[vp0,.int .i64 p1,.int .i64 p2] w (Ret E0 w fun _ v => v = .tuple #[.int .i64 y.1,.int .i64 y.2]) := by
 have hVp0 := hp0
 refine zW.op hp0 fun D1 D2 D3 D4 D5 D6 D7 D8 D9 D10 D11 D12 D13 D14 D15 D16 D17 D18 D19 D20 D21 D22 D23 D24 hv9 p0a_h0 p0a_h1 p0a_h2 p0a_h3 p0a_h4 p0a_h5 p0a_h6 p0a_h7 p0a_h8 p0a_h9 p0a_h10 p0a_h11 => ?_
 subst hv9
 unfold wH at hp
 refine zen Tryz.func16 ?_
 have C0 : St E0 w X w X [] := St.start hX
 refine zz 2 <| zn pn (.cells (qDr p0 D1 D2 D3 D4 D5 D6 D7 D8 D9 D10 D11 D12 D13 D14 D15 D16 D17 D18 D19 D20 D21 D22 D23 D24) 30 (0,0)) C0 fun b3 w3 Y3 C3 B3 V3 => zz 7 <| zo 0 C3 <| zz 1 <| zn (fun b => .slice (some ⟨b,0,none⟩) 1 1) (.cells #[.int .i64 p2] 3 (0,0)) C3 fun b5 w5 Y5 C5 B5 V5 => zQ hp fun y7 hy7 hp => zc C5 (pE _ X0 (zM _) p0 _ ((hVp0.mono (Le2 B3 B5)).mono Le.x0) ([p2]) _ ⟨_,_,rfl,(SlR.lit (El := sG) (size := 1) (n := 1) [⟨(p2 : Int),[.int .i64 p2]⟩] (C5.at0 0 rfl rfl) (List.forall_mem_cons.2 ⟨⟨rfl,fun r2 h2 b o h9 => h9⟩,(List.forall_mem_nil _)⟩) rfl (by decide))⟩ y7 hy7) ?_ (vs := #[.agg (qDr p0 D1 D2 D3 D4 D5 D6 D7 D8 D9 D10 D11 D12 D13 D14 D15 D16 D17 D18 D19 D20 D21 D22 D23 D24),.slice (some ⟨b5,0,none⟩) 1 1])
 rintro v8 w8 C8 B8 V8 rfl
 refine zz 11 <| zb 13 (b := ((y7) != 0)) (fun T9 => ?_) (fun T9 => ?_)
 have hp := ipb T9 hp
 refine zz 11 <| zr' (v := .tuple #[.int .i64 0,.int .i64 y7]) ?_
 cases hp
 exact ⟨C8.upd,_,rfl,rfl⟩
 have hp := iqb T9 hp
 refine zz 2 <| zdr C8 <| gz [0,1,2] <| gt 20 (p := (p1) < 0) (fun Q10 => ?_) (fun Q10 => ?_)
 have hp := ip Q10 hp
 refine gz [3,4,5,6,7,8,9,10,11,12] ?_
 refine yO (fun w11 Y11 C11 B11 => ?_)
 refine zz 11 <| zr' (v := .tuple #[.int .i64 0,.int .i64 8]) ?_
 cases hp
 exact ⟨C11.upd,_,rfl,rfl⟩
 have hp := iq Q10 hp
 refine gz [3] <| gw 4 1 <| gz [6] <| gw 7 1 <| gz [8] ?_
 have T1_ := (Le2 B3 B5).trans B8
 refine zQ hp fun y13 hy13 hp => gC 5 (fun w12 Y12 _ C12 B12 => (sZ _ X0 (zM _) p0 _ ((hVp0.mono (T1_.trans B12)).mono Le.x0) y13 hy13)) ?_
 rintro v14 w12 Y14 w14 C12 B14 rfl
 have C := nC hp
 obtain ⟨hg15,hp⟩ := C
 refine gH (v := .int .i64 (i64.wrap (Int.tdiv y13 (p0.advisories.length : Int)))) 9 (fun w => zAn (a := y13) (b := (p0.advisories.length : Int)) rfl kr kr hg15 _) <| gz [10,11,12] ?_
 refine yO (fun w16 Y16 C16 B16 => ?_)
 refine zz 1 <| zt 17 (p := (p1) ≥ (i64.wrap (Int.tdiv y13 (p0.advisories.length : Int)))) (fun Q17 => ?_) (fun Q17 => ?_)
 have hp := ip Q17 hp
 refine zz 10 <| zr' (v := .tuple #[.int .i64 0,.int .i64 8]) ?_
 cases hp
 exact ⟨C16.upd,_,rfl,rfl⟩
 have hp := iq Q17 hp
 refine zz 8 <| zo 1 C16 <| zz 9 <| zr' (v := .tuple #[.int .i64 (i64.wrap ((i64.wrap ((p1) * (p0.advisories.length : Int))) + p2)),.int .i64 0]) ?_
 cases hp
 exact ⟨C16.upd,_,rfl,rfl⟩
noncomputable def vX (p0 : zO) (p1 : Int) : Option (Int × Int × Int) :=
 (qF p0).bind fun y5 => if ((y5) != 0) = true then (some (0,0,y5)) else (if (p1) < 0 then (some (0,0,8)) else ((jK p0).bind fun y10 => if (p1) ≥ y10 then (some (0,0,8)) else (grd ((p0.advisories.length : Int) ≠ 0) <| grd ((p0.advisories.length : Int) ≠ 0) <| some (i64.wrap (Int.tdiv p1 (p0.advisories.length : Int)),Int.tmod p1 (p0.advisories.length : Int),0))))
include hX in
theorem zEh (p0 : zO) (vp0 : Value) (hp0 : zW (rd w X) vp0 p0) (p1 : Int) (y : Int × Int × Int) (hp : vX p0 p1 = some y) : Calls Tryz.prog 17 #[vp0,.int .i64 p1] w (Ret E0 w fun _ v => v = .tuple #[.int .i64 y.1,.int .i64 y.2.1,.int .i64 y.2.2]) := by
 have hVp0 := hp0
 refine zW.op hp0 fun D1 D2 D3 D4 D5 D6 D7 D8 D9 D10 D11 D12 D13 D14 D15 D16 D17 D18 D19 D20 D21 D22 D23 D24 hv9 p0a_h0 p0a_h1 p0a_h2 p0a_h3 p0a_h4 p0a_h5 p0a_h6 p0a_h7 p0a_h8 p0a_h9 p0a_h10 p0a_h11 => ?_
 subst hv9
 unfold vX at hp
 refine zen Tryz.func17 ?_
 have C0 : St E0 w X w X [] := St.start hX
 refine zz 2 <| zn pn (.cells (qDr p0 D1 D2 D3 D4 D5 D6 D7 D8 D9 D10 D11 D12 D13 D14 D15 D16 D17 D18 D19 D20 D21 D22 D23 D24) 30 (0,0)) C0 fun b3 w3 Y3 C3 B3 V3 => zz 8 <| zo 0 C3 <| zQ hp fun y5 hy5 hp => zc C3 (vW _ X0 (zM _) p0 _ ((hVp0.mono B3).mono Le.x0) y5 hy5) ?_
 rintro v6 w6 C6 B6 V6 rfl
 refine zz 11 <| zb 10 (b := ((y5) != 0)) (fun T7 => ?_) (fun T7 => ?_)
 have hp := ipb T7 hp
 refine zz 12 <| zr' (v := .tuple #[.int .i64 0,.int .i64 0,.int .i64 y5]) ?_
 cases hp
 exact ⟨C6.upd,_,rfl,rfl⟩
 have hp := iqb T7 hp
 refine zz 6 <| zt 17 (p := (p1) < 0) (fun Q8 => ?_) (fun Q8 => ?_)
 have hp := ip Q8 hp
 refine zz 19 <| zr' (v := .tuple #[.int .i64 0,.int .i64 0,.int .i64 8]) ?_
 cases hp
 exact ⟨C6.upd,_,rfl,rfl⟩
 have hp := iq Q8 hp
 refine zz 1 <| zo 0 C6 <| zQ hp fun y10 hy10 hp => zc C6 (sZ _ X0 (zM _) p0 _ ((hVp0.mono (Le2 B3 B6)).mono Le.x0) y10 hy10) ?_
 rintro v11 w11 C11 B11 V11 rfl
 refine zz 5 <| zt 14 (p := (p1) ≥ y10) (fun Q12 => ?_) (fun Q12 => ?_)
 have hp := ip Q12 hp
 refine zz 11 <| zr' (v := .tuple #[.int .i64 0,.int .i64 0,.int .i64 8]) ?_
 cases hp
 exact ⟨C11.upd,_,rfl,rfl⟩
 have hp := iq Q12 hp
 refine zz 5 <| zdr C11 <| gz [0,1] <| gw 2 0 <| gz [3] ?_
 have C := nC hp
 obtain ⟨hg13,hp⟩ := C
 refine gH (v := .int .i64 (i64.wrap (Int.tdiv p1 (p0.advisories.length : Int)))) 4 (fun w => zAn (a := p1) (b := (p0.advisories.length : Int)) rfl kr kr hg13 _) <| gz [5,6] <| gw 7 0 <| gz [8] ?_
 have C := nC hp
 obtain ⟨hg14,hp⟩ := C
 refine gH (v := .int .i64 (Int.tmod p1 (p0.advisories.length : Int))) 9 (fun w => zIk (a := p1) (b := (p0.advisories.length : Int)) rfl kr kr hg14 _) <| gz [10,11,12] ?_
 refine yO (fun w15 Y15 C15 B15 => ?_)
 refine zz 2 <| zr' (v := .tuple #[.int .i64 (i64.wrap (Int.tdiv p1 (p0.advisories.length : Int))),.int .i64 (Int.tmod p1 (p0.advisories.length : Int)),.int .i64 0]) ?_
 cases hp
 exact ⟨C15.upd,_,rfl,rfl⟩
noncomputable def jJ (p0 : zO) (p1 : Int) (p2 : Int) : Option (Int) :=
 (ix p0.advisories (p2)).bind fun x4 => if ((p2) == 0) = true then (some p1) else (if (p1) < x4.lo then ((some (if (x4.lo) < (i64.wrap ((p1) + p0.pull)) then x4.lo else i64.wrap ((p1) + p0.pull))).bind fun z11 => some z11) else (if (p1) > x4.hi then ((some (if (x4.hi) > (i64.wrap ((p1) - p0.pull)) then x4.hi else i64.wrap ((p1) - p0.pull))).bind fun z13 => some z13) else (some p1)))
include hX in
theorem fE (p0 : zO) (vp0 : Value) (hp0 : zW (rd w X) vp0 p0) (p1 : Int) (p2 : Int) (y : Int) (hp : jJ p0 p1 p2 = some y) : Calls Tryz.prog 55 #[vp0,.int .i64 p1,.int .i64 p2] w (Ret E0 w fun _ v => v = .int .i64 y) := by
 have hVp0 := hp0
 refine zW.op hp0 fun D1 D2 D3 D4 D5 D6 D7 D8 D9 D10 D11 D12 D13 D14 D15 D16 D17 D18 D19 D20 D21 D22 D23 D24 hv9 p0a_h0 p0a_h1 p0a_h2 p0a_h3 p0a_h4 p0a_h5 p0a_h6 p0a_h7 p0a_h8 p0a_h9 p0a_h10 p0a_h11 => ?_
 subst hv9
 unfold jJ at hp
 refine zen Tryz.func55 ?_
 have C0 : St E0 w X w X [] := St.start hX
 refine zz 2 <| zn pn (.cells (qDr p0 D1 D2 D3 D4 D5 D6 D7 D8 D9 D10 D11 D12 D13 D14 D15 D16 D17 D18 D19 D20 D21 D22 D23 D24) 30 (0,0)) C0 fun b3 w3 Y3 C3 B3 V3 => zz 7 <| zo 0 C3 <| zz 1 <| zQ hp fun x4 hx4 hp => ?_
 have C := jU hx4
 obtain ⟨L4,O4⟩ := C
 have C := p0a_h3.opn O4
 obtain ⟨be5,oe5,rfl,B5,hEe5⟩ := C
 have e5_at : At (rd w X) ⟨be5,oe5 + (p2).toNat * 3,none⟩ [.int .u8 x4.sense,.int .i64 x4.lo,.int .i64 x4.hi] := hEe5
 refine zi (b := be5) (off := oe5) (len := p0.advisories.length) (cap := D8) (kd := .i64) (i := p2) 3 (oe5 + (p2).toNat * 3) ?_ (h0 := L4) (h1 := (jS L4 B5))
 refine zl ((e5_at.mono B3)).cells <| zn pn (.cells #[.int .u8 0,.int .i64 0,.int .i64 0] 96 (0,0)) C3 fun b7 w7 Y7 C7 B7 V7 => zx 0 #[.int .u8 x4.sense,.int .i64 x4.lo,.int .i64 x4.hi] C7 fun w8 C8 B8 => zz 10 <| zb 13 (b := ((p2) == 0)) (fun T9 => ?_) (fun T9 => ?_)
 have hp := ipb T9 hp
 refine zz 10 <| zr' (v := .int .i64 p1) ?_
 cases hp
 exact ⟨C8.upd,_,rfl,rfl⟩
 have hp := iqb T9 hp
 refine zz 5 <| zo 0 C8 <| zz 4 <| zt 17 (p := (p1) < x4.lo) (fun Q10 => ?_) (fun Q10 => ?_)
 have hp := ip Q10 hp
 refine zz 5 <| zo 1 C8 <| zz 2 <| zo 0 C8 <| zQ hp fun z11 hz11 hp => zz 1 <| zs 28 (v := .int .i64 (if (x4.lo) < (i64.wrap ((p1) + p0.pull)) then x4.lo else i64.wrap ((p1) + p0.pull))) (v' := .int .i64 z11) (zR (Option.some.inj hz11)) <| zz 6 <| zr' (v := .int .i64 z11) ?_
 cases hp
 exact ⟨C8.upd,_,rfl,rfl⟩
 have hp := iq Q10 hp
 refine zz 5 <| zo 0 C8 <| zz 4 <| zt 29 (p := (p1) > x4.hi) (fun Q12 => ?_) (fun Q12 => ?_)
 have hp := ip Q12 hp
 refine zz 5 <| zo 1 C8 <| zz 2 <| zo 0 C8 <| zQ hp fun z13 hz13 hp => zz 1 <| zs 40 (v := .int .i64 (if (x4.hi) > (i64.wrap ((p1) - p0.pull)) then x4.hi else i64.wrap ((p1) - p0.pull))) (v' := .int .i64 z13) (zR (Option.some.inj hz13)) <| zz 6 <| zr' (v := .int .i64 z13) ?_
 cases hp
 exact ⟨C8.upd,_,rfl,rfl⟩
 have hp := iq Q12 hp
 refine zz 11 <| zr' (v := .int .i64 p1) ?_
 cases hp
 exact ⟨C8.upd,_,rfl,rfl⟩
noncomputable def xF (p0 : zO) (p1 : Int) (p2 : Int) : Option (Int × Int) :=
 (qF p0).bind fun y5 => if ((y5) != 0) = true then (some (0,y5)) else ((zS (100 : Int)).bind fun y9 => (qO ([p1]) y9).bind fun y14 => if (!y14) = true then (some (0,1)) else ((yN p0 ([p2])).bind fun y20 => if ((y20) != 0) = true then (some (0,y20)) else ((jJ p0 (p1) (p2)).bind fun y24 => some (y24,0))))
include hX in
theorem fF (p0 : zO) (vp0 : Value) (hp0 : zW (rd w X) vp0 p0) (p1 : Int) (p2 : Int) (y : Int × Int) (hp : xF p0 p1 p2 = some y) : Calls Tryz.prog 18 #[vp0,.int .i64 p1,.int .i64 p2] w (Ret E0 w fun _ v => v = .tuple #[.int .i64 y.1,.int .i64 y.2]) := by
 have hVp0 := hp0
 refine zW.op hp0 fun D1 D2 D3 D4 D5 D6 D7 D8 D9 D10 D11 D12 D13 D14 D15 D16 D17 D18 D19 D20 D21 D22 D23 D24 hv9 p0a_h0 p0a_h1 p0a_h2 p0a_h3 p0a_h4 p0a_h5 p0a_h6 p0a_h7 p0a_h8 p0a_h9 p0a_h10 p0a_h11 => ?_
 subst hv9
 unfold xF at hp
 refine zen Tryz.func18 ?_
 have C0 : St E0 w X w X [] := St.start hX
 refine zz 2 <| zn pn (.cells (qDr p0 D1 D2 D3 D4 D5 D6 D7 D8 D9 D10 D11 D12 D13 D14 D15 D16 D17 D18 D19 D20 D21 D22 D23 D24) 30 (0,0)) C0 fun b3 w3 Y3 C3 B3 V3 => zz 7 <| zo 0 C3 <| zQ hp fun y5 hy5 hp => zc C3 (vW _ X0 (zM _) p0 _ ((hVp0.mono B3).mono Le.x0) y5 hy5) ?_
 rintro v6 w6 C6 B6 V6 rfl
 refine zz 11 <| zb 12 (b := ((y5) != 0)) (fun T7 => ?_) (fun T7 => ?_)
 have hp := ipb T7 hp
 refine zz 11 <| zr' (v := .tuple #[.int .i64 0,.int .i64 y5]) ?_
 cases hp
 exact ⟨C6.upd,_,rfl,rfl⟩
 have hp := iqb T7 hp
 refine zz 3 <| zQ hp fun y9 hy9 hp => zc C6 (wI _ X0 (zM _) (100 : Int) y9 hy9) ?_
 rintro v10 w10 C10 B10 V10 ⟨u10_0_b0,u10_0_b1,rfl,u10_0_h0,u10_0_h1⟩
 have hAu10_0_b0 : At (rd w10 Y3) ⟨u10_0_b0,0,none⟩ [.func (.func 61) #[] #[]] := (At.mono (Le.new C6.lt) u10_0_h0)
 have hAu10_0_b1 : At (rd w10 Y3) ⟨u10_0_b1,0,none⟩ [.int .i64 y9] := (At.mono (Le.new C6.lt) u10_0_h1)
 refine zz 1 <| zn (fun b => .slice (some ⟨b,0,none⟩) 1 1) (.cells #[.int .i64 p1] 3 (0,0)) C10 fun b12 w12 Y12 C12 B12 V12 => zQ hp fun y14 hy14 hp => zc C12 (kT _ X0 (zM _) ([p1]) _ ⟨_,_,rfl,(SlR.lit (El := sG) (size := 1) (n := 1) [⟨(p1 : Int),[.int .i64 p1]⟩] (C12.at0 0 rfl rfl) (List.forall_mem_cons.2 ⟨⟨rfl,fun r2 h2 b o h9 => h9⟩,(List.forall_mem_nil _)⟩) rfl (by decide))⟩ _ ((hAu10_0_b0.mono B12).mono Le.x0) y9 _ ((hAu10_0_b1.mono B12).mono Le.x0) y14 hy14) ?_ (vs := #[.slice (some ⟨b12,0,none⟩) 1 1,.pointer (some ⟨u10_0_b0,0,none⟩),.pointer (some ⟨u10_0_b1,0,none⟩)])
 rintro v15 w15 C15 B15 V15 rfl
 refine zz 4 <| zb 16 (b := !y14) (fun T16 => ?_) (fun T16 => ?_)
 have hp := ipb T16 hp
 refine zz 10 <| zr' (v := .tuple #[.int .i64 0,.int .i64 1]) ?_
 cases hp
 exact ⟨C15.upd,_,rfl,rfl⟩
 have hp := iqb T16 hp
 refine zz 7 <| zo 1 C15 <| zz 1 <| zn (fun b => .slice (some ⟨b,0,none⟩) 1 1) (.cells #[.int .i64 p2] 3 (0,0)) C15 fun b18 w18 Y18 C18 B18 V18 => ?_
 have T1_ := (Le5 B3 B6 B10 B12 B15).trans B18
 refine zQ hp fun y20 hy20 hp => zc C18 (pE _ X0 (zM _) p0 _ ((hVp0.mono T1_).mono Le.x0) ([p2]) _ ⟨_,_,rfl,(SlR.lit (El := sG) (size := 1) (n := 1) [⟨(p2 : Int),[.int .i64 p2]⟩] (C18.at0 0 rfl rfl) (List.forall_mem_cons.2 ⟨⟨rfl,fun r2 h2 b o h9 => h9⟩,(List.forall_mem_nil _)⟩) rfl (by decide))⟩ y20 hy20) ?_ (vs := #[.agg (qDr p0 D1 D2 D3 D4 D5 D6 D7 D8 D9 D10 D11 D12 D13 D14 D15 D16 D17 D18 D19 D20 D21 D22 D23 D24),.slice (some ⟨b18,0,none⟩) 1 1])
 rintro v21 w21 C21 B21 V21 rfl
 refine zz 9 <| zb 27 (b := ((y20) != 0)) (fun T22 => ?_) (fun T22 => ?_)
 have hp := ipb T22 hp
 refine zz 10 <| zr' (v := .tuple #[.int .i64 0,.int .i64 y20]) ?_
 cases hp
 exact ⟨C21.upd,_,rfl,rfl⟩
 have hp := iqb T22 hp
 refine zz 5 <| zo 2 C21 <| zz 2 ?_
 have T2_ := T1_.trans B21
 refine zQ hp fun y24 hy24 hp => zc C21 (fE _ X0 (zM _) p0 _ ((hVp0.mono T2_).mono Le.x0) (p1) (p2) y24 hy24) ?_
 rintro v25 w25 C25 B25 V25 rfl
 refine zz 5 <| zr' (v := .tuple #[.int .i64 y24,.int .i64 0]) ?_
 cases hp
 exact ⟨C25.upd,_,rfl,rfl⟩
noncomputable def kL (p0 : Int) (p1 : Int) : Option (Raw) :=
 (fD (p0) (p1)).bind fun y5 => some y5.1
include hX in
theorem xZ (p0 : Int) (p1 : Int) (y : Raw) (hp : kL p0 p1 = some y) : Calls Tryz.prog 42 #[.int .i64 p0,.int .i64 p1] w (Ret E0 w fun w' v => vJ (rd w' (old w)) v y) := by
 unfold kL at hp
 refine zen Tryz.func42 ?_
 have C0 : St E0 w X w X [] := St.start hX
 refine zz 2 <| zn pn (.cells #[.bool false,.slice none 0 0,.slice none 0 0] 28 (0,0)) C0 fun b3 w3 Y3 C3 B3 V3 => zz 6 <| zQ hp fun y5 hy5 hp => zc C3 (zDf _ X0 (zM _) (p0) (p1) y5 hy5) ?_
 rintro v6 w6 C6 B6 V6 ⟨uu6_0,rfl,⟨u6_0_1,u6_0_2,u6_0_3,u6_0_4,u6_0_5,u6_0_6,rfl,u6_0__h0,u6_0__h1⟩⟩
 have C := u6_0__h0.hlen
 subst C
 have C := u6_0__h1.hlen
 subst C
 refine zz 3 <| zn pn (.cells #[.bool false,.slice none 0 0,.slice none 0 0] 28 (0,0)) C6 fun b8 w8 Y8 C8 B8 V8 => zx 0 #[.bool y5.1.neg,.slice u6_0_1 y5.1.ln.length u6_0_3,.slice u6_0_4 y5.1.ld.length u6_0_6] C8 fun w9 C9 B9 => zz 5 <| zo 0 C9 <| zx 1 #[.bool y5.1.neg,.slice u6_0_1 y5.1.ln.length u6_0_3,.slice u6_0_4 y5.1.ld.length u6_0_6] C9 fun w10 C10 B10 => zz 3 <| zrS [.cell 4 28] (v := .agg #[.bool y5.1.neg,.slice u6_0_1 y5.1.ln.length u6_0_3,.slice u6_0_4 y5.1.ld.length u6_0_6]) (Res.cM C10 1 Res.nil) ?_
 cases hp
 exact ⟨C10.upd,_,rfl,⟨_,_,_,_,_,_,rfl,((u6_0__h0.mono (Le.own C3.lt C3.upd.size (Le3 B8 B9 B10)))).mono Le.orr,((u6_0__h1.mono (Le.own C3.lt C3.upd.size (Le3 B8 B9 B10)))).mono Le.orr⟩⟩
noncomputable def qH (J2 : Option (Bool)) : List Raw → Option (Bool)
 | [] => J2
 | x4 :: r4 => if (x4.ln.length : Int) > 6 then (if (x4.ln.length : Int) ≤ 128 then (some true) else (if (x4.ld.length : Int) > 6 then (if (x4.ld.length : Int) ≤ 128 then (some true) else (if (x4.ln.length : Int) > 200 then (some true) else (if (x4.ld.length : Int) > 200 then (some true) else (qH J2 r4 )))) else (if (x4.ln.length : Int) > 200 then (some true) else (if (x4.ld.length : Int) > 200 then (some true) else (qH J2 r4 ))))) else (if (x4.ld.length : Int) > 6 then (if (x4.ld.length : Int) ≤ 128 then (some true) else (if (x4.ln.length : Int) > 200 then (some true) else (if (x4.ld.length : Int) > 200 then (some true) else (qH J2 r4 )))) else (if (x4.ln.length : Int) > 200 then (some true) else (if (x4.ld.length : Int) > 200 then (some true) else (qH J2 r4 ))))
noncomputable def yP (p0 : List Raw) : Option (Bool) :=
 lt (some false) fun J2 => qH J2 (p0.drop 0)
include hX in
theorem rX (p0 : List Raw) (vp0 : Value) (hp0 : SV nO (rd w X) vp0 p0) (y : Bool) (hp : yP p0 = some y) : Calls Tryz.prog 40 #[vp0] w (Ret E0 w fun _ v => v = .bool y) := by
 obtain ⟨D1,D2,rfl,p0a_h0⟩ := hp0
 unfold yP at hp
 refine zen Tryz.func40 ?_
 have C0 : St E0 w X w X [] := St.start hX
 refine zz 5 ?_
 have C := fG hp
 obtain ⟨J2,hJ2,hp⟩ := C
 refine yT (fun (_ : Unit) => []) (fun _ w1 => ∃ Y1 : Hid,St E0 w X w1 Y1 [] ∧ Le (rd w X) (rd w1 Y1) ∧ J2 = some y) ?_ ?_
 rintro _ w2 ⟨Y2,C2,B2,hp⟩
 have hp := hJ2.symm.trans hp
 refine zz 6 <| zr' (v := .bool false) ?_
 cases hp
 exact ⟨C2.upd,_,rfl,rfl⟩
 intro K3 H3
 refine zz 6 ?_
 have hb4 : (p0.length : Int) ≤ 9223372036854775807 := rR (p0a_h0).hcap (p0a_h0).hbig
 refine zlp Tryz.f40 [K3] [1,9,1,0] (fun (k4 : Nat) => [(0,.slice D1 p0.length D2),(3,.int .i64 (k4 : Int))]) (fun k4 w1 => ∃ Y1 : Hid,St E0 w X w1 Y1 [] ∧ Le (rd w X) (rd w1 Y1) ∧ qH J2 (p0.drop k4)  = some y) (fun k4 => p0.length - k4) 0 ?_ ?_
 exact ⟨_,C0,Le.refl _,hp⟩
 rintro k4 w4 K4 H4 ⟨Y4,C4,B4,hp⟩
 refine zz 9 <| zt 9 (p := (k4 : Int) < (p0.length : Int)) (fun Q5 => ?_) (fun Q5 => ?_)
 have C := xK (l := p0) (k := k4) (qR Q5)
 obtain ⟨x4,O4⟩ := C
 rw [wG O4,qH] at hp
 have L4 : (0 : Int) ≤ (k4 : Int) := Int.natCast_nonneg _
 refine zz 6 <| zdr C4 ?_
 have C := p0a_h0.sl.opn O4
 obtain ⟨be6,oe6,rfl,B6,hEe6⟩ := C
 obtain ⟨e61,e62,e63,e64,e65,e66,e6_at,e6_h0,e6_h1⟩ := hEe6
 have C := e6_h0.hlen
 subst C
 have C := e6_h1.hlen
 subst C
 refine gz [0,1] <| gi 2 (b := be6) (off := oe6) (len := p0.length) (cap := D2) (kd := .i64) (i := (k4 : Int)) 3 (oe6 + k4 * 3) ?_ (h0 := L4) (h1 := (jS L4 B6))
 refine gz [3] <| gl 4 ((e6_at.mono B4).sub 1 1) <| gz [5,6,7] <| gi 8 (b := be6) (off := oe6) (len := p0.length) (cap := D2) (kd := .i64) (i := (k4 : Int)) 3 (oe6 + k4 * 3) ?_ (h0 := L4) (h1 := (jS L4 B6))
 refine gz [9] <| gl 10 ((e6_at.mono B4).sub 2 1) <| gz [11,12,13] ?_
 refine yO (fun w7 Y7 C7 B7 => ?_)
 refine zz 6 <| zt 26 (p := (x4.ln.length : Int) > 6) (fun Q8 => ?_) (fun Q8 => ?_)
 have hp := ip Q8 hp
 refine zz 4 <| zt 30 (p := (x4.ln.length : Int) ≤ 128) (fun Q9 => ?_) (fun Q9 => ?_)
 have hp := ip Q9 hp
 refine zz 29 <| zr' (v := .bool true) ?_
 cases hp
 exact ⟨C7.upd,_,rfl,rfl⟩
 have hp := iq Q9 hp
 refine zz 3 <| zt 33 (p := (x4.ld.length : Int) > 6) (fun Q10 => ?_) (fun Q10 => ?_)
 have hp := ip Q10 hp
 refine zz 5 <| zt 38 (p := (x4.ld.length : Int) ≤ 128) (fun Q11 => ?_) (fun Q11 => ?_)
 have hp := ip Q11 hp
 refine zz 21 <| zr' (v := .bool true) ?_
 cases hp
 exact ⟨C7.upd,_,rfl,rfl⟩
 have hp := iq Q11 hp
 refine zz 4 <| zt 42 (p := (x4.ln.length : Int) > 200) (fun Q12 => ?_) (fun Q12 => ?_)
 have hp := ip Q12 hp
 refine zz 17 <| zr' (v := .bool true) ?_
 cases hp
 exact ⟨C7.upd,_,rfl,rfl⟩
 have hp := iq Q12 hp
 refine zz 5 <| zt 45 (p := (x4.ld.length : Int) > 200) (fun Q13 => ?_) (fun Q13 => ?_)
 have hp := ip Q13 hp
 refine zz 12 <| zr' (v := .bool true) ?_
 cases hp
 exact ⟨C7.upd,_,rfl,rfl⟩
 have hp := iq Q13 hp
 refine zz 7 <| zs 11 (v := .int .i64 (i64.wrap ((k4 : Int) + 1))) (v' := .int .i64 ((k4 : Int) + 1)) (zR (jE (wk0 k4) (wk1 Q5 hb4))) <| zz 2 <| zP (fun a h => H4 (k4 + 1) _ a h ⟨_,C7,(Le2 B4 B7),hp⟩ ?_)
 exact vK Q5
 have hp := iq Q10 hp
 refine zz 9 <| zt 42 (p := (x4.ln.length : Int) > 200) (fun Q14 => ?_) (fun Q14 => ?_)
 have hp := ip Q14 hp
 refine zz 17 <| zr' (v := .bool true) ?_
 cases hp
 exact ⟨C7.upd,_,rfl,rfl⟩
 have hp := iq Q14 hp
 refine zz 5 <| zt 45 (p := (x4.ld.length : Int) > 200) (fun Q15 => ?_) (fun Q15 => ?_)
 have hp := ip Q15 hp
 refine zz 12 <| zr' (v := .bool true) ?_
 cases hp
 exact ⟨C7.upd,_,rfl,rfl⟩
 have hp := iq Q15 hp
 refine zz 7 <| zs 11 (v := .int .i64 (i64.wrap ((k4 : Int) + 1))) (v' := .int .i64 ((k4 : Int) + 1)) (zR (jE (wk0 k4) (wk1 Q5 hb4))) <| zz 2 <| zP (fun a h => H4 (k4 + 1) _ a h ⟨_,C7,(Le2 B4 B7),hp⟩ ?_)
 exact vK Q5
 have hp := iq Q8 hp
 refine zz 7 <| zt 33 (p := (x4.ld.length : Int) > 6) (fun Q16 => ?_) (fun Q16 => ?_)
 have hp := ip Q16 hp
 refine zz 5 <| zt 38 (p := (x4.ld.length : Int) ≤ 128) (fun Q17 => ?_) (fun Q17 => ?_)
 have hp := ip Q17 hp
 refine zz 21 <| zr' (v := .bool true) ?_
 cases hp
 exact ⟨C7.upd,_,rfl,rfl⟩
 have hp := iq Q17 hp
 refine zz 4 <| zt 42 (p := (x4.ln.length : Int) > 200) (fun Q18 => ?_) (fun Q18 => ?_)
 have hp := ip Q18 hp
 refine zz 17 <| zr' (v := .bool true) ?_
 cases hp
 exact ⟨C7.upd,_,rfl,rfl⟩
 have hp := iq Q18 hp
 refine zz 5 <| zt 45 (p := (x4.ld.length : Int) > 200) (fun Q19 => ?_) (fun Q19 => ?_)
 have hp := ip Q19 hp
 refine zz 12 <| zr' (v := .bool true) ?_
 cases hp
 exact ⟨C7.upd,_,rfl,rfl⟩
 have hp := iq Q19 hp
 refine zz 7 <| zs 11 (v := .int .i64 (i64.wrap ((k4 : Int) + 1))) (v' := .int .i64 ((k4 : Int) + 1)) (zR (jE (wk0 k4) (wk1 Q5 hb4))) <| zz 2 <| zP (fun a h => H4 (k4 + 1) _ a h ⟨_,C7,(Le2 B4 B7),hp⟩ ?_)
 exact vK Q5
 have hp := iq Q16 hp
 refine zz 9 <| zt 42 (p := (x4.ln.length : Int) > 200) (fun Q20 => ?_) (fun Q20 => ?_)
 have hp := ip Q20 hp
 refine zz 17 <| zr' (v := .bool true) ?_
 cases hp
 exact ⟨C7.upd,_,rfl,rfl⟩
 have hp := iq Q20 hp
 refine zz 5 <| zt 45 (p := (x4.ld.length : Int) > 200) (fun Q21 => ?_) (fun Q21 => ?_)
 have hp := ip Q21 hp
 refine zz 12 <| zr' (v := .bool true) ?_
 cases hp
 exact ⟨C7.upd,_,rfl,rfl⟩
 have hp := iq Q21 hp
 refine zz 7 <| zs 11 (v := .int .i64 (i64.wrap ((k4 : Int) + 1))) (v' := .int .i64 ((k4 : Int) + 1)) (zR (jE (wk0 k4) (wk1 Q5 hb4))) <| zz 2 <| zP (fun a h => H4 (k4 + 1) _ a h ⟨_,C7,(Le2 B4 B7),hp⟩ ?_)
 exact vK Q5
 rw [List.drop_eq_nil_of_le (qI Q5),qH] at hp
 refine zz 5 ?_
 exact zP (fun a h => H3 () _ a h ⟨_,C4,B4,hp⟩)
noncomputable def qX (J11 : Option (Bool)) : List zV → Option (Bool)
 | [] => J11
 | x18 :: r18 => (yP ([x18.p])).bind fun y24 => if y24 = true then (some true) else (qX J11 r18 )
noncomputable def qW (J10 : Option (Bool)) : List zV → Option (Bool)
 | [] => J10
 | x28 :: r28 => (yP ([x28.p])).bind fun y34 => if y34 = true then (some true) else (qW J10 r28 )
noncomputable def xG (p0 : zO) : Option (Bool) :=
 if (p0.height.length : Int) > 40 then (some true) else (if (p0.own.length : Int) > 40 then (some true) else (if (p0.other.length : Int) > 40 then (some true) else (if (p0.advisories.length : Int) > 10 then (some true) else (if (p0.ownNoise.length : Int) > 8 then (some true) else (if (p0.otherNoise.length : Int) > 8 then (some true) else (lt (lt ((yP ([p0.alert,p0.strengthen,p0.reversal])).bind fun y15 => some y15) fun J11 => qX J11 (p0.otherNoise.drop 0) ) fun J10 => qW J10 (p0.ownNoise.drop 0) ))))))
include hX in
theorem zAz (p0 : zO) (vp0 : Value) (hp0 : zW (rd w X) vp0 p0) (y : Bool) (hp : xG p0 = some y) : Calls Tryz.prog 6 #[vp0] w (Ret E0 w fun _ v => v = .bool y) := by
 have hVp0 := hp0
 refine zW.op hp0 fun D1 D2 D3 D4 D5 D6 D7 D8 D9 D10 D11 D12 D13 D14 D15 D16 D17 D18 D19 D20 D21 D22 D23 D24 hv9 p0a_h0 p0a_h1 p0a_h2 p0a_h3 p0a_h4 p0a_h5 p0a_h6 p0a_h7 p0a_h8 p0a_h9 p0a_h10 p0a_h11 => ?_
 subst hv9
 unfold xG at hp
 refine zen Tryz.func6 ?_
 have C0 : St E0 w X w X [] := St.start hX
 refine zz 2 <| zn pn (.cells (qDr p0 D1 D2 D3 D4 D5 D6 D7 D8 D9 D10 D11 D12 D13 D14 D15 D16 D17 D18 D19 D20 D21 D22 D23 D24) 30 (0,0)) C0 fun b3 w3 Y3 C3 B3 V3 => zz 7 <| zo 0 C3 <| zz 3 <| zt 9 (p := (p0.height.length : Int) > 40) (fun Q4 => ?_) (fun Q4 => ?_)
 have hp := ip Q4 hp
 refine zz 39 <| zr' (v := .bool true) ?_
 cases hp
 exact ⟨C3.upd,_,rfl,rfl⟩
 have hp := iq Q4 hp
 refine zz 1 <| zo 0 C3 <| zz 4 <| zt 15 (p := (p0.own.length : Int) > 40) (fun Q5 => ?_) (fun Q5 => ?_)
 have hp := ip Q5 hp
 refine zz 33 <| zr' (v := .bool true) ?_
 cases hp
 exact ⟨C3.upd,_,rfl,rfl⟩
 have hp := iq Q5 hp
 refine zz 1 <| zo 0 C3 <| zz 4 <| zt 21 (p := (p0.other.length : Int) > 40) (fun Q6 => ?_) (fun Q6 => ?_)
 have hp := ip Q6 hp
 refine zz 27 <| zr' (v := .bool true) ?_
 cases hp
 exact ⟨C3.upd,_,rfl,rfl⟩
 have hp := iq Q6 hp
 refine zz 1 <| zo 0 C3 <| zz 4 <| zt 27 (p := (p0.advisories.length : Int) > 10) (fun Q7 => ?_) (fun Q7 => ?_)
 have hp := ip Q7 hp
 refine zz 21 <| zr' (v := .bool true) ?_
 cases hp
 exact ⟨C3.upd,_,rfl,rfl⟩
 have hp := iq Q7 hp
 refine zz 1 <| zo 0 C3 <| zz 4 <| zt 33 (p := (p0.ownNoise.length : Int) > 8) (fun Q8 => ?_) (fun Q8 => ?_)
 have hp := ip Q8 hp
 refine zz 15 <| zr' (v := .bool true) ?_
 cases hp
 exact ⟨C3.upd,_,rfl,rfl⟩
 have hp := iq Q8 hp
 refine zz 1 <| zo 0 C3 <| zz 5 <| zt 38 (p := (p0.otherNoise.length : Int) > 8) (fun Q9 => ?_) (fun Q9 => ?_)
 have hp := ip Q9 hp
 refine zz 8 <| zr' (v := .bool true) ?_
 cases hp
 exact ⟨C3.upd,_,rfl,rfl⟩
 have hp := iq Q9 hp
 refine zz 3 ?_
 have C := fG hp
 obtain ⟨J10,hJ10,hp⟩ := C
 refine yT (fun (_ : Unit) => [(1,.pointer (some ⟨b3,0,none⟩))]) (fun _ w1 => ∃ Y1 : Hid,St E0 w X w1 Y1 [(b3,.cells (qDr p0 D1 D2 D3 D4 D5 D6 D7 D8 D9 D10 D11 D12 D13 D14 D15 D16 D17 D18 D19 D20 D21 D22 D23 D24) 30 (0,0))] ∧ Le (rd w3 Y3) (rd w1 Y1) ∧ J10 = some y) ?_ ?_
 rintro _ w10 ⟨Y10,C10,B10,hp⟩
 have hp := hJ10.symm.trans hp
 have C := fG hp
 obtain ⟨J11,hJ11,hp⟩ := C
 refine yT (fun (_ : Unit) => [(1,.pointer (some ⟨b3,0,none⟩))]) (fun _ w1 => ∃ Y1 : Hid,St E0 w X w1 Y1 [(b3,.cells (qDr p0 D1 D2 D3 D4 D5 D6 D7 D8 D9 D10 D11 D12 D13 D14 D15 D16 D17 D18 D19 D20 D21 D22 D23 D24) 30 (0,0))] ∧ Le (rd w10 Y10) (rd w1 Y1) ∧ J11 = some y) ?_ ?_
 rintro _ w11 ⟨Y11,C11,B11,hp⟩
 have hp := hJ11.symm.trans hp
 refine zz 3 <| zo 0 C11 <| zz 1 <| zo 0 C11 <| zz 1 <| zo 0 C11 <| zn (fun b => .slice (some ⟨b,0,none⟩) 3 3) (.cells #[.bool p0.alert.neg,.slice D13 p0.alert.ln.length D14,.slice D15 p0.alert.ld.length D16,.bool p0.strengthen.neg,.slice D17 p0.strengthen.ln.length D18,.slice D19 p0.strengthen.ld.length D20,.bool p0.reversal.neg,.slice D21 p0.reversal.ln.length D22,.slice D23 p0.reversal.ld.length D24] 28 (0,0)) C11 fun b13 w13 Y13 C13 B13 V13 => ?_
 have T1_ := (Le3 B3 B10 B11).trans B13
 refine zQ hp fun y15 hy15 hp => zc C13 (rX _ X0 (zM _) ([p0.alert,p0.strengthen,p0.reversal]) _ ⟨_,_,rfl,(nO.ofSl (SlR.lit (El := aJ) (size := 3) (n := 3) [⟨p0.alert,[.bool p0.alert.neg,.slice D13 p0.alert.ln.length D14,.slice D15 p0.alert.ld.length D16]⟩,⟨p0.strengthen,[.bool p0.strengthen.neg,.slice D17 p0.strengthen.ln.length D18,.slice D19 p0.strengthen.ld.length D20]⟩,⟨p0.reversal,[.bool p0.reversal.neg,.slice D21 p0.reversal.ln.length D22,.slice D23 p0.reversal.ld.length D24]⟩] (C13.at0 0 rfl rfl) (List.forall_mem_cons.2 ⟨⟨rfl,fun r2 h2 b o h9 => ⟨_,_,_,_,_,_,h9,(((p0a_h6.mono T1_).mono Le.x0).mono h2),(((p0a_h7.mono T1_).mono Le.x0).mono h2)⟩⟩,(List.forall_mem_cons.2 ⟨⟨rfl,fun r2 h2 b o h9 => ⟨_,_,_,_,_,_,h9,(((p0a_h8.mono T1_).mono Le.x0).mono h2),(((p0a_h9.mono T1_).mono Le.x0).mono h2)⟩⟩,(List.forall_mem_cons.2 ⟨⟨rfl,fun r2 h2 b o h9 => ⟨_,_,_,_,_,_,h9,(((p0a_h10.mono T1_).mono Le.x0).mono h2),(((p0a_h11.mono T1_).mono Le.x0).mono h2)⟩⟩,(List.forall_mem_nil _)⟩)⟩)⟩) rfl (by decide)))⟩ y15 hy15) ?_ (vs := #[.slice (some ⟨b13,0,none⟩) 3 3])
 rintro v16 w16 C16 B16 V16 rfl
 refine zz 4 <| zr' (v := .bool y15) ?_
 cases hp
 exact ⟨C16.upd,_,rfl,rfl⟩
 intro K17 H17
 refine zz 6 ?_
 have hb18 : (p0.otherNoise.length : Int) ≤ 9223372036854775807 := rR (p0a_h5).hcap (p0a_h5).hbig
 refine zlp Tryz.f6 [K17] [1,1,1,9,1,0] (fun (k18 : Nat) => [(1,.pointer (some ⟨b3,0,none⟩)),(4,.int .i64 (k18 : Int))]) (fun k18 w1 => ∃ Y1 : Hid,St E0 w X w1 Y1 [(b3,.cells (qDr p0 D1 D2 D3 D4 D5 D6 D7 D8 D9 D10 D11 D12 D13 D14 D15 D16 D17 D18 D19 D20 D21 D22 D23 D24) 30 (0,0))] ∧ Le (rd w10 Y10) (rd w1 Y1) ∧ qX J11 (p0.otherNoise.drop k18)  = some y) (fun k18 => p0.otherNoise.length - k18) 0 ?_ ?_
 exact ⟨_,C10,Le.refl _,hp⟩
 rintro k18 w18 K18 H18 ⟨Y18,C18,B18,hp⟩
 refine zz 5 <| zo 0 C18 <| zz 4 <| zt 58 (p := (k18 : Int) < (p0.otherNoise.length : Int)) (fun Q19 => ?_) (fun Q19 => ?_)
 have C := xK (l := p0.otherNoise) (k := k18) (qR Q19)
 obtain ⟨x18,O18⟩ := C
 rw [wG O18,qX] at hp
 have L18 : (0 : Int) ≤ (k18 : Int) := Int.natCast_nonneg _
 refine zz 8 <| zo 0 C18 <| zz 1 ?_
 have C := p0a_h5.opn O18
 obtain ⟨be20,oe20,rfl,B20,hEe20⟩ := C
 obtain ⟨e201,e202,e203,e204,e20_at,e20_h0,e20_h1⟩ := hEe20
 refine zi (b := be20) (off := oe20) (len := p0.otherNoise.length) (cap := D12) (kd := .i64) (i := (k18 : Int)) 4 (oe20 + k18 * 4) ?_ (h0 := L18) (h1 := (jS L18 B20))
 refine zz 1 <| zl ((e20_at.mono (Le3 B3 B10 B18)).sub 1 3).cells <| zn (fun b => .slice (some ⟨b,0,none⟩) 1 1) (.cells #[.bool x18.p.neg,.slice e201 x18.p.ln.length e202,.slice e203 x18.p.ld.length e204] 28 (0,0)) C18 fun b22 w22 Y22 C22 B22 V22 => ?_
 have T2_ := (Le3 B3 B10 B18).trans B22
 refine zQ hp fun y24 hy24 hp => zc C22 (rX _ X0 (zM _) ([x18.p]) _ ⟨_,_,rfl,(nO.ofSl (SlR.lit (El := aJ) (size := 3) (n := 1) [⟨x18.p,[.bool x18.p.neg,.slice e201 x18.p.ln.length e202,.slice e203 x18.p.ld.length e204]⟩] (C22.at0 0 rfl rfl) (List.forall_mem_cons.2 ⟨⟨rfl,fun r2 h2 b o h9 => ⟨_,_,_,_,_,_,h9,(((e20_h0.mono T2_).mono Le.x0).mono h2),(((e20_h1.mono T2_).mono Le.x0).mono h2)⟩⟩,(List.forall_mem_nil _)⟩) rfl (by decide)))⟩ y24 hy24) ?_ (vs := #[.slice (some ⟨b22,0,none⟩) 1 1])
 rintro v25 w25 C25 B25 V25 rfl
 refine zz 2 <| zb 68 (b := y24) (fun T26 => ?_) (fun T26 => ?_)
 have hp := ipb T26 hp
 refine zz 12 <| zr' (v := .bool true) ?_
 cases hp
 exact ⟨C25.upd,_,rfl,rfl⟩
 have hp := iqb T26 hp
 refine zz 7 <| zs 60 (v := .int .i64 (i64.wrap ((k18 : Int) + 1))) (v' := .int .i64 ((k18 : Int) + 1)) (zR (jE (wk0 k18) (wk1 Q19 hb18))) <| zz 2 <| zP (fun a h => H18 (k18 + 1) _ a h ⟨_,C25.tail,(Le3 B18 B22 B25),hp⟩ ?_)
 exact vK Q19
 rw [List.drop_eq_nil_of_le (qI Q19),qX] at hp
 refine zz 5 ?_
 exact zP (fun a h => H17 () _ a h ⟨_,C18,B18,hp⟩)
 intro K27 H27
 refine zz 6 ?_
 have hb28 : (p0.ownNoise.length : Int) ≤ 9223372036854775807 := rR (p0a_h4).hcap (p0a_h4).hbig
 refine zlp Tryz.f6 [K27] [1,1,9,1,0] (fun (k28 : Nat) => [(1,.pointer (some ⟨b3,0,none⟩)),(3,.int .i64 (k28 : Int))]) (fun k28 w1 => ∃ Y1 : Hid,St E0 w X w1 Y1 [(b3,.cells (qDr p0 D1 D2 D3 D4 D5 D6 D7 D8 D9 D10 D11 D12 D13 D14 D15 D16 D17 D18 D19 D20 D21 D22 D23 D24) 30 (0,0))] ∧ Le (rd w3 Y3) (rd w1 Y1) ∧ qW J10 (p0.ownNoise.drop k28)  = some y) (fun k28 => p0.ownNoise.length - k28) 0 ?_ ?_
 exact ⟨_,C3,Le.refl _,hp⟩
 rintro k28 w28 K28 H28 ⟨Y28,C28,B28,hp⟩
 refine zz 5 <| zo 0 C28 <| zz 4 <| zt 43 (p := (k28 : Int) < (p0.ownNoise.length : Int)) (fun Q29 => ?_) (fun Q29 => ?_)
 have C := xK (l := p0.ownNoise) (k := k28) (qR Q29)
 obtain ⟨x28,O28⟩ := C
 rw [wG O28,qW] at hp
 have L28 : (0 : Int) ≤ (k28 : Int) := Int.natCast_nonneg _
 refine zz 8 <| zo 0 C28 <| zz 1 ?_
 have C := p0a_h4.opn O28
 obtain ⟨be30,oe30,rfl,B30,hEe30⟩ := C
 obtain ⟨e301,e302,e303,e304,e30_at,e30_h0,e30_h1⟩ := hEe30
 refine zi (b := be30) (off := oe30) (len := p0.ownNoise.length) (cap := D10) (kd := .i64) (i := (k28 : Int)) 4 (oe30 + k28 * 4) ?_ (h0 := L28) (h1 := (jS L28 B30))
 refine zz 1 <| zl ((e30_at.mono (Le2 B3 B28)).sub 1 3).cells <| zn (fun b => .slice (some ⟨b,0,none⟩) 1 1) (.cells #[.bool x28.p.neg,.slice e301 x28.p.ln.length e302,.slice e303 x28.p.ld.length e304] 28 (0,0)) C28 fun b32 w32 Y32 C32 B32 V32 => zQ hp fun y34 hy34 hp => zc C32 (rX _ X0 (zM _) ([x28.p]) _ ⟨_,_,rfl,(nO.ofSl (SlR.lit (El := aJ) (size := 3) (n := 1) [⟨x28.p,[.bool x28.p.neg,.slice e301 x28.p.ln.length e302,.slice e303 x28.p.ld.length e304]⟩] (C32.at0 0 rfl rfl) (List.forall_mem_cons.2 ⟨⟨rfl,fun r2 h2 b o h9 => ⟨_,_,_,_,_,_,h9,(((e30_h0.mono (Le3 B3 B28 B32)).mono Le.x0).mono h2),(((e30_h1.mono (Le3 B3 B28 B32)).mono Le.x0).mono h2)⟩⟩,(List.forall_mem_nil _)⟩) rfl (by decide)))⟩ y34 hy34) ?_ (vs := #[.slice (some ⟨b32,0,none⟩) 1 1])
 rintro v35 w35 C35 B35 V35 rfl
 refine zz 2 <| zb 53 (b := y34) (fun T36 => ?_) (fun T36 => ?_)
 have hp := ipb T36 hp
 refine zz 12 <| zr' (v := .bool true) ?_
 cases hp
 exact ⟨C35.upd,_,rfl,rfl⟩
 have hp := iqb T36 hp
 refine zz 7 <| zs 45 (v := .int .i64 (i64.wrap ((k28 : Int) + 1))) (v' := .int .i64 ((k28 : Int) + 1)) (zR (jE (wk0 k28) (wk1 Q29 hb28))) <| zz 2 <| zP (fun a h => H28 (k28 + 1) _ a h ⟨_,C35.tail,(Le3 B28 B32 B35),hp⟩ ?_)
 exact vK Q29
 rw [List.drop_eq_nil_of_le (qI Q29),qW] at hp
 refine zz 5 ?_
 exact zP (fun a h => H27 () _ a h ⟨_,C28,B28,hp⟩)
noncomputable def yG : Option (zO) :=
 (vV (1 : Int)).bind fun y5 => (kL (1 : Int) (10 : Int)).bind fun y18 => some (zO.mk ([(-100),0,100]) ([0,10]) ([0]) ([(qJ.mk 0 0 0),(qJ.mk 1 10 20)]) 5 50 0 ([(zV.mk 0 y5)]) ([(zV.mk 0 y5)]) y18 Raw.zero Raw.zero)
include hX in
theorem kU  (y : zO) (hp : yG = some y) : Calls Tryz.prog 41 #[] w (Ret E0 w fun w' v => zW (rd w' (old w)) v y) := by
 unfold yG at hp
 refine zen Tryz.func41 ?_
 have C0 : St E0 w X w X [] := St.start hX
 refine zz 2 <| zn pn (.cells #[.slice none 0 0,.slice none 0 0,.slice none 0 0,.slice none 0 0,.int .i64 0,.int .i64 0,.int .i64 0,.slice none 0 0,.slice none 0 0,.bool false,.slice none 0 0,.slice none 0 0,.bool false,.slice none 0 0,.slice none 0 0,.bool false,.slice none 0 0,.slice none 0 0] 30 (0,0)) C0 fun b3 w3 Y3 C3 B3 V3 => zz 4 <| zQ hp fun y5 hy5 hp => zc C3 (lF _ X0 (zM _) (1 : Int) y5 hy5) ?_
 rintro v6 w6 C6 B6 V6 ⟨u6_0_1,u6_0_2,u6_0_3,u6_0_4,u6_0_5,u6_0_6,rfl,u6_0__h0,u6_0__h1⟩
 have C := u6_0__h0.hlen
 subst C
 have C := u6_0__h1.hlen
 subst C
 refine zz 1 <| zn (fun b => .slice (some ⟨b,0,none⟩) 1 1) (.cells #[.int .i64 0,.bool y5.neg,.slice u6_0_1 y5.ln.length u6_0_3,.slice u6_0_4 y5.ld.length u6_0_6] 76 (0,0)) C6 fun b8 w8 Y8 C8 B8 V8 => zz 5 <| zn (fun b => .slice (some ⟨b,0,none⟩) 3 3) (.cells #[.int .i64 (-100),.int .i64 0,.int .i64 100] 3 (0,0)) C8 fun b10 w10 Y10 C10 B10 V10 => zn (fun b => .slice (some ⟨b,0,none⟩) 2 2) (.cells #[.int .i64 0,.int .i64 10] 3 (0,0)) C10 fun b12 w12 Y12 C12 B12 V12 => zn (fun b => .slice (some ⟨b,0,none⟩) 1 1) (.cells #[.int .i64 0] 3 (0,0)) C12 fun b14 w14 Y14 C14 B14 V14 => zz 2 <| zn (fun b => .slice (some ⟨b,0,none⟩) 2 2) (.cells #[.int .u8 0,.int .i64 0,.int .i64 0,.int .u8 1,.int .i64 10,.int .i64 20] 96 (0,0)) C14 fun b16 w16 Y16 C16 B16 V16 => zz 2 ?_
 refine zQ hp fun y18 hy18 hp => zc C16 (xZ _ X0 (zM _) (1 : Int) (10 : Int) y18 hy18) ?_
 rintro v19 w19 C19 B19 V19 ⟨u19_0_1,u19_0_2,u19_0_3,u19_0_4,u19_0_5,u19_0_6,rfl,u19_0__h0,u19_0__h1⟩
 have C := u19_0__h0.hlen
 subst C
 have C := u19_0__h1.hlen
 subst C
 refine zz 1 <| zx 5 #[.slice (some ⟨b10,0,none⟩) 3 3,.slice (some ⟨b12,0,none⟩) 2 2,.slice (some ⟨b14,0,none⟩) 1 1,.slice (some ⟨b16,0,none⟩) 2 2,.int .i64 5,.int .i64 50,.int .i64 0,.slice (some ⟨b8,0,none⟩) 1 1,.slice (some ⟨b8,0,none⟩) 1 1,.bool y18.neg,.slice u19_0_1 y18.ln.length u19_0_3,.slice u19_0_4 y18.ld.length u19_0_6,.bool false,.slice none 0 0,.slice none 0 0,.bool false,.slice none 0 0,.slice none 0 0] C19 fun w20 C20 B20 => zz 3 <| zrS [.cell 0 30] (v := .agg #[.slice (some ⟨b10,0,none⟩) 3 3,.slice (some ⟨b12,0,none⟩) 2 2,.slice (some ⟨b14,0,none⟩) 1 1,.slice (some ⟨b16,0,none⟩) 2 2,.int .i64 5,.int .i64 50,.int .i64 0,.slice (some ⟨b8,0,none⟩) 1 1,.slice (some ⟨b8,0,none⟩) 1 1,.bool y18.neg,.slice u19_0_1 y18.ln.length u19_0_3,.slice u19_0_4 y18.ld.length u19_0_6,.bool false,.slice none 0 0,.slice none 0 0,.bool false,.slice none 0 0,.slice none 0 0]) (Res.cM C20 5 Res.nil) ?_
 have C := St.pubAt 3 C20 rfl
 obtain ⟨Y21,hSx21,B21,hat21,hatN21⟩ := C
 have C21 : St E0 w X w20 Y21 [(b16,.cells #[.int .u8 0,.int .i64 0,.int .i64 0,.int .u8 1,.int .i64 10,.int .i64 20] 96 (0,0)),(b14,.cells #[.int .i64 0] 3 (0,0)),(b12,.cells #[.int .i64 0,.int .i64 10] 3 (0,0)),(b8,.cells #[.int .i64 0,.bool y5.neg,.slice u6_0_1 y5.ln.length u6_0_3,.slice u6_0_4 y5.ld.length u6_0_6] 76 (0,0)),(b3,.cells #[.slice (some ⟨b10,0,none⟩) 3 3,.slice (some ⟨b12,0,none⟩) 2 2,.slice (some ⟨b14,0,none⟩) 1 1,.slice (some ⟨b16,0,none⟩) 2 2,.int .i64 5,.int .i64 50,.int .i64 0,.slice (some ⟨b8,0,none⟩) 1 1,.slice (some ⟨b8,0,none⟩) 1 1,.bool y18.neg,.slice u19_0_1 y18.ln.length u19_0_3,.slice u19_0_4 y18.ld.length u19_0_6,.bool false,.slice none 0 0,.slice none 0 0,.bool false,.slice none 0 0,.slice none 0 0] 30 (0,0))] := hSx21
 have hR21 : wK (rd w20 (orN Y21 w.heap.size)) (some ⟨b10,0,none⟩) 3 3 [(-100),0,100] := (SlR.lit (El := sG) (size := 1) (n := 3) [⟨((-100) : Int),[.int .i64 (-100)]⟩,⟨(0 : Int),[.int .i64 0]⟩,⟨(100 : Int),[.int .i64 100]⟩] (hatN21 _ (Nat.le_refl _)) (List.forall_mem_cons.2 ⟨⟨rfl,fun r2 h2 b o h9 => h9⟩,(List.forall_mem_cons.2 ⟨⟨rfl,fun r2 h2 b o h9 => h9⟩,(List.forall_mem_cons.2 ⟨⟨rfl,fun r2 h2 b o h9 => h9⟩,(List.forall_mem_nil _)⟩)⟩)⟩) rfl (by decide))
 have C := St.pubAt 2 C21 rfl
 obtain ⟨Y22,hSx22,B22,hat22,hatN22⟩ := C
 have C22 : St E0 w X w20 Y22 [(b16,.cells #[.int .u8 0,.int .i64 0,.int .i64 0,.int .u8 1,.int .i64 10,.int .i64 20] 96 (0,0)),(b14,.cells #[.int .i64 0] 3 (0,0)),(b8,.cells #[.int .i64 0,.bool y5.neg,.slice u6_0_1 y5.ln.length u6_0_3,.slice u6_0_4 y5.ld.length u6_0_6] 76 (0,0)),(b3,.cells #[.slice (some ⟨b10,0,none⟩) 3 3,.slice (some ⟨b12,0,none⟩) 2 2,.slice (some ⟨b14,0,none⟩) 1 1,.slice (some ⟨b16,0,none⟩) 2 2,.int .i64 5,.int .i64 50,.int .i64 0,.slice (some ⟨b8,0,none⟩) 1 1,.slice (some ⟨b8,0,none⟩) 1 1,.bool y18.neg,.slice u19_0_1 y18.ln.length u19_0_3,.slice u19_0_4 y18.ld.length u19_0_6,.bool false,.slice none 0 0,.slice none 0 0,.bool false,.slice none 0 0,.slice none 0 0] 30 (0,0))] := hSx22
 have hR22 : wK (rd w20 (orN Y22 w.heap.size)) (some ⟨b12,0,none⟩) 2 2 [0,10] := (SlR.lit (El := sG) (size := 1) (n := 2) [⟨(0 : Int),[.int .i64 0]⟩,⟨(10 : Int),[.int .i64 10]⟩] (hatN22 _ (Nat.le_refl _)) (List.forall_mem_cons.2 ⟨⟨rfl,fun r2 h2 b o h9 => h9⟩,(List.forall_mem_cons.2 ⟨⟨rfl,fun r2 h2 b o h9 => h9⟩,(List.forall_mem_nil _)⟩)⟩) rfl (by decide))
 have C := St.pubAt 1 C22 rfl
 obtain ⟨Y23,hSx23,B23,hat23,hatN23⟩ := C
 have C23 : St E0 w X w20 Y23 [(b16,.cells #[.int .u8 0,.int .i64 0,.int .i64 0,.int .u8 1,.int .i64 10,.int .i64 20] 96 (0,0)),(b8,.cells #[.int .i64 0,.bool y5.neg,.slice u6_0_1 y5.ln.length u6_0_3,.slice u6_0_4 y5.ld.length u6_0_6] 76 (0,0)),(b3,.cells #[.slice (some ⟨b10,0,none⟩) 3 3,.slice (some ⟨b12,0,none⟩) 2 2,.slice (some ⟨b14,0,none⟩) 1 1,.slice (some ⟨b16,0,none⟩) 2 2,.int .i64 5,.int .i64 50,.int .i64 0,.slice (some ⟨b8,0,none⟩) 1 1,.slice (some ⟨b8,0,none⟩) 1 1,.bool y18.neg,.slice u19_0_1 y18.ln.length u19_0_3,.slice u19_0_4 y18.ld.length u19_0_6,.bool false,.slice none 0 0,.slice none 0 0,.bool false,.slice none 0 0,.slice none 0 0] 30 (0,0))] := hSx23
 have hR23 : wK (rd w20 (orN Y23 w.heap.size)) (some ⟨b14,0,none⟩) 1 1 [0] := (SlR.lit (El := sG) (size := 1) (n := 1) [⟨(0 : Int),[.int .i64 0]⟩] (hatN23 _ (Nat.le_refl _)) (List.forall_mem_cons.2 ⟨⟨rfl,fun r2 h2 b o h9 => h9⟩,(List.forall_mem_nil _)⟩) rfl (by decide))
 have C := St.pubAt 0 C23 rfl
 obtain ⟨Y24,hSx24,B24,hat24,hatN24⟩ := C
 have C24 : St E0 w X w20 Y24 [(b8,.cells #[.int .i64 0,.bool y5.neg,.slice u6_0_1 y5.ln.length u6_0_3,.slice u6_0_4 y5.ld.length u6_0_6] 76 (0,0)),(b3,.cells #[.slice (some ⟨b10,0,none⟩) 3 3,.slice (some ⟨b12,0,none⟩) 2 2,.slice (some ⟨b14,0,none⟩) 1 1,.slice (some ⟨b16,0,none⟩) 2 2,.int .i64 5,.int .i64 50,.int .i64 0,.slice (some ⟨b8,0,none⟩) 1 1,.slice (some ⟨b8,0,none⟩) 1 1,.bool y18.neg,.slice u19_0_1 y18.ln.length u19_0_3,.slice u19_0_4 y18.ld.length u19_0_6,.bool false,.slice none 0 0,.slice none 0 0,.bool false,.slice none 0 0,.slice none 0 0] 30 (0,0))] := hSx24
 have hR24 : wC (rd w20 (orN Y24 w.heap.size)) (some ⟨b16,0,none⟩) 2 2 [(qJ.mk 0 0 0),(qJ.mk 1 10 20)] := (SlR.lit (El := nS) (size := 3) (n := 2) [⟨(qJ.mk 0 0 0),[.int .u8 0,.int .i64 0,.int .i64 0]⟩,⟨(qJ.mk 1 10 20),[.int .u8 1,.int .i64 10,.int .i64 20]⟩] (hatN24 _ (Nat.le_refl _)) (List.forall_mem_cons.2 ⟨⟨rfl,fun r2 h2 b o h9 => h9⟩,(List.forall_mem_cons.2 ⟨⟨rfl,fun r2 h2 b o h9 => h9⟩,(List.forall_mem_nil _)⟩)⟩) rfl (by decide))
 have C := St.pubAt 0 C24 rfl
 obtain ⟨Y25,hSx25,B25,hat25,hatN25⟩ := C
 have C25 : St E0 w X w20 Y25 [(b3,.cells #[.slice (some ⟨b10,0,none⟩) 3 3,.slice (some ⟨b12,0,none⟩) 2 2,.slice (some ⟨b14,0,none⟩) 1 1,.slice (some ⟨b16,0,none⟩) 2 2,.int .i64 5,.int .i64 50,.int .i64 0,.slice (some ⟨b8,0,none⟩) 1 1,.slice (some ⟨b8,0,none⟩) 1 1,.bool y18.neg,.slice u19_0_1 y18.ln.length u19_0_3,.slice u19_0_4 y18.ld.length u19_0_6,.bool false,.slice none 0 0,.slice none 0 0,.bool false,.slice none 0 0,.slice none 0 0] 30 (0,0))] := hSx25
 have T1_ := (zNu B8 B10 B12 B14 B16 B19 B20 B21 B22 B23 B24).trans B25
 have hR25 : kQ (rd w20 (orN Y25 w.heap.size)) (some ⟨b8,0,none⟩) 1 1 [(zV.mk 0 y5)] := (SlR.lit (El := lQ) (size := 4) (n := 1) [⟨(zV.mk 0 y5),[.int .i64 0,.bool y5.neg,.slice u6_0_1 y5.ln.length u6_0_3,.slice u6_0_4 y5.ld.length u6_0_6]⟩] (hatN25 _ (Nat.le_refl _)) (List.forall_mem_cons.2 ⟨⟨rfl,fun r2 h2 b o h9 => ⟨_,_,_,_,h9,((u6_0__h0.mono (Le.own C3.lt C3.upd.size T1_)).mono h2),((u6_0__h1.mono (Le.own C3.lt C3.upd.size T1_)).mono h2)⟩⟩,(List.forall_mem_nil _)⟩) rfl (by decide))
 cases hp
 have T2_ := (Le3 B22 B23 B24).trans B25
 have T3_ := (Le5 B20 B21 B22 B23 B24).trans B25
 exact ⟨C25.upd,_,rfl,⟨_,_,_,_,_,_,_,_,_,_,_,_,_,_,_,_,_,_,_,_,_,_,_,_,rfl,((hR21.mono (Le.or T2_ _))).mono Le.orr,((hR22.mono (Le.or (Le3 B23 B24 B25) _))).mono Le.orr,((hR23.mono (Le.or (Le2 B24 B25) _))).mono Le.orr,((hR24.mono (Le.or B25 _))).mono Le.orr,((hR25.mono (Le.or (Le.refl _) _))).mono Le.orr,((hR25.mono (Le.or (Le.refl _) _))).mono Le.orr,((u19_0__h0.mono (Le.own C16.lt C16.upd.size T3_))).mono Le.orr,((u19_0__h1.mono (Le.own C16.lt C16.upd.size T3_))).mono Le.orr,zL.nil0,zL.nil0,zL.nil0,zL.nil0⟩⟩
end
section
variable (w : World) (X : Hid) (hX : ∀ k o,X k o → k < w.heap.size)
set_option maxHeartbeats 1000000
noncomputable def vI (p0 : List Int) (p1 : Int) (x4 : Int) (x6 : Int) (J9 : (List yS) → Option ((List yS))) : List Int → Nat → Option ((List yS))
 | [],k13 => J9 ([] : List yS)
 | x13 :: r13,k13 => (some ((if (if (x6) < p1 then x6 else p1) > x4 then if (x6) < p1 then x6 else p1 else x4) == x13)).bind fun z16 => if z16 = true then ((fD (1 : Int) (1 : Int)).bind fun y20 => grd ((([] : List yS).length + 1) * 64 ≤ 140737488355328) <| J9 (([] : List yS) ++ [(yS.mk (k13 : Int) y20.1)])) else ((some (decide ((if (if (x6) < p1 then x6 else p1) > x4 then if (x6) < p1 then x6 else p1 else x4) < x13))).bind fun z34 => if z34 = true then ((ix p0 (i64.wrap ((k13 : Int) - 1))).bind fun x36 => (some (i64.wrap ((x13) - (if (if (x6) < p1 then x6 else p1) > x4 then if (x6) < p1 then x6 else p1 else x4)))).bind fun z38 => (fD (z38) (i64.wrap ((x13) - x36))).bind fun y41 => grd ((([] : List yS).length + 1) * 64 ≤ 140737488355328) <| (some (i64.wrap ((if (if (x6) < p1 then x6 else p1) > x4 then if (x6) < p1 then x6 else p1 else x4) - x36))).bind fun z55 => (fD (z55) (i64.wrap ((x13) - x36))).bind fun y58 => grd (((([] : List yS) ++ [(yS.mk (i64.wrap ((k13 : Int) - 1)) y41.1)]).length + 1) * 64 ≤ 140737488355328) <| J9 ((([] : List yS) ++ [(yS.mk (i64.wrap ((k13 : Int) - 1)) y41.1)]) ++ [(yS.mk (k13 : Int) y58.1)])) else (vI p0 p1 x4 x6 J9 r13 (k13 + 1)))
noncomputable def tC (p0 : List Int) (p1 : Int) : Option ((List yS)) :=
 (ix p0 (0 : Int)).bind fun x4 => (ix p0 (i64.wrap ((p0.length : Int) - 1))).bind fun x6 => lt (fun (v9_0 : List yS) => some v9_0) fun J9 => vI p0 p1 x4 x6 J9 (p0.drop 0) 0
include hX in
theorem zFu (p0 : List Int) (vp0 : Value) (hp0 : SV wK (rd w X) vp0 p0) (p1 : Int) (y : (List yS)) (hp : tC p0 p1 = some y) : Calls Tryz.prog 133 #[vp0,.int .i64 p1] w (Ret E0 w fun w' v => SV zDd (rd w' (old w)) v y) := by
 obtain ⟨D1,D2,rfl,p0a_h0⟩ := hp0
 unfold tC at hp
 refine zen Tryz.func133 ?_
 have C0 : St E0 w X w X [] := St.start hX
 refine zz 2 <| zn pn (.cells #[.slice none 0 0] 173 (0,0)) C0 fun b3 w3 Y3 C3 B3 V3 => zz 4 <| zdr C3 <| zQ hp fun x4 hx4 hp => ?_
 have C := jU hx4
 obtain ⟨L4,O4⟩ := C
 have hwx4 : p0[0]? = some x4 := O4
 have C := p0a_h0.opn hwx4
 obtain ⟨be5,oe5,rfl,B5,hEe5⟩ := C
 have hAe5 : At (rd w X) ⟨be5,oe5 + 0 * 1,none⟩ [.int .i64 x4] := hEe5
 refine gz [0] <| gi 1 (b := be5) (off := oe5) (len := p0.length) (cap := D2) (kd := .i64) (i := 0) 1 (oe5 + 0 * 1) ?_ (h0 := L4) (h1 := (jS L4 B5))
 refine gl 2 ((hAe5.mono B3)) <| zQ hp fun x6 hx6 hp => ?_
 have C := jU hx6
 obtain ⟨L6,O6⟩ := C
 have C := p0a_h0.opn2 O6
 obtain ⟨B7,hEe7⟩ := C
 have hAe7 : At (rd w X) ⟨be5,oe5 + (i64.wrap ((p0.length : Int) - 1)).toNat * 1,none⟩ [.int .i64 x6] := hEe7
 refine gz [3,4,5,6,7] <| gi 8 (b := be5) (off := oe5) (len := p0.length) (cap := D2) (kd := .i64) (i := i64.wrap ((p0.length : Int) - 1)) 1 (oe5 + (i64.wrap ((p0.length : Int) - 1)).toNat * 1) ?_ (h0 := L6) (h1 := (jS L6 B7))
 refine gl 9 ((hAe7.mono B3)) <| gz [10,11,12] ?_
 refine yO (fun w8 Y8 C8 B8 => ?_)
 refine zz 10 ?_
 have C := rQ hp
 obtain ⟨J9,hJ9,hp⟩ := C
 refine yT (fun ((v9_0,rb9_0,ad9_0,m9_0,cap9_0) : (List yS) × (List (Nat × Obj)) × (Option Addr) × Nat × Nat) => [(4,.pointer (some ⟨b3,0,none⟩))]) (fun (v9_0,rb9_0,ad9_0,m9_0,cap9_0) w1 => ∃ Y1 : Hid,St E0 w X w1 Y1 ((b3,.cells #[.slice ad9_0 m9_0 cap9_0] 173 (0,0)) :: rb9_0) ∧ Le (rd w8 Y8) (rd w1 Y1) ∧ jX mD 176 4 (rd w1 (orN Y1 w.heap.size)) rb9_0 ad9_0 m9_0 cap9_0 v9_0 ∧ J9 v9_0 = some y) ?_ ?_
 rintro ⟨v9_0,rb9_0,ad9_0,m9_0,cap9_0⟩ w9 ⟨Y9,C9,B9,P9_0_0,hp⟩
 have hp := (hJ9 _).symm.trans hp
 refine zz 2 <| zo 0 C9 <| zx 0 #[.slice ad9_0 m9_0 cap9_0] C9 fun w10 C10 B10 => zz 4 <| zrS [.cell 4 173] (v := .slice ad9_0 m9_0 cap9_0) (Res.cM C10 0 Res.nil) ?_
 have C := St.pubGRN (A := [(b3,.cells #[.slice ad9_0 m9_0 cap9_0] 173 (0,0))]) (B := []) (fun rb => ((b3,.cells #[.slice ad9_0 m9_0 cap9_0] 173 (0,0)) :: rb)) C10 (fun _ => by simp only [List.append_assoc,List.cons_append,List.nil_append,List.append_nil]) (P9_0_0.mono (Le.or B10 _)) (Nat.le_refl _) mD.at
 obtain ⟨Y11,hSx11,B11,hRx11⟩ := C
 have C11 : St E0 w X w10 Y11 [(b3,.cells #[.slice ad9_0 m9_0 cap9_0] 173 (0,0))] := hSx11
 have C := hRx11.hlen
 subst C
 have hR11 : zDd (rd w10 (orN Y11 w.heap.size)) ad9_0 v9_0.length cap9_0 v9_0 := hRx11
 cases hp
 exact ⟨C11.upd,_,rfl,⟨_,_,rfl,((hR11.mono (Le.or (Le.refl _) _))).mono Le.orr⟩⟩
 intro K12 H12
 refine zz 8 ?_
 have hb13 : (p0.length : Int) ≤ 9223372036854775807 := rR (p0a_h0).hcap (p0a_h0).hbig
 refine zlp Tryz.f133 [K12] [1,0,1,1,1,9,1,0] (fun (k13 : Nat) => [(0,.slice (some ⟨be5,oe5,none⟩) p0.length D2),(1,.int .i64 (if (if (x6) < p1 then x6 else p1) > x4 then if (x6) < p1 then x6 else p1 else x4)),(4,.pointer (some ⟨b3,0,none⟩)),(5,.func (.func 161) #[] #[.pointer (some ⟨b3,0,none⟩)]),(22,.slice (some ⟨be5,oe5,none⟩) p0.length D2),(23,.int .i64 (p0.length : Int)),(24,.int .i64 (k13 : Int))]) (fun k13 w1 => ∃ Y1 : Hid,St E0 w X w1 Y1 [(b3,.cells #[.slice none 0 0] 173 (0,0))] ∧ Le (rd w8 Y8) (rd w1 Y1) ∧ vI p0 p1 x4 x6 J9 (p0.drop k13) k13 = some y) (fun k13 => p0.length - k13) 0 ?_ ?_
 exact ⟨_,C8,Le.refl _,hp⟩
 rintro k13 w13 K13 H13 ⟨Y13,C13,B13,hp⟩
 refine zz 6 <| zt 25 (p := (k13 : Int) < (p0.length : Int)) (fun Q14 => ?_) (fun Q14 => ?_)
 have C := xK (l := p0) (k := k13) (qR Q14)
 obtain ⟨x13,O13⟩ := C
 rw [wG O13,vI] at hp
 have L13 : (0 : Int) ≤ (k13 : Int) := Int.natCast_nonneg _
 refine zz 8 ?_
 have C := p0a_h0.opn2 O13
 obtain ⟨B15,hEe15⟩ := C
 have hAe15 : At (rd w X) ⟨be5,oe5 + k13 * 1,none⟩ [.int .i64 x13] := hEe15
 refine zi (b := be5) (off := oe5) (len := p0.length) (cap := D2) (kd := .i64) (i := (k13 : Int)) 1 (oe5 + k13 * 1) ?_ (h0 := L13) (h1 := (jS L13 B15))
 refine zl ((hAe15.mono (Le3 B3 B8 B13))).cells <| zQ hp fun z16 hz16 hp => zz 10 <| zs 32 (v := .bool ((if (if (x6) < p1 then x6 else p1) > x4 then if (x6) < p1 then x6 else p1 else x4) == x13)) (v' := .bool z16) (zJ (Option.some.inj hz16)) <| zz 3 <| zb 29 (b := z16) (fun T17 => ?_) (fun T17 => ?_)
 have hp := ipb T17 hp
 refine zz 5 <| zci (vs := #[.int .i64 (k13 : Int),.int .i64 1,.int .i64 1,.pointer (some ⟨b3,0,none⟩)]) Tryz.func161 (fun R18 hR18 => ?_)
 refine zz 4 <| zQ hp fun y20 hy20 hp => zc C13 (zDf _ X0 (zM _) (1 : Int) (1 : Int) y20 hy20) ?_
 rintro v21 w21 C21 B21 V21 ⟨uu21_0,rfl,⟨u21_0_1,u21_0_2,u21_0_3,u21_0_4,u21_0_5,u21_0_6,rfl,u21_0__h0,u21_0__h1⟩⟩
 have C := u21_0__h0.hlen
 subst C
 have C := u21_0__h1.hlen
 subst C
 refine zz 3 <| zn pn (.cells #[.bool false,.slice none 0 0,.slice none 0 0] 28 (0,0)) C21 fun b23 w23 Y23 C23 B23 V23 => zx 0 #[.bool y20.1.neg,.slice u21_0_1 y20.1.ln.length u21_0_3,.slice u21_0_4 y20.1.ld.length u21_0_6] C23 fun w24 C24 B24 => zz 4 <| zo 1 C24 <| zz 1 <| zo 0 C24 <| zz 1 <| zn (fun b => .slice (some ⟨b,0,none⟩) 1 1) (.cells #[.int .i64 (k13 : Int),.bool y20.1.neg,.slice u21_0_1 y20.1.ln.length u21_0_3,.slice u21_0_4 y20.1.ld.length u21_0_6] 176 (0,0)) C24 fun b26 w26 Y26 C26 B26 V26 => ?_
 have C := nC hp
 obtain ⟨hg29,hp⟩ := C
 have C := (jX.nil : jX mD 176 4 (rd w26 (orN Y26 w.heap.size)) [] none 0 0 [])
 obtain ⟨es30,hr30,hq30,hk30,hm30⟩ := C
 refine zop (at1 [] Tryz.f161 [1]) 5 (fun a27 _ G27 hz27 => tK (b := 64) (m := 1) (c := 1) (ad := ⟨b26,0,none⟩) (news := [.int .i64 (k13 : Int),.bool y20.1.neg,.slice u21_0_1 y20.1.ln.length u21_0_3,.slice u21_0_4 y20.1.ld.length u21_0_6]) (i0 := Tryz.t176) (rb := []) (R1 := []) 3 G27 C26 rfl hr30 (C26.cells 0 rfl rfl) (lY hg29 rfl rfl) (lX hg29 rfl) ?_)
 intro rb31 ad31 cap31 w31 Y31 F31 C31 B31 a32 G32
 have T1_ := (Le3 B23 B24 B26).trans B31
 have hg31 : jX mD 176 4 (rd w31 (orN Y31 w.heap.size)) rb31 ad31 (0 + 1) cap31 (([] : List yS) ++ [(yS.mk (k13 : Int) y20.1)]) := jX.snoc F31 hq30 hk30 hm30 (Le.or B31 _) ⟨rfl,fun r2 h2 => ⟨_,_,_,_,rfl,((u21_0__h0.mono (Le.own C13.lt C13.upd.size T1_)).mono h2),((u21_0__h1.mono (Le.own C13.lt C13.upd.size T1_)).mono h2)⟩⟩
 refine hz27 G32 <| zx 2 #[.slice ad31 (0 + 1) cap31] C31 fun w33 C33 B33 => zz 1 <| zr' (v := .tuple #[]) ?_
 refine hR18 _ _ <| zz 8 ?_
 have T2_ := (Le6 B13 B21 B23 B24 B26 B31).trans B33
 exact zP (fun a h => H12 ((([] : List yS) ++ [(yS.mk (k13 : Int) y20.1)]),rb31,ad31,(0 + 1),cap31) _ a h ⟨_,C33.tail.tail,T2_,(hg31.mono (Le.or B33 _)),hp⟩)
 have hp := iqb T17 hp
 refine zQ hp fun z34 hz34 hp => zz 6 <| zs 39 (v := .bool (decide ((if (if (x6) < p1 then x6 else p1) > x4 then if (x6) < p1 then x6 else p1 else x4) < x13))) (v' := .bool z34) (zJ (Option.some.inj hz34)) <| zz 3 <| zb 36 (b := z34) (fun T35 => ?_) (fun T35 => ?_)
 have hp := ipb T35 hp
 refine zz 6 <| zQ hp fun x36 hx36 hp => ?_
 have C := jU hx36
 obtain ⟨L36,O36⟩ := C
 have C := p0a_h0.opn2 O36
 obtain ⟨B37,hEe37⟩ := C
 have hAe37 : At (rd w X) ⟨be5,oe5 + (i64.wrap ((k13 : Int) - 1)).toNat * 1,none⟩ [.int .i64 x36] := hEe37
 refine zi (b := be5) (off := oe5) (len := p0.length) (cap := D2) (kd := .i64) (i := i64.wrap ((k13 : Int) - 1)) 1 (oe5 + (i64.wrap ((k13 : Int) - 1)).toNat * 1) ?_ (h0 := L36) (h1 := (jS L36 B37))
 refine zl ((hAe37.mono (Le3 B3 B8 B13))).cells <| zQ hp fun z38 hz38 hp => zz 11 <| zs 50 (v := .int .i64 (i64.wrap ((x13) - (if (if (x6) < p1 then x6 else p1) > x4 then if (x6) < p1 then x6 else p1 else x4)))) (v' := .int .i64 z38) (zR (Option.some.inj hz38)) <| zz 3 <| zci (vs := #[.int .i64 (i64.wrap ((k13 : Int) - 1)),.int .i64 z38,.int .i64 (i64.wrap ((x13) - x36)),.pointer (some ⟨b3,0,none⟩)]) Tryz.func161 (fun R39 hR39 => ?_)
 refine zz 4 <| zQ hp fun y41 hy41 hp => zc C13 (zDf _ X0 (zM _) (z38) (i64.wrap ((x13) - x36)) y41 hy41) ?_
 rintro v42 w42 C42 B42 V42 ⟨uu42_0,rfl,⟨u42_0_1,u42_0_2,u42_0_3,u42_0_4,u42_0_5,u42_0_6,rfl,u42_0__h0,u42_0__h1⟩⟩
 have C := u42_0__h0.hlen
 subst C
 have C := u42_0__h1.hlen
 subst C
 refine zz 3 <| zn pn (.cells #[.bool false,.slice none 0 0,.slice none 0 0] 28 (0,0)) C42 fun b44 w44 Y44 C44 B44 V44 => zx 0 #[.bool y41.1.neg,.slice u42_0_1 y41.1.ln.length u42_0_3,.slice u42_0_4 y41.1.ld.length u42_0_6] C44 fun w45 C45 B45 => zz 4 <| zo 1 C45 <| zz 1 <| zo 0 C45 <| zz 1 <| zn (fun b => .slice (some ⟨b,0,none⟩) 1 1) (.cells #[.int .i64 (i64.wrap ((k13 : Int) - 1)),.bool y41.1.neg,.slice u42_0_1 y41.1.ln.length u42_0_3,.slice u42_0_4 y41.1.ld.length u42_0_6] 176 (0,0)) C45 fun b47 w47 Y47 C47 B47 V47 => ?_
 have C := nC hp
 obtain ⟨hg50,hp⟩ := C
 have C := (jX.nil : jX mD 176 4 (rd w47 (orN Y47 w.heap.size)) [] none 0 0 [])
 obtain ⟨es51,hr51,hq51,hk51,hm51⟩ := C
 refine zop (at1 [] Tryz.f161 [1]) 5 (fun a48 _ G48 hz48 => tK (b := 64) (m := 1) (c := 1) (ad := ⟨b47,0,none⟩) (news := [.int .i64 (i64.wrap ((k13 : Int) - 1)),.bool y41.1.neg,.slice u42_0_1 y41.1.ln.length u42_0_3,.slice u42_0_4 y41.1.ld.length u42_0_6]) (i0 := Tryz.t176) (rb := []) (R1 := []) 3 G48 C47 rfl hr51 (C47.cells 0 rfl rfl) (lY hg50 rfl rfl) (lX hg50 rfl) ?_)
 intro rb52 ad52 cap52 w52 Y52 F52 C52 B52 a53 G53
 have T3_ := (Le3 B44 B45 B47).trans B52
 have hg52 : jX mD 176 4 (rd w52 (orN Y52 w.heap.size)) rb52 ad52 (0 + 1) cap52 (([] : List yS) ++ [(yS.mk (i64.wrap ((k13 : Int) - 1)) y41.1)]) := jX.snoc F52 hq51 hk51 hm51 (Le.or B52 _) ⟨rfl,fun r2 h2 => ⟨_,_,_,_,rfl,((u42_0__h0.mono (Le.own C13.lt C13.upd.size T3_)).mono h2),((u42_0__h1.mono (Le.own C13.lt C13.upd.size T3_)).mono h2)⟩⟩
 refine hz48 G53 <| zx 2 #[.slice ad52 (0 + 1) cap52] C52 fun w54 C54 B54 => zz 1 <| zr' (v := .tuple #[]) ?_
 refine hR39 _ _ <| zQ hp fun z55 hz55 hp => zz 9 <| zs 59 (v := .int .i64 (i64.wrap ((if (if (x6) < p1 then x6 else p1) > x4 then if (x6) < p1 then x6 else p1 else x4) - x36))) (v' := .int .i64 z55) (zR (Option.some.inj hz55)) <| zz 3 <| zci (vs := #[.int .i64 (k13 : Int),.int .i64 z55,.int .i64 (i64.wrap ((x13) - x36)),.pointer (some ⟨b3,0,none⟩)]) Tryz.func161 (fun R56 hR56 => ?_)
 refine zz 4 <| zQ hp fun y58 hy58 hp => zc C54 (zDf _ X0 (zM _) (z55) (i64.wrap ((x13) - x36)) y58 hy58) ?_
 rintro v59 w59 C59 B59 V59 ⟨uu59_0,rfl,⟨u59_0_1,u59_0_2,u59_0_3,u59_0_4,u59_0_5,u59_0_6,rfl,u59_0__h0,u59_0__h1⟩⟩
 have C := u59_0__h0.hlen
 subst C
 have C := u59_0__h1.hlen
 subst C
 refine zz 3 <| zn pn (.cells #[.bool false,.slice none 0 0,.slice none 0 0] 28 (0,0)) C59 fun b61 w61 Y61 C61 B61 V61 => zx 0 #[.bool y58.1.neg,.slice u59_0_1 y58.1.ln.length u59_0_3,.slice u59_0_4 y58.1.ld.length u59_0_6] C61 fun w62 C62 B62 => zz 4 <| zo 3 C62 <| zz 1 <| zo 0 C62 <| zz 1 <| zn (fun b => .slice (some ⟨b,0,none⟩) 1 1) (.cells #[.int .i64 (k13 : Int),.bool y58.1.neg,.slice u59_0_1 y58.1.ln.length u59_0_3,.slice u59_0_4 y58.1.ld.length u59_0_6] 176 (0,0)) C62 fun b64 w64 Y64 C64 B64 V64 => ?_
 have C := nC hp
 obtain ⟨hg66,hp⟩ := C
 have hln67 : (0 + 1) = (([] : List yS) ++ [(yS.mk (i64.wrap ((k13 : Int) - 1)) y41.1)]).length := jX.len hg52
 have T4_ := (Le4 B54 B59 B61 B62).trans B64
 have C := (hg52.mono (Le.or T4_ _))
 obtain ⟨es67,hr67,hq67,hk67,hm67⟩ := C
 refine zop (at1 [] Tryz.f161 [1]) 5 (fun a65 _ G65 hz65 => tK (b := 64) (m := 1) (c := 1) (ad := ⟨b64,0,none⟩) (news := [.int .i64 (k13 : Int),.bool y58.1.neg,.slice u59_0_1 y58.1.ln.length u59_0_3,.slice u59_0_4 y58.1.ld.length u59_0_6]) (i0 := Tryz.t176) (rb := rb52) (R1 := []) 5 G65 C64 rfl hr67 (C64.cells 0 rfl rfl) (lY hg66 hln67 rfl) (lX hg66 hln67) ?_)
 intro rb68 ad68 cap68 w68 Y68 F68 C68 B68 a69 G69
 have T5_ := (Le3 B61 B62 B64).trans B68
 have hg68 : jX mD 176 4 (rd w68 (orN Y68 w.heap.size)) rb68 ad68 ((0 + 1) + 1) cap68 ((([] : List yS) ++ [(yS.mk (i64.wrap ((k13 : Int) - 1)) y41.1)]) ++ [(yS.mk (k13 : Int) y58.1)]) := jX.snoc F68 hq67 hk67 hm67 (Le.or B68 _) ⟨rfl,fun r2 h2 => ⟨_,_,_,_,rfl,((u59_0__h0.mono (Le.own C54.lt C54.upd.size T5_)).mono h2),((u59_0__h1.mono (Le.own C54.lt C54.upd.size T5_)).mono h2)⟩⟩
 refine hz65 G69 <| zx 4 #[.slice ad68 ((0 + 1) + 1) cap68] C68 fun w70 C70 B70 => zz 1 <| zr' (v := .tuple #[]) ?_
 refine hR56 _ _ <| zz 8 ?_
 have T6_ := (zWm B13 B42 B44 B45 B47 B52 B54 B59 B61 B62 B64 B68).trans B70
 exact zP (fun a h => H12 (((([] : List yS) ++ [(yS.mk (i64.wrap ((k13 : Int) - 1)) y41.1)]) ++ [(yS.mk (k13 : Int) y58.1)]),rb68,ad68,((0 + 1) + 1),cap68) _ a h ⟨_,C70.tail.tail.tail.tail,T6_,(hg68.mono (Le.or B70 _)),hp⟩)
 have hp := iqb T35 hp
 refine zz 7 <| zs 64 (v := .int .i64 (i64.wrap ((k13 : Int) + 1))) (v' := .int .i64 ((k13 : Int) + 1)) (zR (jE (wk0 k13) (wk1 Q14 hb13))) <| zz 2 <| zP (fun a h => H13 (k13 + 1) _ a h ⟨_,C13,B13,hp⟩ ?_)
 exact vK Q14
 rw [List.drop_eq_nil_of_le (qI Q14),vI] at hp
 refine zz 5 ?_
 exact zP (fun a h => H12 (([] : List yS),[],none,0,0) _ a h ⟨_,C13,B13,jX.nil,hp⟩)
noncomputable def xB (x14 : List Int) (x21 : zU) (J23 : (List zU) → Option ((List zU) × Int)) : List yS → (List zU) → Option ((List zU) × Int)
 | [],v34_0 => J23 v34_0
 | x34 :: r34,v34_0 => (rE x21.w x34.w).bind fun y41 => grd ((v34_0.length + 1) * 64 ≤ 140737488355328) <| xB x14 x21 J23 r34 (v34_0 ++ [(zU.mk (i64.wrap ((i64.wrap ((x21.vertex) * (x14.length : Int))) + x34.index)) y41.1)])
noncomputable def xE (p1 : List Int) (k14 : Nat) (x14 : List Int) (J18 : (List zU) → Option ((List zU) × Int)) : List zU → (List zU) → Option ((List zU) × Int)
 | [],v21_0 => J18 v21_0
 | x21 :: r21,v21_0 => lt (fun (v23_0 : List zU) => xE p1 k14 x14 J18 r21 v23_0) fun J23 => (ix p1 (k14 : Int)).bind fun x29 => (tC x14 (x29)).bind fun y32 => xB x14 x21 J23 (y32.drop 0) v21_0
noncomputable def yV (p1 : List Int) (J12 : (List zU) → Option ((List zU) × Int)) : List (List Int) → Nat → (List zU) → Option ((List zU) × Int)
 | [],k14,v14_0 => J12 v14_0
 | x14 :: r14,k14,v14_0 => lt (fun (v18_0 : List zU) => yV p1 J12 r14 (k14 + 1) v18_0) fun J18 => xE p1 k14 x14 J18 (v14_0.drop 0) ([] : List zU)
noncomputable def wQ (p0 : List (List Int)) (p1 : List Int) : Option ((List zU) × Int) :=
 (yU p0).bind fun y3 => if ((y3) != 0) = true then (some (([] : List zU),y3)) else (if ((p1.length : Int) != (p0.length : Int)) = true then (some (([] : List zU),16)) else ((vV (1 : Int)).bind fun y8 => lt (fun (v12_0 : List zU) => some (v12_0,0)) fun J12 => yV p1 J12 (p0.drop 0) 0 ([(zU.mk 0 y8)])))
include hX in
theorem zEk (p0 : List (List Int)) (vp0 : Value) (hp0 : SV dC (rd w X) vp0 p0) (p1 : List Int) (vp1 : Value) (hp1 : SV wK (rd w X) vp1 p1) (y : (List zU) × Int) (hp : wQ p0 p1 = some y) : Calls Tryz.prog 94 #[vp0,vp1] w (Ret E0 w fun w' v => ∃ uu0,v = .tuple #[uu0,.int .i64 y.2] ∧ SV tT (rd w' (old w)) uu0 y.1) := by
 obtain ⟨D1,D2,rfl,p0a_h0⟩ := hp0
 obtain ⟨p1a1,p1a2,rfl,p1a_h0⟩ := hp1
 unfold wQ at hp
 refine zen Tryz.func94 ?_
 have C0 : St E0 w X w X [] := St.start hX
 refine zz 10 <| zQ hp fun y3 hy3 hp => zc C0 (zAa _ X0 (zM _) p0 _ ⟨_,_,rfl,(p0a_h0.mono Le.x0)⟩ y3 hy3) ?_
 rintro v4 w4 C4 B4 V4 rfl
 refine zz 11 <| zb 19 (b := ((y3) != 0)) (fun T5 => ?_) (fun T5 => ?_)
 have hp := ipb T5 hp
 refine zz 11 <| zr' (v := .tuple #[.slice none 0 0,.int .i64 y3]) ?_
 cases hp
 exact ⟨C4.upd,_,rfl,⟨_,rfl,⟨_,_,rfl,(show tT _ none 0 0 [] from SlR.nil none (by decide))⟩⟩⟩
 have hp := iqb T5 hp
 refine zz 11 <| zb 23 (b := ((p1.length : Int) != (p0.length : Int))) (fun T6 => ?_) (fun T6 => ?_)
 have hp := ipb T6 hp
 refine zz 10 <| zr' (v := .tuple #[.slice none 0 0,.int .i64 16]) ?_
 cases hp
 exact ⟨C4.upd,_,rfl,⟨_,rfl,⟨_,_,rfl,(show tT _ none 0 0 [] from SlR.nil none (by decide))⟩⟩⟩
 have hp := iqb T6 hp
 refine zz 6 <| zQ hp fun y8 hy8 hp => zc C4 (lF _ X0 (zM _) (1 : Int) y8 hy8) ?_
 rintro v9 w9 C9 B9 V9 ⟨u9_0_1,u9_0_2,u9_0_3,u9_0_4,u9_0_5,u9_0_6,rfl,u9_0__h0,u9_0__h1⟩
 have C := u9_0__h0.hlen
 subst C
 have C := u9_0__h1.hlen
 subst C
 refine zz 1 <| zn (fun b => .slice (some ⟨b,0,none⟩) 1 1) (.cells #[.int .i64 0,.bool y8.neg,.slice u9_0_1 y8.ln.length u9_0_3,.slice u9_0_4 y8.ld.length u9_0_6] 124 (0,0)) C9 fun b11 w11 Y11 C11 B11 V11 => zz 3 ?_
 have C := rQ hp
 obtain ⟨J12,hJ12,hp⟩ := C
 refine yT (fun ((v12_0,ad12_0,cap12_0) : (List zU) × (Option Addr) × Nat) => [(7,.slice ad12_0 v12_0.length cap12_0)]) (fun (v12_0,ad12_0,cap12_0) w1 => ∃ Y1 : Hid,St E0 w X w1 Y1 [] ∧ Le (rd w11 Y11) (rd w1 Y1) ∧ tT (rd w1 (orN Y1 w.heap.size)) ad12_0 v12_0.length cap12_0 v12_0 ∧ J12 v12_0 = some y) ?_ ?_
 rintro ⟨v12_0,ad12_0,cap12_0⟩ w12 ⟨Y12,C12,B12,P12_0_0,hp⟩
 have hp := (hJ12 _).symm.trans hp
 refine zz 8 <| zr' (v := .tuple #[.slice ad12_0 v12_0.length cap12_0,.int .i64 0]) ?_
 cases hp
 exact ⟨C12.upd,_,rfl,⟨_,rfl,⟨_,_,rfl,((P12_0_0.mono (Le.or (Le.refl _) _))).mono Le.orr⟩⟩⟩
 intro K13 H13
 refine zz 8 ?_
 have C := St.pubAt 0 C11 rfl
 obtain ⟨Y15,hSx15,B15,hat15,hatN15⟩ := C
 have C15 : St E0 w X w11 Y15 [] := hSx15
 have hR15 : tT (rd w11 (orN Y15 w.heap.size)) (some ⟨b11,0,none⟩) 1 1 [(zU.mk 0 y8)] := (SlR.lit (El := lC) (size := 4) (n := 1) [⟨(zU.mk 0 y8),[.int .i64 0,.bool y8.neg,.slice u9_0_1 y8.ln.length u9_0_3,.slice u9_0_4 y8.ld.length u9_0_6]⟩] (hatN15 _ (Nat.le_refl _)) (List.forall_mem_cons.2 ⟨⟨rfl,fun r2 h2 b o h9 => ⟨_,_,_,_,h9,((u9_0__h0.mono (Le.own C4.lt C4.upd.size (Le2 B11 B15))).mono h2),((u9_0__h1.mono (Le.own C4.lt C4.upd.size (Le2 B11 B15))).mono h2)⟩⟩,(List.forall_mem_nil _)⟩) rfl (by decide))
 have hb14 : (p0.length : Int) ≤ 9223372036854775807 := rR (p0a_h0).hcap (p0a_h0).hbig
 refine zlp Tryz.f94 [K13] [1,1,1,9,1,0] (fun ((v14_0,k14,ad14_0,cap14_0) : (List zU) × Nat × (Option Addr) × Nat) => [(1,.slice p1a1 p1.length p1a2),(7,.slice ad14_0 v14_0.length cap14_0),(32,.slice D1 p0.length D2),(33,.int .i64 (p0.length : Int)),(34,.int .i64 (k14 : Int))]) (fun (v14_0,k14,ad14_0,cap14_0) w1 => ∃ Y1 : Hid,St E0 w X w1 Y1 [] ∧ Le (rd w11 Y15) (rd w1 Y1) ∧ tT (rd w1 (orN Y1 w.heap.size)) ad14_0 v14_0.length cap14_0 v14_0 ∧ yV p1 J12 (p0.drop k14) k14 v14_0 = some y) (fun (v14_0,k14,ad14_0,cap14_0) => p0.length - k14) ([(zU.mk 0 y8)],0,(some ⟨b11,0,none⟩),1) ?_ ?_
 exact ⟨_,C15,Le.refl _,(hR15.mono (Le.or (Le.refl _) _)),hp⟩
 rintro ⟨v14_0,k14,ad14_0,cap14_0⟩ w14 K14 H14 ⟨Y14,C14,B14,P14_0_0,hp⟩
 refine zz 6 <| zt 35 (p := (k14 : Int) < (p0.length : Int)) (fun Q16 => ?_) (fun Q16 => ?_)
 have C := xK (l := p0) (k := k14) (qR Q16)
 obtain ⟨x14,O14⟩ := C
 rw [wG O14,yV] at hp
 have L14 : (0 : Int) ≤ (k14 : Int) := Int.natCast_nonneg _
 refine zz 8 ?_
 have C := p0a_h0.opn O14
 obtain ⟨be17,oe17,rfl,B17,hEe17⟩ := C
 obtain ⟨e171,e172,e17_at,e17_h0⟩ := hEe17
 refine zi (b := be17) (off := oe17) (len := p0.length) (cap := D2) (kd := .i64) (i := (k14 : Int)) 1 (oe17 + k14 * 1) ?_ (h0 := L14) (h1 := (jS L14 B17))
 have T1_ := (Le4 B4 B9 B11 B15).trans B14
 refine zl ((e17_at.mono T1_)).cells <| zz 9 ?_
 have C := rQ hp
 obtain ⟨J18,hJ18,hp⟩ := C
 refine yT (fun ((v18_0,rb18_0,ad18_0,m18_0,cap18_0) : (List zU) × (List (Nat × Obj)) × (Option Addr) × Nat × Nat) => [(10,.slice ad18_0 m18_0 cap18_0),(1,.slice p1a1 p1.length p1a2),(32,.slice (some ⟨be17,oe17,none⟩) p0.length D2),(33,.int .i64 (p0.length : Int)),(34,.int .i64 (k14 : Int))]) (fun (v18_0,rb18_0,ad18_0,m18_0,cap18_0) w1 => ∃ Y1 : Hid,St E0 w X w1 Y1 (rb18_0) ∧ Le (rd w14 Y14) (rd w1 Y1) ∧ jX tF 124 4 (rd w1 (orN Y1 w.heap.size)) rb18_0 ad18_0 m18_0 cap18_0 v18_0 ∧ J18 v18_0 = some y) ?_ ?_
 rintro ⟨v18_0,rb18_0,ad18_0,m18_0,cap18_0⟩ w18 ⟨Y18,C18,B18,P18_0_0,hp⟩
 have hp := (hJ18 _).symm.trans hp
 refine zz 8 <| zs 80 (v := .int .i64 (i64.wrap ((k14 : Int) + 1))) (v' := .int .i64 ((k14 : Int) + 1)) (zR (jE (wk0 k14) (wk1 Q16 hb14))) <| zz 2 ?_
 have C := St.pubGRN (A := []) (B := []) (fun rb => (rb)) C18 (fun _ => by simp only [List.append_assoc,List.cons_append,List.nil_append,List.append_nil]) P18_0_0 (Nat.le_refl _) tF.at
 obtain ⟨Y19,hSx19,B19,hRx19⟩ := C
 have C19 : St E0 w X w18 Y19 [] := hSx19
 have C := hRx19.hlen
 subst C
 have hR19 : tT (rd w18 (orN Y19 w.heap.size)) ad18_0 v18_0.length cap18_0 v18_0 := hRx19
 refine zP (fun a h => H14 (v18_0,k14 + 1,ad18_0,cap18_0) _ a h ⟨_,C19,(Le3 B14 B18 B19),(hR19.mono (Le.or (Le.refl _) _)),hp⟩ ?_)
 exact vK Q16
 intro K20 H20
 refine zz 8 ?_
 have hb21 : (v14_0.length : Int) ≤ 9223372036854775807 := rR ((P14_0_0.mono Le.orl)).hcap ((P14_0_0.mono Le.orl)).hbig
 refine zlp Tryz.f94 [K13,K14,K20] [1,1,1,9,1,0,0,1,1,0,0,1,1,9,1,0] (fun ((v21_0,k21,rb21_0,ad21_0,m21_0,cap21_0) : (List zU) × Nat × (List (Nat × Obj)) × (Option Addr) × Nat × Nat) => [(1,.slice p1a1 p1.length p1a2),(8,.int .i64 (k14 : Int)),(9,.slice e171 x14.length e172),(10,.slice ad21_0 m21_0 cap21_0),(32,.slice (some ⟨be17,oe17,none⟩) p0.length D2),(33,.int .i64 (p0.length : Int)),(34,.int .i64 (k14 : Int)),(39,.slice ad14_0 v14_0.length cap14_0),(40,.int .i64 (v14_0.length : Int)),(41,.int .i64 (k21 : Int))]) (fun (v21_0,k21,rb21_0,ad21_0,m21_0,cap21_0) w1 => ∃ Y1 : Hid,St E0 w X w1 Y1 (rb21_0) ∧ Le (rd w14 Y14) (rd w1 Y1) ∧ jX tF 124 4 (rd w1 (orN Y1 w.heap.size)) rb21_0 ad21_0 m21_0 cap21_0 v21_0 ∧ xE p1 k14 x14 J18 (v14_0.drop k21)  v21_0 = some y) (fun (v21_0,k21,rb21_0,ad21_0,m21_0,cap21_0) => v14_0.length - k21) (([] : List zU),0,[],none,0,0) ?_ ?_
 exact ⟨_,C14,Le.refl _,jX.nil,hp⟩
 rintro ⟨v21_0,k21,rb21_0,ad21_0,m21_0,cap21_0⟩ w21 K21 H21 ⟨Y21,C21,B21,P21_0_0,hp⟩
 refine zz 6 <| zt 42 (p := (k21 : Int) < (v14_0.length : Int)) (fun Q22 => ?_) (fun Q22 => ?_)
 have C := xK (l := v14_0) (k := k21) (qR Q22)
 obtain ⟨x21,O21⟩ := C
 rw [wG O21,xE] at hp
 have L21 : (0 : Int) ≤ (k21 : Int) := Int.natCast_nonneg _
 refine zz 3 ?_
 have C := rQ hp
 obtain ⟨J23,hJ23,hp⟩ := C
 refine yT (fun ((v23_0,rb23_0,ad23_0,m23_0,cap23_0) : (List zU) × (List (Nat × Obj)) × (Option Addr) × Nat × Nat) => [(10,.slice ad23_0 m23_0 cap23_0),(1,.slice p1a1 p1.length p1a2),(8,.int .i64 (k14 : Int)),(9,.slice e171 x14.length e172),(32,.slice (some ⟨be17,oe17,none⟩) p0.length D2),(33,.int .i64 (p0.length : Int)),(34,.int .i64 (k14 : Int)),(39,.slice ad14_0 v14_0.length cap14_0),(40,.int .i64 (v14_0.length : Int)),(41,.int .i64 (k21 : Int))]) (fun (v23_0,rb23_0,ad23_0,m23_0,cap23_0) w1 => ∃ Y1 : Hid,St E0 w X w1 Y1 (rb23_0) ∧ Le (rd w21 Y21) (rd w1 Y1) ∧ jX tF 124 4 (rd w1 (orN Y1 w.heap.size)) rb23_0 ad23_0 m23_0 cap23_0 v23_0 ∧ J23 v23_0 = some y) ?_ ?_
 rintro ⟨v23_0,rb23_0,ad23_0,m23_0,cap23_0⟩ w23 ⟨Y23,C23,B23,P23_0_0,hp⟩
 have hp := (hJ23 _).symm.trans hp
 refine zz 2 <| zs 78 (v := .int .i64 (i64.wrap ((k21 : Int) + 1))) (v' := .int .i64 ((k21 : Int) + 1)) (zR (jE (wk0 k21) (wk1 Q22 hb21))) <| zz 2 <| zP (fun a h => H21 (v23_0,k21 + 1,rb23_0,ad23_0,m23_0,cap23_0) _ a h ⟨_,C23,(Le2 B21 B23),P23_0_0,hp⟩ ?_)
 exact vK Q22
 intro K24 H24
 refine zz 3 ?_
 have C := (P14_0_0.mono Le.orl).opn O21
 obtain ⟨be25,oe25,rfl,B25,hEe25⟩ := C
 obtain ⟨e251,e252,e253,e254,e25_at,e25_h0,e25_h1⟩ := hEe25
 refine zi (b := be25) (off := oe25) (len := v14_0.length) (cap := cap14_0) (kd := .i64) (i := (k21 : Int)) 4 (oe25 + k21 * 4) ?_ (h0 := L21) (h1 := (jS L21 B25))
 refine zl ((e25_at.mono B21)).cells <| zn pn (.cells #[.int .i64 0,.bool false,.slice none 0 0,.slice none 0 0] 124 (0,0)) C21 fun b27 w27 Y27 C27 B27 V27 => zx 0 #[.int .i64 x21.vertex,.bool x21.w.neg,.slice e251 x21.w.ln.length e252,.slice e253 x21.w.ld.length e254] C27 fun w28 C28 B28 => zz 7 <| zQ hp fun x29 hx29 hp => ?_
 have C := jU hx29
 obtain ⟨L29,O29⟩ := C
 have hwx29 : p1[k14]? = some x29 := O29
 have C := p1a_h0.opn hwx29
 obtain ⟨be30,oe30,rfl,B30,hEe30⟩ := C
 have hAe30 : At (rd w X) ⟨be30,oe30 + k14 * 1,none⟩ [.int .i64 x29] := hEe30
 refine zi (b := be30) (off := oe30) (len := p1.length) (cap := p1a2) (kd := .i64) (i := (k14 : Int)) 1 (oe30 + k14 * 1) ?_ (h0 := L29) (h1 := (jS L29 B30))
 have T2_ := ((T1_.trans B21).trans B27).trans B28
 refine zl ((hAe30.mono T2_)).cells <| zQ hp fun y32 hy32 hp => zc C28 (zFu _ X0 (zM _) x14 _ ⟨_,_,rfl,((e17_h0.mono T2_).mono Le.x0)⟩ (x29) y32 hy32) ?_
 rintro v33 w33 C33 B33 V33 ⟨u33_0_1,u33_0_2,rfl,u33_0__h0⟩
 refine zz 5 ?_
 have hb34 : (y32.length : Int) ≤ 9223372036854775807 := rR ((u33_0__h0.mono (Le.new C28.lt))).hcap ((u33_0__h0.mono (Le.new C28.lt))).hbig
 refine zlp Tryz.f94 [K13,K14,K20,K21,K24] [1,1,1,9,1,0,0,1,1,0,0,1,1,9,1,0,0,1,1,9,0,1,1,0] (fun ((v34_0,k34,rb34_0,ad34_0,m34_0,cap34_0) : (List zU) × Nat × (List (Nat × Obj)) × (Option Addr) × Nat × Nat) => [(1,.slice (some ⟨be30,oe30,none⟩) p1.length p1a2),(8,.int .i64 (k14 : Int)),(9,.slice e171 x14.length e172),(10,.slice ad34_0 m34_0 cap34_0),(12,.pointer (some ⟨b27,0,none⟩)),(32,.slice (some ⟨be17,oe17,none⟩) p0.length D2),(33,.int .i64 (p0.length : Int)),(34,.int .i64 (k14 : Int)),(39,.slice (some ⟨be25,oe25,none⟩) v14_0.length cap14_0),(40,.int .i64 (v14_0.length : Int)),(41,.int .i64 (k21 : Int)),(50,.slice u33_0_1 y32.length u33_0_2),(51,.int .i64 (y32.length : Int)),(52,.int .i64 (k34 : Int))]) (fun (v34_0,k34,rb34_0,ad34_0,m34_0,cap34_0) w1 => ∃ Y1 : Hid,St E0 w X w1 Y1 ((b27,.cells #[.int .i64 x21.vertex,.bool x21.w.neg,.slice e251 x21.w.ln.length e252,.slice e253 x21.w.ld.length e254] 124 (0,0)) :: rb34_0) ∧ Le (rd w33 Y27) (rd w1 Y1) ∧ jX tF 124 4 (rd w1 (orN Y1 w.heap.size)) rb34_0 ad34_0 m34_0 cap34_0 v34_0 ∧ xB x14 x21 J23 (y32.drop k34)  v34_0 = some y) (fun (v34_0,k34,rb34_0,ad34_0,m34_0,cap34_0) => y32.length - k34) (v21_0,0,rb21_0,ad21_0,m21_0,cap21_0) ?_ ?_
 exact ⟨_,C33,Le.refl _,(P21_0_0.mono (Le.or (Le3 B27 B28 B33) _)),hp⟩
 rintro ⟨v34_0,k34,rb34_0,ad34_0,m34_0,cap34_0⟩ w34 K34 H34 ⟨Y34,C34,B34,P34_0_0,hp⟩
 refine zz 6 <| zt 53 (p := (k34 : Int) < (y32.length : Int)) (fun Q35 => ?_) (fun Q35 => ?_)
 have C := xK (l := y32) (k := k34) (qR Q35)
 obtain ⟨x34,O34⟩ := C
 rw [wG O34,xB] at hp
 have L34 : (0 : Int) ≤ (k34 : Int) := Int.natCast_nonneg _
 refine zz 7 ?_
 have C := (u33_0__h0.mono (Le.new C28.lt)).opn O34
 obtain ⟨be36,oe36,rfl,B36,hEe36⟩ := C
 obtain ⟨e361,e362,e363,e364,e36_at,e36_h0,e36_h1⟩ := hEe36
 refine zi (b := be36) (off := oe36) (len := y32.length) (cap := u33_0_2) (kd := .i64) (i := (k34 : Int)) 4 (oe36 + k34 * 4) ?_ (h0 := L34) (h1 := (jS L34 B36))
 refine zl ((e36_at.mono B34)).cells <| zn pn (.cells #[.int .i64 0,.bool false,.slice none 0 0,.slice none 0 0] 176 (0,0)) C34 fun b38 w38 Y38 C38 B38 V38 => zx 0 #[.int .i64 x34.index,.bool x34.w.neg,.slice e361 x34.w.ln.length e362,.slice e363 x34.w.ld.length e364] C38 fun w39 C39 B39 => zz 5 <| zo 1 C39 <| zz 1 <| zo 0 C39 ?_
 have T3_ := (Le6 B21 B27 B28 B33 B34 B38).trans B39
 refine zQ hp fun y41 hy41 hp => zc C39 (zFd _ X0 (zM _) x21.w _ ⟨_,_,_,_,_,_,rfl,((e25_h0.mono T3_).mono Le.x0),((e25_h1.mono T3_).mono Le.x0)⟩ x34.w _ ⟨_,_,_,_,_,_,rfl,((e36_h0.mono (Le3 B34 B38 B39)).mono Le.x0),((e36_h1.mono (Le3 B34 B38 B39)).mono Le.x0)⟩ y41 hy41) ?_
 rintro v42 w42 C42 B42 V42 ⟨uu42_0,rfl,⟨u42_0_1,u42_0_2,u42_0_3,u42_0_4,u42_0_5,u42_0_6,rfl,u42_0__h0,u42_0__h1⟩⟩
 have C := u42_0__h0.hlen
 subst C
 have C := u42_0__h1.hlen
 subst C
 refine zz 3 <| zn pn (.cells #[.bool false,.slice none 0 0,.slice none 0 0] 28 (0,0)) C42 fun b44 w44 Y44 C44 B44 V44 => zx 0 #[.bool y41.1.neg,.slice u42_0_1 y41.1.ln.length u42_0_3,.slice u42_0_4 y41.1.ld.length u42_0_6] C44 fun w45 C45 B45 => zz 6 <| zo 2 C45 <| zz 4 <| zo 1 C45 <| zz 1 <| zo 0 C45 ?_
 refine zz 1 <| zn (fun b => .slice (some ⟨b,0,none⟩) 1 1) (.cells #[.int .i64 (i64.wrap ((i64.wrap ((x21.vertex) * (x14.length : Int))) + x34.index)),.bool y41.1.neg,.slice u42_0_1 y41.1.ln.length u42_0_3,.slice u42_0_4 y41.1.ld.length u42_0_6] 124 (0,0)) C45 fun b47 w47 Y47 C47 B47 V47 => ?_
 have C := nC hp
 obtain ⟨hg49,hp⟩ := C
 have hln50 : m34_0 = v34_0.length := jX.len P34_0_0
 have T4_ := (Le5 B38 B39 B42 B44 B45).trans B47
 have C := (P34_0_0.mono (Le.or T4_ _))
 obtain ⟨es50,hr50,hq50,hk50,hm50⟩ := C
 refine zop (at1 [K13,K14,K20,K21,K24,K34] Tryz.f94 [1,1,1,9,1,0,0,1,1,0,0,1,1,9,1,0,0,1,1,9,0,1,1,0,0,1,1,0,0,1,1]) 12 (fun a48 _ G48 hz48 => tK (b := 64) (m := 1) (c := 1) (ad := ⟨b47,0,none⟩) (news := [.int .i64 (i64.wrap ((i64.wrap ((x21.vertex) * (x14.length : Int))) + x34.index)),.bool y41.1.neg,.slice u42_0_1 y41.1.ln.length u42_0_3,.slice u42_0_4 y41.1.ld.length u42_0_6]) (i0 := Tryz.t124) (rb := rb34_0) (R1 := []) 4 G48 C47 rfl hr50 (C47.cells 0 rfl rfl) (lY hg49 hln50 rfl) (lX hg49 hln50) ?_)
 intro rb51 ad51 cap51 w51 Y51 F51 C51 B51 a52 G52
 have T5_ := (Le3 B44 B45 B47).trans B51
 have hg51 : jX tF 124 4 (rd w51 (orN Y51 w.heap.size)) rb51 ad51 (m34_0 + 1) cap51 (v34_0 ++ [(zU.mk (i64.wrap ((i64.wrap ((x21.vertex) * (x14.length : Int))) + x34.index)) y41.1)]) := jX.snoc F51 hq50 hk50 hm50 (Le.or B51 _) ⟨rfl,fun r2 h2 => ⟨_,_,_,_,rfl,((u42_0__h0.mono (Le.own C39.lt C39.upd.size T5_)).mono h2),((u42_0__h1.mono (Le.own C39.lt C39.upd.size T5_)).mono h2)⟩⟩
 refine hz48 G52 <| zz 6 <| zs 77 (v := .int .i64 (i64.wrap ((k34 : Int) + 1))) (v' := .int .i64 ((k34 : Int) + 1)) (zR (jE (wk0 k34) (wk1 Q35 hb34))) <| zz 2 ?_
 have T6_ := (Le7 B34 B38 B39 B42 B44 B45 B47).trans B51
 refine zP (fun a h => H34 ((v34_0 ++ [(zU.mk (i64.wrap ((i64.wrap ((x21.vertex) * (x14.length : Int))) + x34.index)) y41.1)]),k34 + 1,rb51,ad51,(m34_0 + 1),cap51) _ a h ⟨_,C51.tail.tail.tail,T6_,hg51,hp⟩ ?_)
 exact vK Q35
 rw [List.drop_eq_nil_of_le (qI Q35),xB] at hp
 refine zz 6 ?_
 have T7_ := (Le3 B27 B28 B33).trans B34
 exact zP (fun a h => H24 (v34_0,rb34_0,ad34_0,m34_0,cap34_0) _ a h ⟨_,C34.tail,T7_,P34_0_0,hp⟩)
 rw [List.drop_eq_nil_of_le (qI Q22),xE] at hp
 refine zz 5 ?_
 exact zP (fun a h => H20 (v21_0,rb21_0,ad21_0,m21_0,cap21_0) _ a h ⟨_,C21,B21,P21_0_0,hp⟩)
 rw [List.drop_eq_nil_of_le (qI Q16),yV] at hp
 refine zz 5 ?_
 exact zP (fun a h => H13 (v14_0,ad14_0,cap14_0) _ a h ⟨_,C14,(Le2 B15 B14),(P14_0_0.mono (Le.or (Le.refl _) _)),hp⟩)
noncomputable def yE (p0 : zO) (p1 : Int) (p2 : Int) : Option (Raw × Int) :=
 (yN p0 ([p1,p2])).bind fun y9 => if ((y9) != 0) = true then (some (Raw.zero,y9)) else ((ix p0.advisories (p1)).bind fun x16 => (ix p0.advisories (p2)).bind fun x18 => lt (fun (v24_0 : Raw) => lt (fun (v25_0 : Raw) => if ((p1) != 0) = true then (if ((p2) != 0) = true then (if (!((x16.sense) == x18.sense)) = true then ((kH v25_0 p0.reversal).bind fun y33 => some (y33.1,0)) else (some (v25_0,0))) else (some (v25_0,0))) else (some (v25_0,0))) fun J25 => if ((p1) != 0) = true then (if ((p2) != 0) = true then (if ((x16.sense) == x18.sense) = true then (if (x18.lo) ≥ x16.lo then (if (x18.hi) ≤ x16.hi then (if (!((x16.sense == x18.sense) && ((x16.lo == x18.lo) && (x16.hi == x18.hi)))) = true then ((kH v24_0 p0.strengthen).bind fun y58 => J25 y58.1) else (J25 v24_0)) else (J25 v24_0)) else (J25 v24_0)) else (J25 v24_0)) else (J25 v24_0)) else (J25 v24_0)) fun J24 => if ((p2) != 0) = true then ((kH Raw.zero p0.alert).bind fun y94 => J24 y94.1) else (J24 Raw.zero))
include hX in
theorem gB (p0 : zO) (vp0 : Value) (hp0 : zW (rd w X) vp0 p0) (p1 : Int) (p2 : Int) (y : Raw × Int) (hp : yE p0 p1 p2 = some y) : Calls Tryz.prog 19 #[vp0,.int .i64 p1,.int .i64 p2] w (Ret E0 w fun w' v => ∃ uu0,v = .tuple #[uu0,.int .i64 y.2] ∧ vJ (rd w' (old w)) uu0 y.1) := by
 have hVp0 := hp0
 refine zW.op hp0 fun D1 D2 D3 D4 D5 D6 D7 D8 D9 D10 D11 D12 D13 D14 D15 D16 D17 D18 D19 D20 D21 D22 D23 D24 hv9 p0a_h0 p0a_h1 p0a_h2 p0a_h3 p0a_h4 p0a_h5 p0a_h6 p0a_h7 p0a_h8 p0a_h9 p0a_h10 p0a_h11 => ?_
 subst hv9
 unfold yE at hp
 refine zen Tryz.func19 ?_
 have C0 : St E0 w X w X [] := St.start hX
 refine zz 2 <| zn pn (.cells (qDr p0 D1 D2 D3 D4 D5 D6 D7 D8 D9 D10 D11 D12 D13 D14 D15 D16 D17 D18 D19 D20 D21 D22 D23 D24) 30 (0,0)) C0 fun b3 w3 Y3 C3 B3 V3 => zn pn (.cells #[.bool false,.slice none 0 0,.slice none 0 0] 28 (0,0)) C3 fun b5 w5 Y5 C5 B5 V5 => zz 6 <| zo 1 C5 <| zz 2 <| zn (fun b => .slice (some ⟨b,0,none⟩) 2 2) (.cells #[.int .i64 p1,.int .i64 p2] 3 (0,0)) C5 fun b7 w7 Y7 C7 B7 V7 => zQ hp fun y9 hy9 hp => zc C7 (pE _ X0 (zM _) p0 _ ((hVp0.mono (Le3 B3 B5 B7)).mono Le.x0) ([p1,p2]) _ ⟨_,_,rfl,(SlR.lit (El := sG) (size := 1) (n := 2) [⟨(p1 : Int),[.int .i64 p1]⟩,⟨(p2 : Int),[.int .i64 p2]⟩] (C7.at0 0 rfl rfl) (List.forall_mem_cons.2 ⟨⟨rfl,fun r2 h2 b o h9 => h9⟩,(List.forall_mem_cons.2 ⟨⟨rfl,fun r2 h2 b o h9 => h9⟩,(List.forall_mem_nil _)⟩)⟩) rfl (by decide))⟩ y9 hy9) ?_ (vs := #[.agg (qDr p0 D1 D2 D3 D4 D5 D6 D7 D8 D9 D10 D11 D12 D13 D14 D15 D16 D17 D18 D19 D20 D21 D22 D23 D24),.slice (some ⟨b7,0,none⟩) 2 2])
 rintro v10 w10 C10 B10 V10 rfl
 refine zz 9 <| zb 20 (b := ((y9) != 0)) (fun T11 => ?_) (fun T11 => ?_)
 have hp := ipb T11 hp
 refine zz 5 <| zx 1 #[.bool false,.slice none 0 0,.slice none 0 0] C10 fun w12 C12 B12 => zz 5 <| zrS [.cell 6 28,.tmp 7] (v := .tuple #[.agg #[.bool false,.slice none 0 0,.slice none 0 0],.int .i64 y9]) (Res.cM C12 1 (Res.tZ Res.nil)) ?_
 cases hp
 exact ⟨C12.upd,_,rfl,⟨_,rfl,⟨_,_,_,_,_,_,rfl,zL.nil0,zL.nil0⟩⟩⟩
 have hp := iqb T11 hp
 refine zz 6 <| zn pn (.cells #[.bool false,.slice none 0 0,.slice none 0 0] 28 (0,0)) C10 fun b14 w14 Y14 C14 B14 V14 => zx 0 #[.bool false,.slice none 0 0,.slice none 0 0] C14 fun w15 C15 B15 => zz 9 ?_
 refine qBk [0,1,2,3] C15 <| gz [0] <| gw 1 3 <| zQ hp fun x16 hx16 hp => ?_
 have C := jU hx16
 obtain ⟨L16,O16⟩ := C
 have C := p0a_h3.opn O16
 obtain ⟨be17,oe17,rfl,B17,hEe17⟩ := C
 have e17_at : At (rd w X) ⟨be17,oe17 + (p1).toNat * 3,none⟩ [.int .u8 x16.sense,.int .i64 x16.lo,.int .i64 x16.hi] := hEe17
 refine gz [2] <| gi 3 (b := be17) (off := oe17) (len := p0.advisories.length) (cap := D8) (kd := .i64) (i := p1) 3 (oe17 + (p1).toNat * 3) ?_ (h0 := L16) (h1 := (jS L16 B17))
 have T1_ := (Le5 B3 B5 B7 B10 B14).trans B15
 refine gl 4 ((e17_at.mono T1_)) <| gz [5] <| gw 6 3 <| zQ hp fun x18 hx18 hp => ?_
 have C := jU hx18
 obtain ⟨L18,O18⟩ := C
 have C := p0a_h3.opn2 O18
 obtain ⟨B19,hEe19⟩ := C
 have e19_at : At (rd w X) ⟨be17,oe17 + (p2).toNat * 3,none⟩ [.int .u8 x18.sense,.int .i64 x18.lo,.int .i64 x18.hi] := hEe19
 refine gz [7] <| gi 8 (b := be17) (off := oe17) (len := p0.advisories.length) (cap := D8) (kd := .i64) (i := p2) 3 (oe17 + (p2).toNat * 3) ?_ (h0 := L18) (h1 := (jS L18 B19))
 have T2_ := (Le5 B3 B5 B7 B10 B14).trans B15
 refine gl 9 ((e19_at.mono T2_)) <| gp (al 11 12 pn (.cells #[.int .u8 0,.int .i64 0,.int .i64 0] 96 (0,0))) <| gp (al 10 11 pn (.cells #[.int .u8 0,.int .i64 0,.int .i64 0] 96 (0,0))) <| ge (fun e20 => ?_) rC.nil.k.k
 refine gXs 12 0 [2,3,4,5] #[.int .u8 x16.sense,.int .i64 x16.lo,.int .i64 x16.hi] fun w21 Y21 B21 => gXs 13 1 [2,3,4,5] #[.int .u8 x18.sense,.int .i64 x18.lo,.int .i64 x18.hi] fun w22 Y22 B22 => ?_
 refine yO (fun w23 Y23 C23 B23 => ?_)
 refine zz 4 <| zo 0 C23 <| zz 1 <| zo 1 C23 <| zz 4 ?_
 have C := rQ hp
 obtain ⟨J24,hJ24,hp⟩ := C
 refine yT (fun ((v24_0,a24_0_1,a24_0_2,a24_0_3,a24_0_4) : Raw × (Option Addr) × Nat × (Option Addr) × Nat) => [(1,.int .i64 p1),(2,.int .i64 p2),(3,.pointer (some ⟨b3,0,none⟩)),(6,.pointer (some ⟨b5,0,none⟩)),(9,.pointer (some ⟨b14,0,none⟩)),(10,.func (.func 56) #[] #[.pointer (some ⟨b14,0,none⟩)]),(11,.pointer (some ⟨(e20 10),0,none⟩)),(12,.pointer (some ⟨(e20 11),0,none⟩)),(13,.bool ((x16.sense) == x18.sense))]) (fun (v24_0,a24_0_1,a24_0_2,a24_0_3,a24_0_4) w1 => ∃ Y1 : Hid,St E0 w X w1 Y1 [((e20 10),.cells #[.int .u8 x16.sense,.int .i64 x16.lo,.int .i64 x16.hi] 96 (0,0)),((e20 11),.cells #[.int .u8 x18.sense,.int .i64 x18.lo,.int .i64 x18.hi] 96 (0,0)),(b14,.cells #[.bool v24_0.neg,.slice a24_0_1 v24_0.ln.length a24_0_2,.slice a24_0_3 v24_0.ld.length a24_0_4] 28 (0,0)),(b7,.cells #[.int .i64 p1,.int .i64 p2] 3 (0,0)),(b5,.cells #[.bool false,.slice none 0 0,.slice none 0 0] 28 (0,0)),(b3,.cells (qDr p0 D1 D2 D3 D4 D5 D6 (some ⟨be17,oe17,none⟩) D8 D9 D10 D11 D12 D13 D14 D15 D16 D17 D18 D19 D20 D21 D22 D23 D24) 30 (0,0))] ∧ Le (rd w23 Y23) (rd w1 Y1) ∧ zL (rd w1 (orN Y1 w.heap.size)) a24_0_1 v24_0.ln.length a24_0_2 v24_0.ln ∧ zL (rd w1 (orN Y1 w.heap.size)) a24_0_3 v24_0.ld.length a24_0_4 v24_0.ld ∧ J24 v24_0 = some y) ?_ ?_
 rintro ⟨v24_0,a24_0_1,a24_0_2,a24_0_3,a24_0_4⟩ w24 ⟨Y24,C24,B24,P24_0_0,P24_0_1,hp⟩
 have hp := (hJ24 _).symm.trans hp
 have C := rQ hp
 obtain ⟨J25,hJ25,hp⟩ := C
 refine yT (fun ((v25_0,a25_0_1,a25_0_2,a25_0_3,a25_0_4) : Raw × (Option Addr) × Nat × (Option Addr) × Nat) => [(1,.int .i64 p1),(2,.int .i64 p2),(3,.pointer (some ⟨b3,0,none⟩)),(6,.pointer (some ⟨b5,0,none⟩)),(9,.pointer (some ⟨b14,0,none⟩)),(10,.func (.func 56) #[] #[.pointer (some ⟨b14,0,none⟩)]),(13,.bool ((x16.sense) == x18.sense))]) (fun (v25_0,a25_0_1,a25_0_2,a25_0_3,a25_0_4) w1 => ∃ Y1 : Hid,St E0 w X w1 Y1 [((e20 10),.cells #[.int .u8 x16.sense,.int .i64 x16.lo,.int .i64 x16.hi] 96 (0,0)),((e20 11),.cells #[.int .u8 x18.sense,.int .i64 x18.lo,.int .i64 x18.hi] 96 (0,0)),(b14,.cells #[.bool v25_0.neg,.slice a25_0_1 v25_0.ln.length a25_0_2,.slice a25_0_3 v25_0.ld.length a25_0_4] 28 (0,0)),(b7,.cells #[.int .i64 p1,.int .i64 p2] 3 (0,0)),(b5,.cells #[.bool false,.slice none 0 0,.slice none 0 0] 28 (0,0)),(b3,.cells (qDr p0 D1 D2 D3 D4 D5 D6 (some ⟨be17,oe17,none⟩) D8 D9 D10 D11 D12 D13 D14 D15 D16 D17 D18 D19 D20 D21 D22 D23 D24) 30 (0,0))] ∧ Le (rd w24 Y24) (rd w1 Y1) ∧ zL (rd w1 (orN Y1 w.heap.size)) a25_0_1 v25_0.ln.length a25_0_2 v25_0.ln ∧ zL (rd w1 (orN Y1 w.heap.size)) a25_0_3 v25_0.ld.length a25_0_4 v25_0.ld ∧ J25 v25_0 = some y) ?_ ?_
 rintro ⟨v25_0,a25_0_1,a25_0_2,a25_0_3,a25_0_4⟩ w25 ⟨Y25,C25,B25,P25_0_0,P25_0_1,hp⟩
 have hp := (hJ25 _).symm.trans hp
 refine zz 6 <| zb 81 (b := ((p1) != 0)) (fun T26 => ?_) (fun T26 => ?_)
 have hp := ipb T26 hp
 refine zz 4 <| zb 85 (b := ((p2) != 0)) (fun T27 => ?_) (fun T27 => ?_)
 have hp := ipb T27 hp
 refine zz 4 <| zo 5 C25 <| zci (vs := #[.bool (!((x16.sense) == x18.sense)),.agg #[.bool p0.reversal.neg,.slice D21 p0.reversal.ln.length D22,.slice D23 p0.reversal.ld.length D24],.pointer (some ⟨b14,0,none⟩)]) Tryz.func56 (fun R28 hR28 => ?_)
 refine zz 2 <| zn pn (.cells #[.bool p0.reversal.neg,.slice D21 p0.reversal.ln.length D22,.slice D23 p0.reversal.ld.length D24] 28 (0,0)) C25 fun b30 w30 Y30 C30 B30 V30 => zz 7 <| zb 5 (b := !((x16.sense) == x18.sense)) (fun T31 => ?_) (fun T31 => ?_)
 have hp := ipb T31 hp
 refine zz 2 <| zo 3 C30 <| zo 0 C30 ?_
 have T3_ := (zNu B3 B5 B7 B10 B14 B15 B21 B22 B23 B24 B25).trans B30
 refine zQ hp fun y33 hy33 hp => zc C30 (dO _ X0 (zM _) v25_0 _ ⟨_,_,_,_,_,_,rfl,(((P25_0_0.mono Le.orl).mono B30).mono Le.x0),(((P25_0_1.mono Le.orl).mono B30).mono Le.x0)⟩ p0.reversal _ ⟨_,_,_,_,_,_,rfl,((p0a_h10.mono T3_).mono Le.x0),((p0a_h11.mono T3_).mono Le.x0)⟩ y33 hy33) ?_
 rintro v34 w34 C34 B34 V34 ⟨uu34_0,rfl,⟨u34_0_1,u34_0_2,u34_0_3,u34_0_4,u34_0_5,u34_0_6,rfl,u34_0__h0,u34_0__h1⟩⟩
 have C := u34_0__h0.hlen
 subst C
 have C := u34_0__h1.hlen
 subst C
 refine zz 3 <| zx 3 #[.bool y33.1.neg,.slice u34_0_1 y33.1.ln.length u34_0_3,.slice u34_0_4 y33.1.ld.length u34_0_6] C34 fun w35 C35 B35 => zz 1 <| zr' (v := .tuple #[]) ?_
 refine hR28 _ _ <| zz 4 <| zo 3 C35 <| zx 5 #[.bool y33.1.neg,.slice u34_0_1 y33.1.ln.length u34_0_3,.slice u34_0_4 y33.1.ld.length u34_0_6] C35 fun w36 C36 B36 => zz 4 <| zrS [.cell 6 28,.tmp 7] (v := .tuple #[.agg #[.bool y33.1.neg,.slice u34_0_1 y33.1.ln.length u34_0_3,.slice u34_0_4 y33.1.ld.length u34_0_6],.int .i64 0]) (Res.cM C36 5 (Res.tZ Res.nil)) ?_
 cases hp
 exact ⟨C36.upd,_,rfl,⟨_,rfl,⟨_,_,_,_,_,_,rfl,((u34_0__h0.mono (Le.own C30.lt C30.upd.size (Le2 B35 B36)))).mono Le.orr,((u34_0__h1.mono (Le.own C30.lt C30.upd.size (Le2 B35 B36)))).mono Le.orr⟩⟩⟩
 have hp := iqb T31 hp
 refine zz 2 <| zr' (v := .tuple #[]) ?_
 refine hR28 _ _ <| zz 4 <| zo 3 C30 <| zx 5 #[.bool v25_0.neg,.slice a25_0_1 v25_0.ln.length a25_0_2,.slice a25_0_3 v25_0.ld.length a25_0_4] C30 fun w37 C37 B37 => zz 4 <| zrS [.cell 6 28,.tmp 7] (v := .tuple #[.agg #[.bool v25_0.neg,.slice a25_0_1 v25_0.ln.length a25_0_2,.slice a25_0_3 v25_0.ld.length a25_0_4],.int .i64 0]) (Res.cM C37 5 (Res.tZ Res.nil)) ?_
 cases hp
 exact ⟨C37.upd,_,rfl,⟨_,rfl,⟨_,_,_,_,_,_,rfl,((P25_0_0.mono (Le.or (Le2 B30 B37) _))).mono Le.orr,((P25_0_1.mono (Le.or (Le2 B30 B37) _))).mono Le.orr⟩⟩⟩
 have hp := iqb T27 hp
 refine zz 4 <| zo 5 C25 <| zci (vs := #[.bool false,.agg #[.bool p0.reversal.neg,.slice D21 p0.reversal.ln.length D22,.slice D23 p0.reversal.ld.length D24],.pointer (some ⟨b14,0,none⟩)]) Tryz.func56 (fun R38 hR38 => ?_)
 refine zz 2 <| zn pn (.cells #[.bool p0.reversal.neg,.slice D21 p0.reversal.ln.length D22,.slice D23 p0.reversal.ld.length D24] 28 (0,0)) C25 fun b40 w40 Y40 C40 B40 V40 => zz 9 <| zr' (v := .tuple #[]) ?_
 refine hR38 _ _ <| zz 4 <| zo 3 C40 <| zx 5 #[.bool v25_0.neg,.slice a25_0_1 v25_0.ln.length a25_0_2,.slice a25_0_3 v25_0.ld.length a25_0_4] C40 fun w41 C41 B41 => zz 4 <| zrS [.cell 6 28,.tmp 7] (v := .tuple #[.agg #[.bool v25_0.neg,.slice a25_0_1 v25_0.ln.length a25_0_2,.slice a25_0_3 v25_0.ld.length a25_0_4],.int .i64 0]) (Res.cM C41 5 (Res.tZ Res.nil)) ?_
 cases hp
 exact ⟨C41.upd,_,rfl,⟨_,rfl,⟨_,_,_,_,_,_,rfl,((P25_0_0.mono (Le.or (Le2 B40 B41) _))).mono Le.orr,((P25_0_1.mono (Le.or (Le2 B40 B41) _))).mono Le.orr⟩⟩⟩
 have hp := iqb T26 hp
 refine zz 8 <| zo 5 C25 <| zci (vs := #[.bool false,.agg #[.bool p0.reversal.neg,.slice D21 p0.reversal.ln.length D22,.slice D23 p0.reversal.ld.length D24],.pointer (some ⟨b14,0,none⟩)]) Tryz.func56 (fun R42 hR42 => ?_)
 refine zz 2 <| zn pn (.cells #[.bool p0.reversal.neg,.slice D21 p0.reversal.ln.length D22,.slice D23 p0.reversal.ld.length D24] 28 (0,0)) C25 fun b44 w44 Y44 C44 B44 V44 => zz 9 <| zr' (v := .tuple #[]) ?_
 refine hR42 _ _ <| zz 4 <| zo 3 C44 <| zx 5 #[.bool v25_0.neg,.slice a25_0_1 v25_0.ln.length a25_0_2,.slice a25_0_3 v25_0.ld.length a25_0_4] C44 fun w45 C45 B45 => zz 4 <| zrS [.cell 6 28,.tmp 7] (v := .tuple #[.agg #[.bool v25_0.neg,.slice a25_0_1 v25_0.ln.length a25_0_2,.slice a25_0_3 v25_0.ld.length a25_0_4],.int .i64 0]) (Res.cM C45 5 (Res.tZ Res.nil)) ?_
 cases hp
 exact ⟨C45.upd,_,rfl,⟨_,rfl,⟨_,_,_,_,_,_,rfl,((P25_0_0.mono (Le.or (Le2 B44 B45) _))).mono Le.orr,((P25_0_1.mono (Le.or (Le2 B44 B45) _))).mono Le.orr⟩⟩⟩
 intro K46 H46
 refine zEb [0,1,3,4,5] C24 <| gz [0,1,2,3] <| gb 49 (b := ((p1) != 0)) (fun T47 => ?_) (fun T47 => ?_)
 have hp := ipb T47 hp
 refine gz [4,5,6,7] <| gb 53 (b := ((p2) != 0)) (fun T48 => ?_) (fun T48 => ?_)
 have hp := ipb T48 hp
 refine gz [8,9,10] <| gb 56 (b := ((x16.sense) == x18.sense)) (fun T49 => ?_) (fun T49 => ?_)
 have hp := ipb T49 hp
 refine gz [11] <| gw 12 1 <| gz [13] <| gw 14 0 <| gz [15,16,17] <| gt 63 (p := (x18.lo) ≥ x16.lo) (fun Q50 => ?_) (fun Q50 => ?_)
 have hp := ip Q50 hp
 refine gz [18] <| gw 19 1 <| gz [20] <| gw 21 0 <| gz [22,23,24] <| gt 70 (p := (x18.hi) ≤ x16.hi) (fun Q51 => ?_) (fun Q51 => ?_)
 have hp := ip Q51 hp
 refine gw 25 0 <| gw 26 1 <| gH (v := .bool (!((x16.sense == x18.sense) && ((x16.lo == x18.lo) && (x16.hi == x18.hi))))) 27 (fun w => zJg (k1 := .u8) (k2 := .i64) (k3 := .i64) (a1 := x16.sense) (a2 := x16.lo) (a3 := x16.hi) (b1 := x18.sense) (b2 := x18.lo) (b3 := x18.hi) 96 96) <| gz [28,29] <| gw 30 4 <| gci 31 (vs := #[.bool (!((x16.sense == x18.sense) && ((x16.lo == x18.lo) && (x16.hi == x18.hi)))),.agg #[.bool p0.strengthen.neg,.slice D17 p0.strengthen.ln.length D18,.slice D19 p0.strengthen.ld.length D20],.pointer (some ⟨b14,0,none⟩)]) Tryz.func56 (fun w52 Y52 C52 B52 R53 hR53 => ?_)
 refine zz 2 <| zn pn (.cells #[.bool p0.strengthen.neg,.slice D17 p0.strengthen.ln.length D18,.slice D19 p0.strengthen.ld.length D20] 28 (0,0)) C52 fun b55 w55 Y55 C55 B55 V55 => zz 7 <| zb 5 (b := !((x16.sense == x18.sense) && ((x16.lo == x18.lo) && (x16.hi == x18.hi)))) (fun T56 => ?_) (fun T56 => ?_)
 have hp := ipb T56 hp
 refine zz 2 <| zo 3 C55 <| zo 0 C55 ?_
 have T4_ := (zNu B3 B5 B7 B10 B14 B15 B21 B22 B23 B24 B52).trans B55
 refine zQ hp fun y58 hy58 hp => zc C55 (dO _ X0 (zM _) v24_0 _ ⟨_,_,_,_,_,_,rfl,(((P24_0_0.mono Le.orl).mono (Le2 B52 B55)).mono Le.x0),(((P24_0_1.mono Le.orl).mono (Le2 B52 B55)).mono Le.x0)⟩ p0.strengthen _ ⟨_,_,_,_,_,_,rfl,((p0a_h8.mono T4_).mono Le.x0),((p0a_h9.mono T4_).mono Le.x0)⟩ y58 hy58) ?_
 rintro v59 w59 C59 B59 V59 ⟨uu59_0,rfl,⟨u59_0_1,u59_0_2,u59_0_3,u59_0_4,u59_0_5,u59_0_6,rfl,u59_0__h0,u59_0__h1⟩⟩
 have C := u59_0__h0.hlen
 subst C
 have C := u59_0__h1.hlen
 subst C
 refine zz 3 <| zx 3 #[.bool y58.1.neg,.slice u59_0_1 y58.1.ln.length u59_0_3,.slice u59_0_4 y58.1.ld.length u59_0_6] C59 fun w60 C60 B60 => zz 1 <| zr' (v := .tuple #[]) ?_
 have T5_ := (Le3 B52 B55 B59).trans B60
 refine hR53 _ _ _ _ C60 T5_ (.inr fun _ => zJb [1,2,4,5,6]) ?_
 refine yO (fun w61 Y61 C61 B61 => ?_)
 have T6_ := T5_.trans B61
 exact zP (fun a h => H46 (y58.1,u59_0_1,u59_0_3,u59_0_4,u59_0_6) _ a h ⟨_,C61.tail,T6_,(u59_0__h0.mono (Le.own C55.lt C55.upd.size (Le2 B60 B61))),(u59_0__h1.mono (Le.own C55.lt C55.upd.size (Le2 B60 B61))),hp⟩)
 have hp := iqb T56 hp
 refine zz 2 <| zr' (v := .tuple #[]) ?_
 refine hR53 _ _ _ _ C55 (Le2 B52 B55) (.inr fun _ => zJb [1,2,4,5,6]) ?_
 refine yO (fun w62 Y62 C62 B62 => ?_)
 exact zP (fun a h => H46 (v24_0,a24_0_1,a24_0_2,a24_0_3,a24_0_4) _ a h ⟨_,C62.tail,(Le3 B52 B55 B62),(P24_0_0.mono (Le.or (Le3 B52 B55 B62) _)),(P24_0_1.mono (Le.or (Le3 B52 B55 B62) _)),hp⟩)
 have hp := iq Q51 hp
 refine gz [25,26,27,28,29] <| gw 30 4 <| gci 31 (vs := #[.bool false,.agg #[.bool p0.strengthen.neg,.slice D17 p0.strengthen.ln.length D18,.slice D19 p0.strengthen.ld.length D20],.pointer (some ⟨b14,0,none⟩)]) Tryz.func56 (fun w63 Y63 C63 B63 R64 hR64 => ?_)
 refine zz 2 <| zn pn (.cells #[.bool p0.strengthen.neg,.slice D17 p0.strengthen.ln.length D18,.slice D19 p0.strengthen.ld.length D20] 28 (0,0)) C63 fun b66 w66 Y66 C66 B66 V66 => zz 9 <| zr' (v := .tuple #[]) ?_
 refine hR64 _ _ _ _ C66 (Le2 B63 B66) (.inr fun _ => zJb [1,2,4,5,6]) ?_
 refine yO (fun w67 Y67 C67 B67 => ?_)
 exact zP (fun a h => H46 (v24_0,a24_0_1,a24_0_2,a24_0_3,a24_0_4) _ a h ⟨_,C67.tail,(Le3 B63 B66 B67),(P24_0_0.mono (Le.or (Le3 B63 B66 B67) _)),(P24_0_1.mono (Le.or (Le3 B63 B66 B67) _)),hp⟩)
 have hp := iq Q50 hp
 refine gz [18,19,20,21,22,23,24,25,26,27,28,29] <| gw 30 4 <| gci 31 (vs := #[.bool false,.agg #[.bool p0.strengthen.neg,.slice D17 p0.strengthen.ln.length D18,.slice D19 p0.strengthen.ld.length D20],.pointer (some ⟨b14,0,none⟩)]) Tryz.func56 (fun w68 Y68 C68 B68 R69 hR69 => ?_)
 refine zz 2 <| zn pn (.cells #[.bool p0.strengthen.neg,.slice D17 p0.strengthen.ln.length D18,.slice D19 p0.strengthen.ld.length D20] 28 (0,0)) C68 fun b71 w71 Y71 C71 B71 V71 => zz 9 <| zr' (v := .tuple #[]) ?_
 refine hR69 _ _ _ _ C71 (Le2 B68 B71) (.inr fun _ => zJb [1,2,4,5,6]) ?_
 refine yO (fun w72 Y72 C72 B72 => ?_)
 exact zP (fun a h => H46 (v24_0,a24_0_1,a24_0_2,a24_0_3,a24_0_4) _ a h ⟨_,C72.tail,(Le3 B68 B71 B72),(P24_0_0.mono (Le.or (Le3 B68 B71 B72) _)),(P24_0_1.mono (Le.or (Le3 B68 B71 B72) _)),hp⟩)
 have hp := iqb T49 hp
 refine gz [11,12,13,14,15,16,17,18,19,20,21,22,23,24,25,26,27,28,29] <| gw 30 4 <| gci 31 (vs := #[.bool false,.agg #[.bool p0.strengthen.neg,.slice D17 p0.strengthen.ln.length D18,.slice D19 p0.strengthen.ld.length D20],.pointer (some ⟨b14,0,none⟩)]) Tryz.func56 (fun w73 Y73 C73 B73 R74 hR74 => ?_)
 refine zz 2 <| zn pn (.cells #[.bool p0.strengthen.neg,.slice D17 p0.strengthen.ln.length D18,.slice D19 p0.strengthen.ld.length D20] 28 (0,0)) C73 fun b76 w76 Y76 C76 B76 V76 => zz 9 <| zr' (v := .tuple #[]) ?_
 refine hR74 _ _ _ _ C76 (Le2 B73 B76) (.inr fun _ => zJb [1,2,4,5,6]) ?_
 refine yO (fun w77 Y77 C77 B77 => ?_)
 exact zP (fun a h => H46 (v24_0,a24_0_1,a24_0_2,a24_0_3,a24_0_4) _ a h ⟨_,C77.tail,(Le3 B73 B76 B77),(P24_0_0.mono (Le.or (Le3 B73 B76 B77) _)),(P24_0_1.mono (Le.or (Le3 B73 B76 B77) _)),hp⟩)
 have hp := iqb T48 hp
 refine gz [8,9,10,11,12,13,14,15,16,17,18,19,20,21,22,23,24,25,26,27,28,29] <| gw 30 4 <| gci 31 (vs := #[.bool false,.agg #[.bool p0.strengthen.neg,.slice D17 p0.strengthen.ln.length D18,.slice D19 p0.strengthen.ld.length D20],.pointer (some ⟨b14,0,none⟩)]) Tryz.func56 (fun w78 Y78 C78 B78 R79 hR79 => ?_)
 refine zz 2 <| zn pn (.cells #[.bool p0.strengthen.neg,.slice D17 p0.strengthen.ln.length D18,.slice D19 p0.strengthen.ld.length D20] 28 (0,0)) C78 fun b81 w81 Y81 C81 B81 V81 => zz 9 <| zr' (v := .tuple #[]) ?_
 refine hR79 _ _ _ _ C81 (Le2 B78 B81) (.inr fun _ => zJb [1,2,4,5,6]) ?_
 refine yO (fun w82 Y82 C82 B82 => ?_)
 exact zP (fun a h => H46 (v24_0,a24_0_1,a24_0_2,a24_0_3,a24_0_4) _ a h ⟨_,C82.tail,(Le3 B78 B81 B82),(P24_0_0.mono (Le.or (Le3 B78 B81 B82) _)),(P24_0_1.mono (Le.or (Le3 B78 B81 B82) _)),hp⟩)
 have hp := iqb T47 hp
 refine gz [4,5,6,7,8,9,10,11,12,13,14,15,16,17,18,19,20,21,22,23,24,25,26,27,28,29] <| gw 30 4 <| gci 31 (vs := #[.bool false,.agg #[.bool p0.strengthen.neg,.slice D17 p0.strengthen.ln.length D18,.slice D19 p0.strengthen.ld.length D20],.pointer (some ⟨b14,0,none⟩)]) Tryz.func56 (fun w83 Y83 C83 B83 R84 hR84 => ?_)
 refine zz 2 <| zn pn (.cells #[.bool p0.strengthen.neg,.slice D17 p0.strengthen.ln.length D18,.slice D19 p0.strengthen.ld.length D20] 28 (0,0)) C83 fun b86 w86 Y86 C86 B86 V86 => zz 9 <| zr' (v := .tuple #[]) ?_
 refine hR84 _ _ _ _ C86 (Le2 B83 B86) (.inr fun _ => zJb [1,2,4,5,6]) ?_
 refine yO (fun w87 Y87 C87 B87 => ?_)
 exact zP (fun a h => H46 (v24_0,a24_0_1,a24_0_2,a24_0_3,a24_0_4) _ a h ⟨_,C87.tail,(Le3 B83 B86 B87),(P24_0_0.mono (Le.or (Le3 B83 B86 B87) _)),(P24_0_1.mono (Le.or (Le3 B83 B86 B87) _)),hp⟩)
 intro K88 H88
 refine zz 5 <| zo 5 C23 <| zci (vs := #[.bool ((p2) != 0),.agg #[.bool p0.alert.neg,.slice D13 p0.alert.ln.length D14,.slice D15 p0.alert.ld.length D16],.pointer (some ⟨b14,0,none⟩)]) Tryz.func56 (fun R89 hR89 => ?_)
 refine zz 2 <| zn pn (.cells #[.bool p0.alert.neg,.slice D13 p0.alert.ln.length D14,.slice D15 p0.alert.ld.length D16] 28 (0,0)) C23 fun b91 w91 Y91 C91 B91 V91 => zz 7 <| zb 5 (b := ((p2) != 0)) (fun T92 => ?_) (fun T92 => ?_)
 have hp := ipb T92 hp
 refine zz 2 <| zo 3 C91 <| zo 0 C91 ?_
 have T7_ := (Le9 B3 B5 B7 B10 B14 B15 B21 B22 B23).trans B91
 refine zQ hp fun y94 hy94 hp => zc C91 (dO _ X0 (zM _) Raw.zero _ ⟨_,_,_,_,_,_,rfl,zL.nil0,zL.nil0⟩ p0.alert _ ⟨_,_,_,_,_,_,rfl,((p0a_h6.mono T7_).mono Le.x0),((p0a_h7.mono T7_).mono Le.x0)⟩ y94 hy94) ?_ (vs := #[.agg #[.bool false,.slice none 0 0,.slice none 0 0],.agg #[.bool p0.alert.neg,.slice D13 p0.alert.ln.length D14,.slice D15 p0.alert.ld.length D16]])
 rintro v95 w95 C95 B95 V95 ⟨uu95_0,rfl,⟨u95_0_1,u95_0_2,u95_0_3,u95_0_4,u95_0_5,u95_0_6,rfl,u95_0__h0,u95_0__h1⟩⟩
 have C := u95_0__h0.hlen
 subst C
 have C := u95_0__h1.hlen
 subst C
 refine zz 3 <| zx 3 #[.bool y94.1.neg,.slice u95_0_1 y94.1.ln.length u95_0_3,.slice u95_0_4 y94.1.ld.length u95_0_6] C95 fun w96 C96 B96 => zz 1 <| zr' (v := .tuple #[]) ?_
 refine hR89 _ _ <| zz 1 ?_
 exact zP (fun a h => H88 (y94.1,u95_0_1,u95_0_3,u95_0_4,u95_0_6) _ a h ⟨_,C96.tail,(Le3 B91 B95 B96),(u95_0__h0.mono (Le.own C91.lt C91.upd.size B96)),(u95_0__h1.mono (Le.own C91.lt C91.upd.size B96)),hp⟩)
 have hp := iqb T92 hp
 refine zz 2 <| zr' (v := .tuple #[]) ?_
 refine hR89 _ _ <| zz 1 ?_
 exact zP (fun a h => H88 (Raw.zero,none,0,none,0) _ a h ⟨_,C91.tail,B91,zL.nil0,zL.nil0,hp⟩)
end
end Go.Proofs.YtjnbipmlmafahaaGreat
namespace Go.Proofs.YtjnbipmlmafahaaGreat
open Go Go.Gv Go.RowKit Go.Sort Go.Maps Go.Shelf IntKind
set_option maxRecDepth 100000
set_option maxHeartbeats 1000000
def zNp : Go.Shelf.Ren := ⟨fun | 7 => 97 | 10 => 137 | n => n,fun | 23 => 128 | 26 => 3 | 3 => 28 | 28 => 135 | 0 => 0 | 27 => 134 | 33 => 139 | 4 => 4 | n => n,fun n => n⟩
theorem zSr : Go.Proofs.SlLaysZI.n7 Tryz.prog zNp := { mixed := by kernel_rfl, f7 := ⟨"maps.Keys[map[int]clearway/api.Rat,int,clearway/api.Rat]", by decide, Tryz.func97.trans (congrArg some (by kernel_rfl))⟩, f10 := ⟨"maps.Keys[map[int]clearway/api.Rat,int,clearway/api.Rat]$1", by decide, Tryz.func137.trans (congrArg some (by kernel_rfl))⟩, t0 := Tryz.underlying0, a0 := Tryz.isAgg0, z0 := Tryz.sizeOf0, v0 := Tryz.zeroValue0, t4 := Tryz.underlying4, a4 := Tryz.isAgg4, z4 := Tryz.sizeOf4, v4 := Tryz.zeroValue4, t23 := Tryz.underlying128, a23 := Tryz.isAgg128, z23 := Tryz.sizeOf128, v23 := Tryz.zeroValue128, t26 := Tryz.underlying3, a26 := Tryz.isAgg3, z26 := Tryz.sizeOf3, v26 := Tryz.zeroValue3, t27 := Tryz.underlying134, a27 := Tryz.isAgg134, z27 := Tryz.sizeOf134, v27 := Tryz.zeroValue134, t28 := Tryz.underlying135, a28 := Tryz.isAgg135, z28 := Tryz.sizeOf135, v28 := Tryz.zeroValue135, t33 := Tryz.underlying139, a33 := Tryz.isAgg139, z33 := Tryz.sizeOf139, v33 := Tryz.zeroValue139 }
def zHw : Go.Shelf.Ren := ⟨fun | 6 => 96 | 8 => 135 | 9 => 136 | 11 => 162 | 13 => 164 | 12 => 163 | 23 => 182 | 24 => 183 | 14 => 173 | 15 => 174 | 16 => 175 | 17 => 176 | 18 => 177 | 19 => 178 | 20 => 179 | 21 => 180 | 22 => 181 | 25 => 190 | 26 => 191 | 27 => 192 | 28 => 193 | 29 => 194 | 30 => 185 | 31 => 197 | n => n,fun | 26 => 3 | 28 => 135 | 24 => 22 | 0 => 0 | 3 => 3 | 37 => 189 | 48 => 179 | 50 => 158 | 4 => 4 | 40 => 212 | 39 => 211 | 45 => 216 | 5 => 5 | 9 => 9 | 51 => 223 | 55 => 227 | 57 => 230 | 58 => 231 | 33 => 139 | n => n,fun n => n⟩
theorem zMp : Go.Proofs.SlLaysZI.n6 Tryz.prog zHw := { mixed := by kernel_rfl, f6 := ⟨"slices.Sorted[int]", by decide, Tryz.func96.trans (congrArg some (by kernel_rfl))⟩, f8 := ⟨"slices.Collect[int]", by decide, Tryz.func135.trans (congrArg some (by kernel_rfl))⟩, f11 := ⟨"slices.AppendSeq[[]int,int]", by decide, Tryz.func162.trans (congrArg some (by kernel_rfl))⟩, t0 := Tryz.underlying0, a0 := Tryz.isAgg0, z0 := Tryz.sizeOf0, v0 := Tryz.zeroValue0, t24 := Tryz.underlying22, a24 := Tryz.isAgg22, z24 := Tryz.sizeOf22, v24 := Tryz.zeroValue22, t26 := Tryz.underlying3, a26 := Tryz.isAgg3, z26 := Tryz.sizeOf3, v26 := Tryz.zeroValue3, t28 := Tryz.underlying135, a28 := Tryz.isAgg135, z28 := Tryz.sizeOf135, v28 := Tryz.zeroValue135, i26 := by kernel_rfl }
def zTm : Go.Shelf.Ren := ⟨fun | 5 => 136 | 8 => 164 | 7 => 163 | 19 => 182 | 20 => 183 | 10 => 173 | 11 => 174 | 12 => 175 | 13 => 176 | 14 => 177 | 15 => 178 | 16 => 179 | 17 => 180 | 18 => 181 | 30 => 190 | 31 => 191 | 32 => 192 | 33 => 193 | 34 => 194 | 35 => 185 | 40 => 197 | n => n,fun | 23 => 22 | 25 => 3 | 3 => 3 | 32 => 189 | 22 => 22 | 0 => 0 | 44 => 179 | 46 => 158 | 4 => 4 | 36 => 212 | 35 => 211 | 41 => 216 | 5 => 5 | 9 => 9 | 53 => 223 | 57 => 227 | 63 => 230 | 64 => 231 | n => n,fun n => n⟩
theorem zKm : Go.Proofs.SlLaysM.n5 Tryz.prog zTm := { mixed := by kernel_rfl, f5 := ⟨"slices.Sort[[]int,int]", by decide, Tryz.func136.trans (congrArg some (by kernel_rfl))⟩, f7 := ⟨"slices.pdqsortOrdered[int]", by decide, Tryz.func163.trans (congrArg some (by kernel_rfl))⟩, f8 := Tryz.func164.trans (congrArg some (by kernel_rfl)), f10 := ⟨"slices.insertionSortOrdered[int]", by decide, Tryz.func173.trans (congrArg some (by kernel_rfl))⟩, f11 := ⟨"slices.heapSortOrdered[int]", by decide, Tryz.func174.trans (congrArg some (by kernel_rfl))⟩, f12 := ⟨"slices.breakPatternsOrdered[int]", by decide, Tryz.func175.trans (congrArg some (by kernel_rfl))⟩, f13 := ⟨"slices.choosePivotOrdered[int]", by decide, Tryz.func176.trans (congrArg some (by kernel_rfl))⟩, f14 := ⟨"slices.reverseRangeOrdered[int]", by decide, Tryz.func177.trans (congrArg some (by kernel_rfl))⟩, f15 := ⟨"slices.partialInsertionSortOrdered[int]", by decide, Tryz.func178.trans (congrArg some (by kernel_rfl))⟩, f16 := ⟨"cmp.Less[int]", by decide, Tryz.func179.trans (congrArg some (by kernel_rfl))⟩, f17 := ⟨"slices.partitionEqualOrdered[int]", by decide, Tryz.func180.trans (congrArg some (by kernel_rfl))⟩, f18 := ⟨"slices.partitionOrdered[int]", by decide, Tryz.func181.trans (congrArg some (by kernel_rfl))⟩, f19 := Tryz.func182.trans (congrArg some (by kernel_rfl)), f20 := Tryz.func183.trans (congrArg some (by kernel_rfl)), f30 := ⟨"slices.siftDownOrdered[int]", by decide, Tryz.func190.trans (congrArg some (by kernel_rfl))⟩, f31 := Tryz.func191.trans (congrArg some (by kernel_rfl)), f32 := Tryz.func192.trans (congrArg some (by kernel_rfl)), f33 := ⟨"slices.medianAdjacentOrdered[int]", by decide, Tryz.func193.trans (congrArg some (by kernel_rfl))⟩, f34 := ⟨"slices.medianOrdered[int]", by decide, Tryz.func194.trans (congrArg some (by kernel_rfl))⟩, f35 := ⟨"cmp.isNaN[int]", by decide, Tryz.func185.trans (congrArg some (by kernel_rfl))⟩, f40 := ⟨"slices.order2Ordered[int]", by decide, Tryz.func197.trans (congrArg some (by kernel_rfl))⟩, t0 := Tryz.underlying0, a0 := Tryz.isAgg0, z0 := Tryz.sizeOf0, v0 := Tryz.zeroValue0, t3 := Tryz.underlying3, a3 := Tryz.isAgg3, z3 := Tryz.sizeOf3, v3 := Tryz.zeroValue3, t4 := Tryz.underlying4, a4 := Tryz.isAgg4, z4 := Tryz.sizeOf4, v4 := Tryz.zeroValue4, t5 := Tryz.underlying5, a5 := Tryz.isAgg5, z5 := Tryz.sizeOf5, v5 := Tryz.zeroValue5, t9 := Tryz.underlying9, a9 := Tryz.isAgg9, z9 := Tryz.sizeOf9, v9 := Tryz.zeroValue9, t22 := Tryz.underlying22, a22 := Tryz.isAgg22, z22 := Tryz.sizeOf22, v22 := Tryz.zeroValue22, t23 := Tryz.underlying22, a23 := Tryz.isAgg22, z23 := Tryz.sizeOf22, v23 := Tryz.zeroValue22, t25 := Tryz.underlying3, a25 := Tryz.isAgg3, z25 := Tryz.sizeOf3, v25 := Tryz.zeroValue3, t32 := Tryz.underlying189, a32 := Tryz.isAgg189, z32 := Tryz.sizeOf189, v32 := Tryz.zeroValue189, t35 := Tryz.underlying211, a35 := Tryz.isAgg211, z35 := Tryz.sizeOf211, v35 := Tryz.zeroValue211, t36 := Tryz.underlying212, a36 := Tryz.isAgg212, z36 := Tryz.sizeOf212, v36 := Tryz.zeroValue212, t41 := Tryz.underlying216, a41 := Tryz.isAgg216, z41 := Tryz.sizeOf216, v41 := Tryz.zeroValue216, t44 := Tryz.underlying179, a44 := Tryz.isAgg179, z44 := Tryz.sizeOf179, v44 := Tryz.zeroValue179, t46 := Tryz.underlying158, a46 := Tryz.isAgg158, z46 := Tryz.sizeOf158, v46 := Tryz.zeroValue158, t53 := Tryz.underlying223, a53 := Tryz.isAgg223, z53 := Tryz.sizeOf223, v53 := Tryz.zeroValue223, t57 := Tryz.underlying227, a57 := Tryz.isAgg227, z57 := Tryz.sizeOf227, v57 := Tryz.zeroValue227, t63 := Tryz.underlying230, a63 := Tryz.isAgg230, z63 := Tryz.sizeOf230, v63 := Tryz.zeroValue230, t64 := Tryz.underlying231, a64 := Tryz.isAgg231, z64 := Tryz.sizeOf231, v64 := Tryz.zeroValue231 }
theorem zWz (m : Nat) : AnyZI.SortsIn Tryz.prog zHw Fence.wide m :=
 ⟨fun blk off cap ss W hH hblk hsz => callsIn_wide.2 (AnyM.slices_Sort_int zKm blk off cap ss W hH hblk hsz),fun p cap W => callsIn_wide.2 (AnyM.slices_Sort_int_none zKm p cap W)⟩
abbrev R0 : Value → Option (DataW Unit × List MemPlace) := fun _ => some (.lit (.bool true),[])
theorem zNb : ∀ (l : List (Int × Value)) (b : Nat),(rY l b).map (·.key) = l.map fun p => Value.int .i64 p.1
 | [],_ => rfl
 | _ :: l,b => by simp [rY,zNb l]
theorem zFa : ∀ (l : List (Int × Value)) (b : Nat),(rY l b).map (·.born) = List.range' b l.length
 | [],_ => rfl
 | _ :: l,b => by simp [rY,zFa l,List.range'_succ]
theorem zTz {P : Program} {k : TypeId} (hk : P.underlying k = some (.int .i64)) {z : Int} {v : Value} {b : Nat} (hz : -9223372036854775808 ≤ z ∧ z ≤ 9223372036854775807) : Go.WideElems.rd P k R0 ⟨.int .i64 z,v,b⟩ = some (.int .i64 z,.lit (.bool true)) :=
 Go.WideElems.rd_mk (R := R0) (val := v) (born := b) (yv := (.lit (.bool true),[])) (keyOf_int_mk (a := z) hk (by simp [Lit.wf,IntKind.min,IntKind.max,hz,IntKind.bits,IntKind.signed])) rfl
theorem zHz {P : Program} {k : TypeId} (hk : P.underlying k = some (.int .i64)) : ∀ (l : List (Int × Value)) (b : Nat),(∀ x ∈ l,-9223372036854775808 ≤ x.1 ∧ x.1 ≤ 9223372036854775807) → ∀ x ∈ rY l b,∃ z,Go.WideElems.rd P k R0 x = some (.int .i64 z,.lit (.bool true))
 | [],_,_,x,hx => by cases hx
 | p :: l,b,h,x,hx => by
  rcases List.mem_cons.1 hx with rfl | hx
  ·exact ⟨p.1,zTz hk (h p List.mem_cons_self)⟩
  ·exact zHz hk l (b + 1) (fun x hx => h x (List.mem_cons_of_mem _ hx)) x hx
theorem zPs {P : Program} {k : TypeId} (hk : P.underlying k = some (.int .i64)) : ∀ (l : List (Int × Value)) (b : Nat),(∀ x ∈ l,-9223372036854775808 ≤ x.1 ∧ x.1 ≤ 9223372036854775807) → ((rY l b).map (Go.WideElems.rg P k R0)).map (fun p => Go.intOf p.1) = l.map Prod.fst
 | [],_,_ => rfl
 | p :: l,b,h => by
  rw [rY,List.map_cons,List.map_cons,List.map_cons,zPs hk l (b + 1) (fun x hx => h x (List.mem_cons_of_mem _ hx)),Go.WideElems.rg_of (zTz hk (h p List.mem_cons_self))]
  rfl
theorem zRm {P : Program} {k : TypeId} {w : World} {b : Nat} {es : List (Int × Value)} (hk : P.underlying k = some (.int .i64)) (hb : w.heap[b]? = some (pJ es)) (hnd : (es.map Prod.fst).Nodup)
  (hr : ∀ x ∈ es,-9223372036854775808 ≤ x.1 ∧ x.1 ≤ 9223372036854775807) (hl : es.length ≤ maxLen) : w.ownsMap P k R0 b es.length (.map (((rY es 0).map (Go.WideElems.rg P k R0)).foldr DataW.insert [])) := by
 refine ⟨(rY es 0).toArray,es.length,hb,⟨by simpa [tL] using hl,⟨fun x hx => ?_,?_,?_⟩,fun x hx => ?_⟩,by simp [tL],rfl⟩
 ·have h1 : x.born ∈ (rY es 0).map (·.born) := List.mem_map_of_mem (by simpa using hx)
  rw [zFa] at h1
  have := List.mem_range'.1 h1
  omega
 ·show ((rY es 0).map (·.born)).Nodup
  rw [zFa]
  exact List.nodup_range'
 ·show ((rY es 0).map (·.key)).Nodup
  rw [zNb]
  have h2 : es.map (fun p => Value.int .i64 p.1) = (es.map Prod.fst).map (Value.int .i64) := by simp
  rw [h2]
  exact List.Pairwise.map _ (fun a b h e => h (by simpa using e)) hnd
 ·obtain ⟨z,hz⟩ := zHz hk es 0 hr x (by simpa using hx)
  exact ⟨_,hz⟩
theorem zRu {P : Program} {k : TypeId} {es : List (Int × Value)} (hk : P.underlying k = some (.int .i64)) (hr : ∀ x ∈ es,-9223372036854775808 ≤ x.1 ∧ x.1 ≤ 9223372036854775807) :
  (intKeys (DataW.map (((rY es 0).map (Go.WideElems.rg P k R0)).foldr DataW.insert []))).Perm (es.map Prod.fst) := by
 show ((((rY es 0).map (Go.WideElems.rg P k R0)).foldr DataW.insert []).map fun p => Go.intOf p.1).Perm _
 rw [← zPs hk es 0 hr]
 exact (Go.WideShapes.sorted_perm _).map _
theorem zJn {P : Program} {k : TypeId} (es : List (Int × Value)) : Maps.size (DataW.map (((rY es 0).map (Go.WideElems.rg P k R0)).foldr DataW.insert [])) = es.length := by
 show (((rY es 0).map (Go.WideElems.rg P k R0)).foldr DataW.insert []).length = es.length
 rw [length_sorted]
 simp [tL]
theorem zLe {α : Type} {V : Rd → Value → α → Prop} {r : Rd} {l : List (Int × α)} (w : World) {b b2 : Nat} {es : List (Int × Value)} (hb : w.heap[b]? = some (pJ es)) (hb2 : w.heap[b2]? = some (.cells #[.map (some b)] 128 (0,0))) (hR : pF V r es l)
  (hl : l.length * 8 ≤ 140737488355328) (y : List Int) (hp : some (dN (l.map Prod.fst)) = some y) :
  Calls Tryz.prog 96 #[.func (.func 137) #[] #[.pointer (some ⟨b2,0,none⟩)]] w (Ret E0 w fun w' v => SV wK (rd w' (old w)) v y) := by
 obtain rfl := Option.some.inj hp
 have hlen := hR.len
 have hk : Tryz.prog.underlying 3 = some (.int .i64) := by kernel_rfl
 have hown := zRm hk hb hR.nd hR.rng (by simp only [maxLen]; omega)
 have hlt2 : b2 < w.heap.size := by
  rcases Nat.lt_or_ge b2 w.heap.size with h | h
  ·exact h
  ·rw [Array.getElem?_eq_none h] at hb2; cases hb2
 have hseq : SeqGives Fence.wide 2 Tryz.prog 137 #[.pointer (some ⟨b2,0,none⟩)] encZ (fun ss => ss.Perm (intKeys _)) (Maps.size _) w :=
  AnyZI.keys_gives (ρ := zNp) { zSr with } Fence.wide _ trivial rfl (by omega) b2 b es.length _ _ hlt2 (by simp [World.cell?,hb2]) hown
 have cS := AnyZI.sorted_in zMp Fence.wide 5 trivial trivial trivial trivial rfl (by omega) (zWz _) (enters_of Tryz.func136 (by kernel_rfl) rfl) 137 #[.pointer (some ⟨b2,0,none⟩)] trivial (enters_of Tryz.func137 (by kernel_rfl) rfl) _ _ (by rw [zJn]; simp only [maxLen]; omega) (by rw [zJn]; omega) _ hseq
 refine ((callsIn_wide (n := 5)).1 cS).mono ?_
 rintro e w' ⟨v,ss,rfl,hperm,hrow,hnil,hbel⟩
 refine ⟨Upd.of_below hbel,v,rfl,?_⟩
 have hs : ss.mergeSort (fun x y => decide (x ≤ y)) = dN (l.map Prod.fst) := by
  refine zJf (((List.mergeSort_perm _ _).trans hperm).trans ((zRu hk hR.rng).trans (hR.keys ▸ (lG _).symm))) ?_ (bV _)
  have h1 := List.pairwise_mergeSort (le := fun x y : Int => decide (x ≤ y)) (fun a b c h1 h2 => by simp only [decide_eq_true_eq] at *; omega) (fun a b => by simp only [Bool.or_eq_true,decide_eq_true_eq]; omega) ss
  exact h1.imp fun h => by simpa using h
 rw [hs] at hrow
 obtain ⟨hxl,hrow⟩ := hrow
 rcases hrow with ⟨rfl,h0⟩ | ⟨g,cap,cur,rfl,hbase,hg,hn,hcap,hsz,hxs⟩
 ·have h1 : (dN (l.map Prod.fst)) = [] := List.eq_nil_of_length_eq_zero (by simpa [h0] using hxl)
  rw [h1]
  exact ⟨none,0,rfl,SlR.nil none (by decide)⟩
 ·have hle : ss.length = (dN (l.map Prod.fst)).length := by simpa using hxl.symm
  rw [hle]
  refine ⟨_,cap,rfl,⟨rfl,by omega,by simp only [maxLen] at hcap; omega,.inr ⟨g,0,rfl,fun i x hi => ?_⟩⟩⟩
  intro j v hv
  have hil := (List.getElem?_eq_some_iff.1 hi).1
  cases j with
  | succ j => simp at hv
  | zero =>
   obtain rfl : Value.int .i64 x = v := by simpa using hv
   have hc : cur[i]? = some (.int .i64 x) := by
    have h3 : (cur.toList.take (ss.length * 1))[i]? = some (.int .i64 x) := by
     rw [hxs]
     simp [hi]
    rw [List.getElem?_take] at h3
    split at h3
    ·simpa using h3
    ·cases h3
   rw [xC]
   refine bC ((cell_of_row w' g _ cur _ _ hg).trans (by simpa using hc)) (Nat.not_lt.2 hbase) (frozen_of_row w' g _ cur _ hg)
end Go.Proofs.YtjnbipmlmafahaaGreat

import Derived.Test.YtdfmdiakjdggbaaGreatDoorBaseG
set_option linter.unusedVariables false
set_option linter.unusedSimpArgs false
set_option linter.unnecessarySimpa false
namespace Go
abbrev uE:=@Int.lt_or_eq_of_le
abbrev uw:=@Rat.mul_nonneg
abbrev fe:=@exists_eq_or_imp
end Go
namespace Go.Proofs.YtdfmdiakjdggbaaGreatDoor
open Go Go.Gv Go.Ev Go.RowKit IntKind
noncomputable section
theorem eDt(ad mu:Raw→Raw→Raw)(ae me:Raw→Raw→Int)(a b:List Rt):((qF Tryz.prog (evD Tryz.prog (ODt ad mu ae me) (LDt ad mu ae me) 60) 70 [.ls .a zL a,.ls .a zL b] []).bind qJ).run=bif !(ieq (.ofNat a.length) (.ofNat b.length))then some (.tu [.ag [.v (.bool false),.v (Value.slice none 0 0),.v (Value.slice none 0 0)],vn 16],true)else gd ((Nat.beq a.length a.length)&&((Nat.ble a.length b.length)&&(Nat.blt a.length 9223372036854775807))) (bif Nat.blt 0 a.length then(bif isL (dtF ad mu ae me a b)then some (.tu [.ag [.v (.bool ((rL (dtF ad mu ae me a b)).1)),.ls .a .lim ((rL (dtF ad mu ae me a b)).2),.ls .a .lim ((rL (dtF ad mu ae me a b)).3)],vn 0],true)else some (.tu [.ag [.v (.bool false),.v (Value.slice none 0 0),.v (Value.slice none 0 0)],vi (eL (dtF ad mu ae me a b))],true))else some (.tu [.ag [.v (.bool false),.v (Value.slice none 0 0),.v (Value.slice none 0 0)],vn 0],true)):=by kernel_rfl
theorem zNi(a:Raw):0≤a.chk:=by unfold Raw.chk;split;decide;split;decide;split<;>decide
theorem qJs{x y:Int}(e:0≤x)(f:0≤y):0≤or2 x y:=by unfold or2;split<;>assumption
theorem zOp(a b:Raw)(x:Rat):0≤opE a b x:=qJs (qJs (zNi a) (zNi b)) (by unfold zAk;split<;>decide)
abbrev pE(e:Int):Nat:=e.toNat-1
theorem qKd{e:Int}(h:0<e):Int.ofNat (pE e+1)=e:=by
 obtain⟨n,rfl⟩:=jj (yb h);show Int.ofNat ((n:Int).toNat-1+1)=_;rw[wu,yj (by omega)];rfl
theorem qLt{B:Bm}{r:Rd}{t:T}{v:Value}(h:Rep B r (.tu [.ag z3,t]) v):Rep B r (.tu [.ag (rC r0),t]) v:=by
 obtain⟨vs,rfl,j⟩:=h.tuI;match vs,j with
 | [a,b],⟨k,q,_⟩=>
  refine Rep.mkTu (vs:=[a,b]) ⟨?_,q,trivial⟩;obtain⟨us,rfl,f⟩:=k.agI;match us,f with
  | [c,d,e],⟨g1,g2,g3,_⟩=>exact Rep.mkAg (vs:=[c,d,e]) ⟨g1,zDw g2,zDw g3,trivial⟩
section
variable (ad mu:Raw→Raw→Raw)(ae me:Raw→Raw→Int)
def zFg(a b:List Rt):Bool:=Nat.beq a.length b.length&&isL (dtF ad mu ae me a b)
def dtR(a b:List Rt):Raw:=bif zFg ad mu ae me a b then rL (dtF ad mu ae me a b)else r0
def dtE(a b:List Rt):Int:=bif Nat.beq a.length b.length then eL (dtF ad mu ae me a b)else 16
def dtP(a b:List Rt):Nat:=pE (dtE ad mu ae me a b)
theorem qOa(j:∀x y,0≤ae x y)(w:∀x y,0≤me x y){a b:List Rt}:∀{e:Int},dtF ad mu ae me a b= .inr e→0<e:=by
 have:=xG (g:=gDt ad mu ae me a b) (d:= .inl) (J:=fun _=>True) (R:=fun y=>∀e,y= .inr e→0<e) (fun _ _ _ _ _=>trivial)
  (fun i t y _ f e he=>by
   subst he;unfold gDt at f;have pos:∀z:Int,0≤z→ieq z 0=false→0<z:=fun z k q=>by
    rcases uE k with h | h
    ·exact h
    ·subst h;cases q
   cases k:ieq (me (xI a i) (xI b i)) 0<;>rw[k]at f
   ·cases f;exact pos _ (w _ _) k
   ·cases q:ieq (ae r0 t) 0<;>rw[q]at f
    ·cases f;exact pos _ (j _ _) q
    ·cases A:ieq (ae (ad r0 t) (mu (xI a i) (xI b i))) 0<;>rw[A]at f
     ·cases f;exact pos _ (j _ _) A
     ·cases f)
  (fun _ _ e he=>by cases he) a.length 0 r0 trivial
 intro e he;exact this e he
end
abbrev zU:List Rt→List Rt→Bool:=zFg adA muA aeA meA
abbrev qI:List Rt→List Rt→Raw:=dtR adA muA aeA meA
abbrev qX:List Rt→List Rt→Nat:=dtP adA muA aeA meA
theorem qIx:wC Tryz.prog (ODt adA muA aeA meA):=zS (zS jZ fun e f j h k=>xK qHp e f h k) fun e f j h k=>xK qPh e f h k
theorem jBf:vJ Tryz.prog (LDt adA muA aeA meA):=jP qA (kM yL qIx qA 60) qVw (qZu adA muA aeA meA)
theorem kDot:∀J Q N,(qH zU qI qX J).run=some (Q,N)→∀k,KnP Tryz.prog k 70 J Q N:=by
 intro J Q N hh k;unfold qH at hh;split at hh
 ·rename_i a b;obtain⟨h1,f⟩:=zT hh;simp only[zd,qp]at h1;have q:=eDt adA muA aeA meA a b;have fin:∀{A:T}{E:Bool},((qF Tryz.prog (evD Tryz.prog (ODt adA muA aeA meA) (LDt adA muA aeA meA) 60) 70 [.ls .a zL a,.ls .a zL b] []).bind qJ).run=some (A,E)→([T.ls .a zL a,.ls .a zL b].all (clean 12)&&clean 12 A)=true→KnP Tryz.prog k 70 [.ls .a zL a,.ls .a zL b] A E:=fun e hc=>yN (cz:=[.ls .a zL a,.ls .a zL b]) yL qIx jBf e hc k;simp only[DT.run]at f;cases z:Nat.beq a.length b.length with
  | false=>
   have K:ieq (.ofNat a.length) (.ofNat b.length)=false:=z;have j:zU a b=false:=by simp only[zU,zFg,z,uL]
   have y:qI a b=r0:=by unfold qI dtR;rw[show zFg adA muA aeA meA a b=false from j];rfl
   have M:Int.ofNat (qX a b+1)=16:=by unfold qX dtP dtE;rw[z];rfl
   rw[K]at q;rw[j,y,M]at f;cases f;exact(fin q rfl).res fun B r v h=>qLt h
  | true=>
   have K:ieq (.ofNat a.length) (.ofNat b.length)=true:=z;have hl':=zY z;have X:Nat.beq a.length a.length=true:=jL _;rw[K,X,yJ (show a.length≤b.length by omega),zP (show a.length<9223372036854775807 by omega)]at q
   simp only[gd,qb,zf,q9,ze]at q;have j:zU a b=isL (dtF adA muA aeA meA a b):=by simp only[zU,zFg,z,kx]
   cases H:Nat.blt 0 a.length with
   | false=>
    rw[H]at q;have W:a.length=0:=by
     rcases jg a.length with e | e
     ·exact e
     ·rw[zP e]at H;cases H
    have R:dtF adA muA aeA meA a b= .inl r0:=by unfold dtF;rw[W];rfl
    have y:qI a b=r0:=by unfold qI dtR;rw[R];cases zFg adA muA aeA meA a b<;>rfl
    rw[j,y,R]at f;cases f;exact(fin q rfl).res fun B r v h=>qLt h
   | true=>
    rw[H]at q;cases w:dtF adA muA aeA meA a b with
    | inl t=>
     have y:qI a b=t:=by unfold qI dtR;rw[show zFg adA muA aeA meA a b=isL (dtF adA muA aeA meA a b)from j,w];rfl
     rw[w]at q;rw[j,y,w]at f;cases f;exact fin q rfl
    | inr e=>
     have y:qI a b=r0:=by unfold qI dtR;rw[show zFg adA muA aeA meA a b=isL (dtF adA muA aeA meA a b)from j,w];rfl
     have he:0<e:=qOa adA muA aeA meA (fun _ _=>zOp _ _ _) (fun _ _=>zOp _ _ _) w;have M:Int.ofNat (qX a b+1)=e:=by
      unfold qX dtP dtE;rw[z,w];exact qKd he
     rw[w]at q;rw[j,y,w,M]at f;cases f;exact(fin q rfl).res fun B r v h=>qLt h
 ·cases hh
theorem kFrT:KC Tryz.prog 47 (fun f=>(vH frA f).run) true:=by
 have e:(fun f=>(vH frA f).run)=pI frA:=funext fun f=>by
  unfold vH pI;split
  ·rename_i n;show(bif rO n then _ else _)=_;rfl
  ·rename_i h;split
   ·rename_i n;exact absurd rfl (h n)
   ·rfl
 rw[e];exact zRl
abbrev zbA(b:Raw):Bool:=Nat.beq (val b.ln) 0
abbrev dvE(a b:Raw):Int:=opE a b (a.rat / b.rat)
abbrev dvR(a b:Raw):Raw:=opR a b (a.rat / b.rat)
abbrev yR(a b:Raw):Bool:=ieq (dvE a b) 0
abbrev dvP(a b:Raw):Nat:=pE (dvE a b)
theorem jGn:KC Tryz.prog 80 (fun f=>(yG zbA yR dvR dvP f).run) true:=by
 have e:(fun f=>(yG zbA yR dvR dvP f).run)=pRR fun a b=>bif Nat.beq (val b.ln) 0 then none else some (opR a b (a.rat / b.rat),opE a b (a.rat / b.rat)):=funext fun f=>by
  unfold yG pRR;split
  ·rename_i a b;cases k:Nat.beq (val b.ln) 0 with
   | true=>
    show(bif !(Nat.beq (val b.ln) 0)then _ else _)=match(bif Nat.beq (val b.ln) 0 then none else some (dvR a b,dvE a b))with | some (c,e)=>some (Rs.tup [.r c,.i e]) | none=>none
    rw[k];rfl
   | false=>
    show(bif !(Nat.beq (val b.ln) 0)then _ else _)=match(bif Nat.beq (val b.ln) 0 then none else some (dvR a b,dvE a b))with | some (c,e)=>some (Rs.tup [.r c,.i e]) | none=>none
    rw[k];simp only[jr,ze,zf,DT.run];cases h:yR a b with
    | true=>have j:dvE a b=0:=zV.1 h;rw[j];rfl
    | false=>
     have j:0<dvE a b:=by
      rcases uE (zOp a b (a.rat / b.rat))with g | g
      ·exact g
      ·rw[show yR a b=true from yS g.symm]at h;cases h
     simp only[zf,dvP,qKd j]
  ·rename_i h;split
   ·rename_i a b;exact absurd rfl (h a b)
   ·rfl
 rw[e];exact kDiv
theorem bnn{b:Bool}{x y:Int}(e:0≤x)(f:0≤y):0≤(bif b then x else y):=by cases b<;>assumption
theorem qGf{β:Type}{g:Nat→Unit→Unit⊕Option Int}(f:∀i e,g i ()= .inr (some e)→0≤e)(k i:Nat):0≤eN (fol g (fun _=>none) k i ()):=by
 have:=xG (g:=g) (d:=fun _=>none) (J:=fun _=>True) (R:=fun y=>0≤eN y) (fun _ _ _ _ _=>trivial) (fun i a y _ j=>by
  cases y with
  | none=>exact ki 0
  | some e=>exact f i e j) (fun _ _=>ki 0) k i () trivial
 exact this
theorem jAi(g:List (List Int)):0≤icE g:=by
 have h:0≤eN (c0F g):=qGf (β:=Unit) (fun i e f=>by
  unfold gC0 at f;cases j:ieq (.ofNat (gI g i).length) (.ofNat 0)<;>rw[j]at f
  ·cases k:ilt (.ofNat 32) (.ofNat (gI g i).length)<;>rw[k]at f
   ·cases q:c1F (gI g i) (gI g i)<;>rw[q]at f<;>cases f;decide
   ·cases f;decide
  ·cases f;decide) g.length 0
 unfold icE
 repeat' first | assumption | exact bnn (by decide) (by decide) | apply bnn | decide
theorem zNl(x:Raw):0≤crA x:=by
 have h:=zNi x;unfold crA crE
 repeat' first | assumption | apply bnn | decide
theorem qFo(l:List Nz):0≤cnA l:=by
 have h:0≤eL (cnF crA adA l l):=by
  have:=xG (g:=gCn crA adA l l) (d:= .inl) (J:=fun _=>True) (R:=fun y=>0≤eL y) (fun _ _ _ _ _=>trivial) (fun i a y _ e=>by
   unfold gCn at e;cases f:yK (-100) 100 [(zI l i).1]<;>rw[f]at e
   ·cases e;decide
   ·cases j:(ilt (.ofNat 0) (.ofNat i)&&!ilt (zI l (i-1)).1 (zI l i).1)<;>rw[j]at e
    ·cases k:ieq (crA (rw' (zI l i).2)) 0<;>rw[k]at e
     ·cases e;exact zNl _
     ·cases q:(zI l i).2.1<;>rw[q]at e
      ·cases w:ieq (.ofNat (zI l i).2.2.1.length) (.ofNat 0)<;>rw[w]at e<;>cases e;decide
      ·cases e;decide
    ·cases e;decide) (fun _ _=>ki 0) l.length 0 r0 trivial
  exact this
 unfold cnA cnE
 repeat' first | assumption | apply bnn | decide
theorem qXo(h o t:List Int)(G:List Bd)(P D S:Int)(O U:List Nz)(C st V:Raw):0≤dcA h o t G P D S O U C st V:=by
 have j:=jAi [h,o,t];have k:=qFo O;have q:=qFo U;have w:=zNl C;have y:=zNl st;have z:=zNl V;have A:0≤eN (dvF (dr1 G)):=qGf (β:=Unit) (fun i e f=>by
  unfold gDc at f;cases j:(!ieq (bI (dr1 G) i).1 1&&!ieq (bI (dr1 G) i).1 2)<;>rw[j]at f
  ·cases k:ilt (bI (dr1 G) i).2.2 (bI (dr1 G) i).2.1<;>rw[k]at f
   ·cases q:yK (-100) 100 [(bI (dr1 G) i).2.1,(bI (dr1 G) i).2.2]<;>rw[q]at f<;>cases f;decide
   ·cases f;decide
  ·cases f;decide) _ 0
 unfold dcA dcE
 repeat' first | assumption | apply bnn | decide
theorem jDj(h o t:List Int)(G:List Bd)(P D S:Int)(O U:List Nz)(C st V:Raw)(Z:Int)(F I:List (List Int)):0≤pcA h o t G P D S O U C st V Z F I:=by
 have f:=qXo h o t G P D S O U C st V;have j:0≤eU (p0F (szA h o t G P D S O U C st V) F I (0,true)):=by
  have:=xG (g:=gP0 (szA h o t G P D S O U C st V) F I) (d:= .inl) (J:=fun _=>True) (R:=fun y=>0≤eU y) (fun _ _ _ _ _=>trivial) (fun i a y _ e=>by
   unfold gP0 at e;cases f:ieq (.ofNat (gI I i).length) (szA h o t G P D S O U C st V)<;>rw[f]at e
   ·cases e;decide
   ·cases j:isS (p1F F (gI I i) a)<;>rw[j]at e<;>cases e;decide) (fun _ _=>ki 0) I.length 0 (0,true) trivial
  exact this
 have k:0≤eM (p2F kyF F G):=by
  have:=xG (g:=gP2 kyF F G) (d:= .inl) (J:=fun _=>True) (R:=fun y=>0≤eM y) (fun _ _ _ _ _=>trivial) (fun i a y _ e=>by
   unfold gP2 at e;cases f:ieq (.ofNat (gI F i).length) (.ofNat G.length)<;>rw[f]at e
   ·cases e;decide
   ·cases j:p3F (gI F i)<;>rw[j]at e<;>cases e;decide) (fun _ _=>ki 0) F.length 0 [] trivial
  exact this
 unfold pcA pcE
 repeat' first | assumption | apply bnn | decide
abbrev yT(h o t:List Int)(G:List Bd)(P D S:Int)(O U:List Nz)(C st V:Raw)(Z:Int)(F I:List (List Int)):Bool:=ieq (pcA h o t G P D S O U C st V Z F I) 0
abbrev pPA(h o t:List Int)(G:List Bd)(P D S:Int)(O U:List Nz)(C st V:Raw)(Z:Int)(F I:List (List Int)):Nat:=pE (pcA h o t G P D S O U C st V Z F I)
theorem jDh(h o t:List Int)(G:List Bd)(P D S:Int)(O U:List Nz)(C st V:Raw)(Z:Int)(F I:List (List Int))(e:yT h o t G P D S O U C st V Z F I=false):Int.ofNat (pPA h o t G P D S O U C st V Z F I+1)=pcA h o t G P D S O U C st V Z F I:=by
 refine qKd ?_;rcases uE (jDj h o t G P D S O U C st V Z F I)with g | g
 ·exact g
 ·rw[show yT h o t G P D S O U C st V Z F I=true from yS g.symm]at e;cases e
theorem kPcX:∀j w q,(xQ yT pPA j).run=some (w,q)→∀k,KnP Tryz.prog k 61 j w q:=by
 intro j w q hh k;refine kPc j w q ?_ k;unfold xQ at hh;unfold oPc;split at hh
 ·rename_i h o t G P D S O U y C z H sl J A B E Z F I;obtain⟨K,f⟩:=zT hh;simp only[grd,DT.run,K,ze];simp only[DT.run]at f;cases e:yT h o t G P D S O U ⟨y,C,z⟩ ⟨H,sl,J⟩ ⟨A,B,E⟩ Z F I with
  | true=>
   rw[e]at f;rw[show pcA h o t G P D S O U ⟨y,C,z⟩ ⟨H,sl,J⟩ ⟨A,B,E⟩ Z F I=0 from zV.1 e];exact f
  | false=>
   rw[e]at f;simp only[zf]at f;rw[←jDh h o t G P D S O U ⟨y,C,z⟩ ⟨H,sl,J⟩ ⟨A,B,E⟩ Z F I e];exact f
 ·cases hh
theorem kWgX(m:Nat):∀f q j,(vL m wgA f).run=some (q,j)→∀k,KnP Tryz.prog k 78 f q j:=by
 intro f q j hh k;refine kWg f q j ?_ k;unfold vL at hh;unfold oWg;split at hh
 ·rename_i h o t z A B;obtain⟨w,y⟩:=zT hh;simp only[zd]at w;have e:=zVa (wgA h o t z A B) m 0 (by rw[←zY w.1];omega)
  rw[xt]at e;rw[e]at y;show some _=some _;rw[show icE [h,o,t]=0 from zV.1 w.2];exact y
 ·cases hh
theorem qJw(m:Nat):wC Tryz.prog (odT [(61,odR [tbT] (xQ yT pPA)),(78,odR [.list (.list nT),.list nT] (vL m wgA)),(47,kcT (vH frA) true),(70,odR [.list zL,.list zL] (qH zU qI qX)),(80,kcT (yG zbA yR dvR dvP) true)]):=zS (zS (zS (zS (zS jZ fun e j f h k=>zVh jGn e j f h k) (jI kDot)) fun e j f h k=>zVh kFrT e j f h k) (jI (kWgX m))) (jI kPcX)
theorem eLk0(okP:TF Bool)(pP:TF Nat)(h o t:List Int)(G:List Bd)(P D S:Int)(O U:List Nz)(C st V:Raw)(Z:Int)(F I:List (List Int))(L H W e Y:Int):((qF Tryz.prog (evD Tryz.prog (odT [(61,odR [tbT] (xQ okP pP)),(78,fun _=> .no)]) (loT []) 60) 32 [.ag (tbC h o t G P D S O U C st V Z F I),vi L,vi H,vi W,vi e,vi Y] []).bind qJ).run=gd (Nat.blt F.length 9223372036854775807) (bif okP h o t G P D S O U C st V Z F I then(bif ilt L (.ofNat 1)then some (.tu [.v (Value.slice none 0 0),vn 1],true)else(bif ilt S L then some (.tu [.v (Value.slice none 0 0),vn 1],true)else(bif !(ilt H (i64.wrap (0-100000)))then(bif !(!(ilt 100000 H))then some (.tu [.v (Value.slice none 0 0),vn 1],true)else(bif !(ilt W ((-100)))then(bif !(!(ilt 100 W))then some (.tu [.v (Value.slice none 0 0),vn 1],true)else(bif !(ilt e ((-100)))then(bif !(!(ilt 100 e))then some (.tu [.v (Value.slice none 0 0),vn 1],true)else(bif ilt Y (.ofNat 0)then some (.tu [.v (Value.slice none 0 0),vn 8],true)else gd (!(ilt Y (.ofNat G.length))) (some (.tu [.v (Value.slice none 0 0),vn 8],true))))else some (.tu [.v (Value.slice none 0 0),vn 1],true)))else some (.tu [.v (Value.slice none 0 0),vn 1],true)))else some (.tu [.v (Value.slice none 0 0),vn 1],true))))else some (.tu [.v (Value.slice none 0 0),vn ((pP h o t G P D S O U C st V Z F I)+1)],true)):=by kernel_rfl
abbrev wiN(x e:Int)(E K:Nat):Nat:=bif !ilt x (-e)then(bif !(!ilt e x)then E else K)else E
section
variable (okP:TF Bool)(pP:TF Nat)
def lkC(h o t:List Int)(G:List Bd)(P D S:Int)(O U:List Nz)(C st V:Raw)(Z:Int)(F I:List (List Int))(L H W e Y:Int):Nat:=bif okP h o t G P D S O U C st V Z F I then(bif ilt L (.ofNat 1)then 1 else(bif ilt S L then 1 else wiN H 100000 1 (wiN W 100 1 (wiN e 100 1 (bif ilt Y (.ofNat 0)then 8 else(bif !ilt Y (.ofNat G.length)then 8 else 0))))))else pP h o t G P D S O U C st V Z F I+1
theorem jBk(h o t:List Int)(G:List Bd)(P D S:Int)(O U:List Nz)(C st V:Raw)(Z:Int)(F I:List (List Int))(L H W f Y:Int)(M:F.length<9223372036854775807)(e:Nat.beq (lkC okP pP h o t G P D S O U C st V Z F I L H W f Y) 0=false):((qF Tryz.prog (evD Tryz.prog (odT [(61,odR [tbT] (xQ okP pP)),(78,fun _=> .no)]) (loT []) 60) 32 [.ag (tbC h o t G P D S O U C st V Z F I),vi L,vi H,vi W,vi f,vi Y] []).bind qJ).run=er (lkC okP pP h o t G P D S O U C st V Z F I L H W f Y):=by
 have j:ilt H (i64.wrap (0-100000))=ilt H (-100000):=rfl;rw[eLk0,j];unfold lkC at e ⊢;simp only[gd,zP M,ze];cases k:okP h o t G P D S O U C st V Z F I with
 | false=>rfl
 | true=>
  rw[k]at e;simp only[ze]at e ⊢;cases q:ilt L (.ofNat 1)with
  | true=>rfl
  | false=>
   cases w:ilt S L with
   | true=>rfl
   | false=>
    rw[q,w]at e;simp only[zf,wiN]at e ⊢;cases y:ilt H (-100000)with
    | true=>rfl
    | false=>
     cases z:ilt 100000 H with
     | true=>rfl
     | false=>
      rw[y,z]at e;simp only[jr,qb,ze,zf]at e ⊢;cases A:ilt W (-100)with
      | true=>rfl
      | false=>
       cases B:ilt 100 W with
       | true=>rfl
       | false=>
        rw[A,B]at e;simp only[jr,qb,ze,zf]at e ⊢;cases E:ilt f (-100)with
        | true=>rfl
        | false=>
         cases J:ilt 100 f with
         | true=>rfl
         | false=>
          rw[E,J]at e;simp only[jr,qb,ze,zf]at e ⊢;cases K:ilt Y (.ofNat 0)with
          | true=>rfl
          | false=>
           rw[K]at e;cases ha:ilt Y (.ofNat G.length)with
           | false=>rfl
           | true=>rw[ha]at e;cases e
theorem qIa(h o t:List Int)(G:List Bd)(P D S:Int)(O U:List Nz)(C st V:Raw)(Z:Int)(F I:List (List Int))(L H W j Y:Int)(e:Nat.beq (lkC okP pP h o t G P D S O U C st V Z F I L H W j Y) 0=true):okP h o t G P D S O U C st V Z F I=true∧1≤L∧L≤S∧0≤Y∧Y<(G.length:Int)∧∀(B:List Int→List Int→List Int→Int→Int→Int→List Nz)(fr:Int→Raw)(okD:List Rt→List Rt→Bool)(dR:List Rt→List Rt→Raw)(dP:List Rt→List Rt→Nat)(zb:Raw→Bool)(f:Raw→Raw→Bool)(Q:Raw→Raw→Raw)(N:Raw→Raw→Nat)(m:Nat),F.length<9223372036854775807→scA okP pP B fr okD dR dP zb f Q N m G.length h o t G P D S O U C st V Z F I L H W j Y=gd (Nat.beq (B h o t H W j).length m&&ieq (icE [h,o,t]) 0) (scL fr okD dR dP zb f Q N Z F I L (.ofNat G.length) Y (exL (B h o t H W j) m 0) G.length 0 []):=by
 unfold lkC at e;cases E:okP h o t G P D S O U C st V Z F I with
 | false=>rw[E]at e;cases e
 | true=>
  rw[E]at e;cases k:ilt L (.ofNat 1)with
  | true=>rw[k]at e;cases e
  | false=>
   cases q:ilt S L with
   | true=>rw[k,q]at e;cases e
   | false=>
    rw[k,q]at e;simp only[ze,zf,wiN]at e;cases w:ilt H (-100000)with
    | true=>rw[w]at e;cases e
    | false=>
     cases J:ilt 100000 H with
     | true=>rw[w,J]at e;cases e
     | false=>
      rw[w,J]at e;simp only[jr,qb,ze,zf]at e;cases y:ilt W (-100)with
      | true=>rw[y]at e;cases e
      | false=>
       cases K:ilt 100 W with
       | true=>rw[y,K]at e;cases e
       | false=>
        rw[y,K]at e;simp only[jr,qb,ze,zf]at e;cases z:ilt j (-100)with
        | true=>rw[z]at e;cases e
        | false=>
         cases M:ilt 100 j with
         | true=>rw[z,M]at e;cases e
         | false=>
          rw[z,M]at e;simp only[jr,qb,ze,zf]at e;cases A:ilt Y (.ofNat 0)with
          | true=>rw[A]at e;cases e
          | false=>
           rw[A]at e;cases ha:ilt Y (.ofNat G.length)with
           | false=>rw[ha]at e;cases e
           | true=>
            refine⟨rfl,vF k,vF q,vF A,xV.1 ha,fun B fr okD dR dP zb f Q N m R=>?_⟩;unfold scA;simp only[gd,zP R,ze,E,k,q,wiK,w,J,y,K,z,M,A,ha,jr,qb,zf]
end
theorem qYv(h o t:List Int)(G:List Bd)(P D S:Int)(O U:List Nz)(C st V:Raw)(Z:Int)(F I:List (List Int))(L H W j Y:Int)(y:1≤G.length)(z:G.length≤6):((qF Tryz.prog (evD Tryz.prog (odT [(61,odR [tbT] (xQ yT pPA)),(78,odR [.list (.list nT),.list nT] (vL 1 wgA)),(47,kcT (vH frA) true),(70,odR [.list zL,.list zL] (qH zU qI qX)),(80,kcT (yG zbA yR dvR dvP) true)]) (loT []) 60) 32 [.ag (tbC h o t G P D S O U C st V Z F I),vi L,vi H,vi W,vi j,vi Y] []).bind qJ).run=scA yT pPA wgA frA zU qI qX zbA yR dvR dvP 1 G.length h o t G P D S O U C st V Z F I L H W j Y:=by
 match G,y,z with
 | [a0],_,_=>exact qXx yT pPA wgA frA zU qI qX zbA yR dvR dvP h o t P D S O U C st V Z F I L H W j Y a0
 | [a0,e],_,_=>exact qXy yT pPA wgA frA zU qI qX zbA yR dvR dvP h o t P D S O U C st V Z F I L H W j Y a0 e
 | [a0,e,f],_,_=>exact qXz yT pPA wgA frA zU qI qX zbA yR dvR dvP h o t P D S O U C st V Z F I L H W j Y a0 e f
 | [a0,e,f,k],_,_=>exact qYa yT pPA wgA frA zU qI qX zbA yR dvR dvP h o t P D S O U C st V Z F I L H W j Y a0 e f k
 | [a0,e,f,k,q],_,_=>exact qYb yT pPA wgA frA zU qI qX zbA yR dvR dvP h o t P D S O U C st V Z F I L H W j Y a0 e f k q
 | [a0,e,f,k,q,w],_,_=>exact qYc yT pPA wgA frA zU qI qX zbA yR dvR dvP h o t P D S O U C st V Z F I L H W j Y a0 e f k q w
 | a0::e::f::k::q::w::A::l,_,h=>simp only[z8]at h;omega
theorem qYw(h o t:List Int)(G:List Bd)(P D S:Int)(O U:List Nz)(C st V:Raw)(Z:Int)(F I:List (List Int))(L H W j Y:Int)(y:1≤G.length)(z:G.length≤6):((qF Tryz.prog (evD Tryz.prog (odT [(61,odR [tbT] (xQ yT pPA)),(78,odR [.list (.list nT),.list nT] (vL 2 wgA)),(47,kcT (vH frA) true),(70,odR [.list zL,.list zL] (qH zU qI qX)),(80,kcT (yG zbA yR dvR dvP) true)]) (loT []) 60) 32 [.ag (tbC h o t G P D S O U C st V Z F I),vi L,vi H,vi W,vi j,vi Y] []).bind qJ).run=scA yT pPA wgA frA zU qI qX zbA yR dvR dvP 2 G.length h o t G P D S O U C st V Z F I L H W j Y:=by
 match G,y,z with
 | [a0],_,_=>exact qYd yT pPA wgA frA zU qI qX zbA yR dvR dvP h o t P D S O U C st V Z F I L H W j Y a0
 | [a0,e],_,_=>exact qYe yT pPA wgA frA zU qI qX zbA yR dvR dvP h o t P D S O U C st V Z F I L H W j Y a0 e
 | [a0,e,f],_,_=>exact qYf yT pPA wgA frA zU qI qX zbA yR dvR dvP h o t P D S O U C st V Z F I L H W j Y a0 e f
 | [a0,e,f,k],_,_=>exact qYg yT pPA wgA frA zU qI qX zbA yR dvR dvP h o t P D S O U C st V Z F I L H W j Y a0 e f k
 | [a0,e,f,k,q],_,_=>exact qYh yT pPA wgA frA zU qI qX zbA yR dvR dvP h o t P D S O U C st V Z F I L H W j Y a0 e f k q
 | [a0,e,f,k,q,w],_,_=>exact qYi yT pPA wgA frA zU qI qX zbA yR dvR dvP h o t P D S O U C st V Z F I L H W j Y a0 e f k q w
 | a0::e::f::k::q::w::A::l,_,h=>simp only[z8]at h;omega
theorem qYx(h o t:List Int)(G:List Bd)(P D S:Int)(O U:List Nz)(C st V:Raw)(Z:Int)(F I:List (List Int))(L H W j Y:Int)(y:1≤G.length)(z:G.length≤6):((qF Tryz.prog (evD Tryz.prog (odT [(61,odR [tbT] (xQ yT pPA)),(78,odR [.list (.list nT),.list nT] (vL 4 wgA)),(47,kcT (vH frA) true),(70,odR [.list zL,.list zL] (qH zU qI qX)),(80,kcT (yG zbA yR dvR dvP) true)]) (loT []) 60) 32 [.ag (tbC h o t G P D S O U C st V Z F I),vi L,vi H,vi W,vi j,vi Y] []).bind qJ).run=scA yT pPA wgA frA zU qI qX zbA yR dvR dvP 4 G.length h o t G P D S O U C st V Z F I L H W j Y:=by
 match G,y,z with
 | [a0],_,_=>exact qYj yT pPA wgA frA zU qI qX zbA yR dvR dvP h o t P D S O U C st V Z F I L H W j Y a0
 | [a0,e],_,_=>exact qYk yT pPA wgA frA zU qI qX zbA yR dvR dvP h o t P D S O U C st V Z F I L H W j Y a0 e
 | [a0,e,f],_,_=>exact qYl yT pPA wgA frA zU qI qX zbA yR dvR dvP h o t P D S O U C st V Z F I L H W j Y a0 e f
 | [a0,e,f,k],_,_=>exact qYm yT pPA wgA frA zU qI qX zbA yR dvR dvP h o t P D S O U C st V Z F I L H W j Y a0 e f k
 | [a0,e,f,k,q],_,_=>exact qYn yT pPA wgA frA zU qI qX zbA yR dvR dvP h o t P D S O U C st V Z F I L H W j Y a0 e f k q
 | [a0,e,f,k,q,w],_,_=>exact qYo yT pPA wgA frA zU qI qX zbA yR dvR dvP h o t P D S O U C st V Z F I L H W j Y a0 e f k q w
 | a0::e::f::k::q::w::A::l,_,h=>simp only[z8]at h;omega
theorem qYy(h o t:List Int)(G:List Bd)(P D S:Int)(O U:List Nz)(C st V:Raw)(Z:Int)(F I:List (List Int))(L H W j Y:Int)(y:1≤G.length)(z:G.length≤6):((qF Tryz.prog (evD Tryz.prog (odT [(61,odR [tbT] (xQ yT pPA)),(78,odR [.list (.list nT),.list nT] (vL 8 wgA)),(47,kcT (vH frA) true),(70,odR [.list zL,.list zL] (qH zU qI qX)),(80,kcT (yG zbA yR dvR dvP) true)]) (loT []) 60) 32 [.ag (tbC h o t G P D S O U C st V Z F I),vi L,vi H,vi W,vi j,vi Y] []).bind qJ).run=scA yT pPA wgA frA zU qI qX zbA yR dvR dvP 8 G.length h o t G P D S O U C st V Z F I L H W j Y:=by
 match G,y,z with
 | [a0],_,_=>exact qYp yT pPA wgA frA zU qI qX zbA yR dvR dvP h o t P D S O U C st V Z F I L H W j Y a0
 | [a0,e],_,_=>exact qYq yT pPA wgA frA zU qI qX zbA yR dvR dvP h o t P D S O U C st V Z F I L H W j Y a0 e
 | [a0,e,f],_,_=>exact qYr yT pPA wgA frA zU qI qX zbA yR dvR dvP h o t P D S O U C st V Z F I L H W j Y a0 e f
 | [a0,e,f,k],_,_=>exact qYs yT pPA wgA frA zU qI qX zbA yR dvR dvP h o t P D S O U C st V Z F I L H W j Y a0 e f k
 | [a0,e,f,k,q],_,_=>exact qYt yT pPA wgA frA zU qI qX zbA yR dvR dvP h o t P D S O U C st V Z F I L H W j Y a0 e f k q
 | [a0,e,f,k,q,w],_,_=>exact qYu yT pPA wgA frA zU qI qX zbA yR dvR dvP h o t P D S O U C st V Z F I L H W j Y a0 e f k q w
 | a0::e::f::k::q::w::A::l,_,h=>simp only[z8]at h;omega
abbrev skA(Z:Int)(F I:List (List Int))(L f Y:Int)(j:List Nz)(k b:Nat)(e:List Raw):List Raw⊕Nat:=skL frA zU qI qX yR dvR dvP Z F I L f Y j k b e
abbrev lkE(h o t:List Int)(G:List Bd)(P D S:Int)(O U:List Nz)(C st V:Raw)(Z:Int)(F I:List (List Int))(L H W e Y:Int):Nat:=lkC yT pPA h o t G P D S O U C st V Z F I L H W e Y
def lkR(h o t:List Int)(G:List Bd)(P D S:Int)(O U:List Nz)(C st V:Raw)(Z:Int)(F I:List (List Int))(L H W e Y:Int):List Raw⊕Nat:=bif Nat.beq (lkE h o t G P D S O U C st V Z F I L H W e Y) 0 then skA Z F I L (.ofNat G.length) Y (wgA h o t H W e) G.length 0 []else .inr (lkE h o t G P D S O U C st V Z F I L H W e Y)
def isR:List Raw⊕Nat→Bool
 | .inl _=>true
 | .inr _=>false
def lR:List Raw⊕Nat→List Rt
 | .inl l=>l.map toT
 | .inr _=>[]
def eR:List Raw⊕Nat→Nat
 | .inl _=>0
 | .inr e=>e
abbrev jH(h o t:List Int)(G:List Bd)(P D S:Int)(O U:List Nz)(C st V:Raw)(Z:Int)(F I:List (List Int))(L H W e Y:Int):Bool:=isR (lkR h o t G P D S O U C st V Z F I L H W e Y)
abbrev lkL(h o t:List Int)(G:List Bd)(P D S:Int)(O U:List Nz)(C st V:Raw)(Z:Int)(F I:List (List Int))(L H W e Y:Int):List Rt:=lR (lkR h o t G P D S O U C st V Z F I L H W e Y)
abbrev lkP(h o t:List Int)(G:List Bd)(P D S:Int)(O U:List Nz)(C st V:Raw)(Z:Int)(F I:List (List Int))(L H W e Y:Int):Nat:=eR (lkR h o t G P D S O U C st V Z F I L H W e Y)-1
def oLk(okL:LF Bool)(lL:LF (List Rt))(lP:LF Nat):List T→DT (T×Bool)
 | [.ag [.ls .a (.int .i64) h,.ls .a (.int .i64) o,.ls .a (.int .i64) t,.ls .a (.prod (.int .u8) (.prod (.int .i64) (.int .i64))) G,.v (.int .i64 P),.v (.int .i64 D),.v (.int .i64 S),.ls .a (.prod (.int .i64) zL) O,.ls .a (.prod (.int .i64) zL) U,.v (.bool e),.ls .a .lim C,.ls .a .lim f,.v (.bool w),.ls .a .lim sl,.ls .a .lim y,.v (.bool j),.ls .a .lim k,.ls .a .lim q,.v (.int .i64 Z),.ls .a (.list (.int .i64)) F,.ls .a (.list (.int .i64)) I],.v (.int .i64 L),.v (.int .i64 H),.v (.int .i64 W),.v (.int .i64 z),.v (.int .i64 Y)]=>grd (Nat.blt F.length 9223372036854775807) (.ite (okL h o t G P D S O U ⟨e,C,f⟩ ⟨w,sl,y⟩ ⟨j,k,q⟩ Z F I L H W z Y) (.ret (.tu [.ls .a zL (lL h o t G P D S O U ⟨e,C,f⟩ ⟨w,sl,y⟩ ⟨j,k,q⟩ Z F I L H W z Y),.v (.int .i64 (.ofNat 0))],true)) (.ret (.tu [.ls .a zL [],.v (.int .i64 (.ofNat (lP h o t G P D S O U ⟨e,C,f⟩ ⟨w,sl,y⟩ ⟨j,k,q⟩ Z F I L H W z Y+1)))],true)))
 | _=> .no
theorem qGq:∀l:List Raw,flR l=yA .a zL (l.map toT)
 | []=>rfl
 | x::l=>by
  show([.v (.bool x.neg),.ls .a .lim x.ln,.ls .a .lim x.ld]:List T)++flR l=zZ .a zL (toT x)++yA .a zL (l.map toT);rw[qGq l];rfl
theorem zUk(k:Nat):∀l:List Raw,(flR l).all (clean (k+1))=true
 | []=>rfl
 | x::l=>by
  show(([.v (.bool x.neg),.ls .a .lim x.ln,.ls .a .lim x.ld]:List T)++flR l).all (clean (k+1))=true;rw[List.all_append,zUk k l];rfl
theorem qAc{okD:List Rt→List Rt→Bool}{dR:List Rt→List Rt→Raw}{dP:List Rt→List Rt→Nat}{f:Raw→Raw→Bool}{A:Raw→Raw→Raw}{z:Raw→Raw→Nat}{fr:Int→Raw}{Z:Int}{F I:List (List Int)}{L w Y:Int}{j:List Nz}:∀(k b:Nat)(q:List Raw){e:Nat},skL fr okD dR dP f A z Z F I L w Y j k b q= .inr e→1≤e
 | 0,_,_,_,h=>by cases h
 | k+1,b,q,e,h=>by
  simp only[skL]at h;cases H:sk1 fr okD dR dP f A z Z F I L w Y j b with
  | inl x=>rw[H]at h;exact qAc k (b+1) _ h
  | inr y=>
   rw[H]at h;cases h;unfold sk1 at H;cases B:okD (scW j) (scV fr F I L w Y b j)<;>rw[B]at H
   ·cases H;omega
   ·cases E:f (dR (scW j) (scV fr F I L w Y b j)) (fr Z)<;>rw[E]at H<;>cases H;omega
theorem jCm:wC Tryz.prog (odT [(61,odR [tbT] (xQ yT pPA)),(78,fun _=> .no)]):=zS (zS jZ fun e j f h k=>by cases h) (jI kPcX)
theorem qSl{Z:Int}(h:1≤Z):zbA (frA Z)=false:=by
 have e:val (Raw.of (Z:Rat)).ln=Z.natAbs:=by
  show val (kL (Z:Rat).num.natAbs)=_;rw[vY,Rat.num_intCast]
 unfold zbA;rw[e];exact qEx (by omega)
theorem qVj{B:Bm}{r:Rd}{l:List Raw}{t:T}{v:Value}(hv:Rep B r (.tu [.sl (flR l) l.length,t]) v):Rep B r (.tu [.ls .a zL (l.map toT),t]) v:=by
 obtain⟨vs,rfl,e⟩:=hv.tuI;match vs,e with
 | [a,b],⟨f,j,_⟩=>exact Rep.mkTu (vs:=[a,b]) ⟨qAd (A:=zL) (by kernel_rfl) (by rw[←qGq,xi];exact f),j,trivial⟩
theorem zOc(h o t:List Int)(G:List Bd)(P D S:Int)(O U:List Nz)(C st V:Raw)(Z:Int)(F I:List (List Int))(L H W f Y:Int)(k m:Nat)(N:F.length<9223372036854775807)(hT:Tab h o t G S Z F I)(J:Nat.beq (lkE h o t G P D S O U C st V Z F I L H W f Y) 0=true)(hm:(wgA h o t H W f).length=m)(M:((qF Tryz.prog (evD Tryz.prog (odT [(61,odR [tbT] (xQ yT pPA)),(78,odR [.list (.list nT),.list nT] (vL m wgA)),(47,kcT (vH frA) true),(70,odR [.list zL,.list zL] (qH zU qI qX)),(80,kcT (yG zbA yR dvR dvP) true)]) (loT []) 60) 32 [.ag (tbC h o t G P D S O U C st V Z F I),vi L,vi H,vi W,vi f,vi Y] []).bind qJ).run=scA yT pPA wgA frA zU qI qX zbA yR dvR dvP m G.length h o t G P D S O U C st V Z F I L H W f Y):KnP Tryz.prog k 32 [.ag (tbC h o t G P D S O U C st V Z F I),vi L,vi H,vi W,vi f,vi Y] (bif jH h o t G P D S O U C st V Z F I L H W f Y then .tu [.ls .a zL (lkL h o t G P D S O U C st V Z F I L H W f Y),vn 0]else .tu [.ls .a zL [],vn (lkP h o t G P D S O U C st V Z F I L H W f Y+1)]) true:=by
 obtain⟨_,R,X,p1,p2,sA⟩:=qIa yT pPA h o t G P D S O U C st V Z F I L H W f Y J;have q:=M.trans (sA wgA frA zU qI qX zbA yR dvR dvP m N);have E:=hT.mod.grid;have K:exL (wgA h o t H W f) m 0=wgA h o t H W f:=by rw[zVa _ m 0 (by omega)];rfl
 have Q:inV (h.length*o.length*t.length) (wgA h o t H W f):=by
  unfold wgA wgR;rw[yS E];exact jHs ofA muA frA E
 rw[K,qLa (h:=h) (o:=o) (t:=t) (S:=S) frA zU qI qX zbA yR dvR dvP hT R X p1 p2 Q (qSl hT.sc1) G.length 0 [] (by omega),yS E,hm,jL]at q
 simp only[gd,q9,ze]at q;have j:lkR h o t G P D S O U C st V Z F I L H W f Y=skA Z F I L (.ofNat G.length) Y (wgA h o t H W f) G.length 0 []:=by unfold lkR;rw[J];rfl
 cases w:skA Z F I L (.ofNat G.length) Y (wgA h o t H W f) G.length 0 []with
 | inl l=>
  rw[show skL frA zU qI qX yR dvR dvP Z F I L (.ofNat G.length) Y (wgA h o t H W f) G.length 0 []= .inl l from w]at q;have y:jH h o t G P D S O U C st V Z F I L H W f Y=true:=by unfold jH;rw[j,w];rfl
  have z:lkL h o t G P D S O U C st V Z F I L H W f Y=l.map toT:=by unfold lkL;rw[j,w];rfl
  rw[y,z];have A:(([.ag (tbC h o t G P D S O U C st V Z F I),vi L,vi H,vi W,vi f,vi Y]:List T).all (clean 12)&&clean 12 (.tu [.sl (flR l) l.length,vn 0]))=true:=by
   show(true&&((flR l).all (clean 10)&&true))=true;rw[zUk 9];rfl
  exact(yN (cz:=[.ag (tbC h o t G P D S O U C st V Z F I),vi L,vi H,vi W,vi f,vi Y]) yL (qJw m) qA q A k).res fun B r v hv=>qVj hv
 | inr e=>
  rw[show skL frA zU qI qX yR dvR dvP Z F I L (.ofNat G.length) Y (wgA h o t H W f) G.length 0 []= .inr e from w]at q;have h1:=qAc G.length 0 [] w;have y:jH h o t G P D S O U C st V Z F I L H W f Y=false:=by unfold jH;rw[j,w];rfl
  have z:lkP h o t G P D S O U C st V Z F I L H W f Y+1=e:=by unfold lkP;rw[j,w];show e-1+1=e;omega
  rw[y,z];exact(yN (cz:=[.ag (tbC h o t G P D S O U C st V Z F I),vi L,vi H,vi W,vi f,vi Y]) yL (qJw m) qA q rfl k).res fun B r v hv=>zJf hv
theorem zPt{e:Int→Int→Raw}{mu:Raw→Raw→Raw}{c:List Int}{x:Int}:∀l:List Nz,(wF e mu c x l).length=bif zGx c x then l.length else 2*l.length
 | []=>by cases zGx c x<;>rfl
 | y::l=>by
  show(w1 e mu c x y++wF e mu c x l).length=_;rw[qk,zPt l];unfold w1;cases zGx c x with
  | true=>simp only[ze,z8,j9];omega
  | false=>simp only[zf,z8,j9];omega
theorem jFl{h o t:List Int}{x0 x1 x2:Int}(j:icE [h,o,t]=0):(wgA h o t x0 x1 x2).length=1∨(wgA h o t x0 x1 x2).length=2∨(wgA h o t x0 x1 x2).length=4∨(wgA h o t x0 x1 x2).length=8:=by
 have e:wgA h o t x0 x1 x2=wgF ofA muA frA h o t x0 x1 x2:=by unfold wgA wgR;rw[yS j];rfl
 rw[e];unfold wgF;rw[zPt,zPt,zPt];have f:[((0:Int),toT (frA 1))].length=1:=rfl;rw[f];cases zGx h x0<;>cases zGx o x1<;>cases zGx t x2<;>simp
theorem kLk:∀T tv nw,(oLk jH lkL lkP T).run=some (tv,nw)→∀k,KnP Tryz.prog k 32 T tv nw:=by
 intro T tv nw hh k;unfold oLk at hh;split at hh
 ·rename_i h o t G P D S O U f C j A sl E w y z Z F I L H W J Y;obtain⟨h1,X⟩:=zT hh;have N:=jV h1;have M:KnP Tryz.prog k 32 [.ag (tbC h o t G P D S O U ⟨f,C,j⟩ ⟨A,sl,E⟩ ⟨w,y,z⟩ Z F I),vi L,vi H,vi W,vi J,vi Y] (bif jH h o t G P D S O U ⟨f,C,j⟩ ⟨A,sl,E⟩ ⟨w,y,z⟩ Z F I L H W J Y then .tu [.ls .a zL (lkL h o t G P D S O U ⟨f,C,j⟩ ⟨A,sl,E⟩ ⟨w,y,z⟩ Z F I L H W J Y),vn 0]else .tu [.ls .a zL [],vn (lkP h o t G P D S O U ⟨f,C,j⟩ ⟨A,sl,E⟩ ⟨w,y,z⟩ Z F I L H W J Y+1)]) true:=by
   cases K:Nat.beq (lkE h o t G P D S O U ⟨f,C,j⟩ ⟨A,sl,E⟩ ⟨w,y,z⟩ Z F I L H W J Y) 0 with
   | false=>
    have q:=jBk yT pPA h o t G P D S O U ⟨f,C,j⟩ ⟨A,sl,E⟩ ⟨w,y,z⟩ Z F I L H W J Y N K;have e:lkR h o t G P D S O U ⟨f,C,j⟩ ⟨A,sl,E⟩ ⟨w,y,z⟩ Z F I L H W J Y= .inr (lkE h o t G P D S O U ⟨f,C,j⟩ ⟨A,sl,E⟩ ⟨w,y,z⟩ Z F I L H W J Y):=by unfold lkR;rw[K];rfl
    have e2:jH h o t G P D S O U ⟨f,C,j⟩ ⟨A,sl,E⟩ ⟨w,y,z⟩ Z F I L H W J Y=false:=by unfold jH;rw[e];rfl
    have h0:lkE h o t G P D S O U ⟨f,C,j⟩ ⟨A,sl,E⟩ ⟨w,y,z⟩ Z F I L H W J Y≠0:=fun h=>by rw[h]at K;cases K
    have e3:lkP h o t G P D S O U ⟨f,C,j⟩ ⟨A,sl,E⟩ ⟨w,y,z⟩ Z F I L H W J Y+1=lkE h o t G P D S O U ⟨f,C,j⟩ ⟨A,sl,E⟩ ⟨w,y,z⟩ Z F I L H W J Y:=by unfold lkP;rw[e];exact yj (da.2 h0)
    rw[e2,e3];exact(yN (cz:=[.ag (tbC h o t G P D S O U ⟨f,C,j⟩ ⟨A,sl,E⟩ ⟨w,y,z⟩ Z F I),vi L,vi H,vi W,vi J,vi Y]) yL jCm qA q rfl k).res fun B r v hv=>zJf hv
   | true=>
    have ho:=(qIa yT pPA h o t G P D S O U ⟨f,C,j⟩ ⟨A,sl,E⟩ ⟨w,y,z⟩ Z F I L H W J Y K).1;have hT:Tab h o t G S Z F I:=qLp kyF h o t G P D S O U ⟨f,C,j⟩ ⟨A,sl,E⟩ ⟨w,y,z⟩ Z F I (zV.1 ho);have Q:=hT.mod.av1;have R:=hT.mod.av6;rcases jFl (x0:=H) (x1:=W) (x2:=J) hT.mod.grid with hm | hm | hm | hm
    ·exact zOc h o t G P D S O U ⟨f,C,j⟩ ⟨A,sl,E⟩ ⟨w,y,z⟩ Z F I L H W J Y k 1 N hT K hm (qYv h o t G P D S O U ⟨f,C,j⟩ ⟨A,sl,E⟩ ⟨w,y,z⟩ Z F I L H W J Y Q R)
    ·exact zOc h o t G P D S O U ⟨f,C,j⟩ ⟨A,sl,E⟩ ⟨w,y,z⟩ Z F I L H W J Y k 2 N hT K hm (qYw h o t G P D S O U ⟨f,C,j⟩ ⟨A,sl,E⟩ ⟨w,y,z⟩ Z F I L H W J Y Q R)
    ·exact zOc h o t G P D S O U ⟨f,C,j⟩ ⟨A,sl,E⟩ ⟨w,y,z⟩ Z F I L H W J Y k 4 N hT K hm (qYx h o t G P D S O U ⟨f,C,j⟩ ⟨A,sl,E⟩ ⟨w,y,z⟩ Z F I L H W J Y Q R)
    ·exact zOc h o t G P D S O U ⟨f,C,j⟩ ⟨A,sl,E⟩ ⟨w,y,z⟩ Z F I L H W J Y k 8 N hT K hm (qYy h o t G P D S O U ⟨f,C,j⟩ ⟨A,sl,E⟩ ⟨w,y,z⟩ Z F I L H W J Y Q R)
  simp only[DT.run]at X;cases e:jH h o t G P D S O U ⟨f,C,j⟩ ⟨A,sl,E⟩ ⟨w,y,z⟩ Z F I L H W J Y<;>rw[e]at X M<;>cases X<;>exact M
 ·cases hh
def exR(l:List Rt):Nat→Nat→List Rt
 | 0,_=>[]
 | m+1,i=>rI l i::exR l m (i+1)
def tK(n:Nat)(okL:LF Bool)(lL:LF (List Rt))(lP:LF Nat):List T→DT (T×Bool)
 | [.ag [.ls .a (.int .i64) h,.ls .a (.int .i64) o,.ls .a (.int .i64) t,.ls .a (.prod (.int .u8) (.prod (.int .i64) (.int .i64))) G,.v (.int .i64 P),.v (.int .i64 D),.v (.int .i64 S),.ls .a (.prod (.int .i64) zL) O,.ls .a (.prod (.int .i64) zL) U,.v (.bool e),.ls .a .lim C,.ls .a .lim f,.v (.bool w),.ls .a .lim sl,.ls .a .lim y,.v (.bool j),.ls .a .lim k,.ls .a .lim q,.v (.int .i64 Z),.ls .a (.list (.int .i64)) F,.ls .a (.list (.int .i64)) I],.v (.int .i64 L),.v (.int .i64 H),.v (.int .i64 W),.v (.int .i64 z),.v (.int .i64 Y)]=>grd (Nat.blt F.length 9223372036854775807) (.ite (okL h o t G P D S O U ⟨e,C,f⟩ ⟨w,sl,y⟩ ⟨j,k,q⟩ Z F I L H W z Y) (grd (Nat.beq G.length n) (.ret (.tu [.ls .a zL (exR (lL h o t G P D S O U ⟨e,C,f⟩ ⟨w,sl,y⟩ ⟨j,k,q⟩ Z F I L H W z Y) n 0),.v (.int .i64 (.ofNat 0))],true))) (.ret (.tu [.ls .a zL [],.v (.int .i64 (.ofNat (lP h o t G P D S O U ⟨e,C,f⟩ ⟨w,sl,y⟩ ⟨j,k,q⟩ Z F I L H W z Y+1)))],true)))
 | _=> .no
theorem qGk:∀(l:List Rt)(m i:Nat),i+m=l.length→exR l m i=l.drop i
 | l,0,i,h=>by
  obtain rfl:i=l.length:=by omega
  rw[uV];rfl
 | l,m+1,i,h=>by
  have f:i<l.length:=by omega
  have e:rI l i=l[i]:=by rw[rI,qU];simp[f]
  rw[ji f,←e];show rI l i::exR l m (i+1)=_;rw[qGk l m (i+1) (by omega)]
theorem qAb{okD:List Rt→List Rt→Bool}{dR:List Rt→List Rt→Raw}{dP:List Rt→List Rt→Nat}{f:Raw→Raw→Bool}{w:Raw→Raw→Raw}{q:Raw→Raw→Nat}{fr:Int→Raw}{Z:Int}{F I:List (List Int)}{L j Y:Int}{z:List Nz}:∀(k b:Nat)(e:List Raw){l:List Raw},skL fr okD dR dP f w q Z F I L j Y z k b e= .inl l→l.length=e.length+k
 | 0,_,_,_,h=>by cases h;rw[xg];rfl
 | k+1,b,e,l,h=>by
  simp only[skL]at h;cases H:sk1 fr okD dR dP f w q Z F I L j Y z b with
  | inl x=>rw[H]at h;have:=qAb k (b+1) _ h;rw[z8]at this;omega
  | inr y=>rw[H]at h;cases h
theorem zYq(h o t:List Int)(G:List Bd)(P D S:Int)(O U:List Nz)(C st V:Raw)(Z:Int)(F I:List (List Int))(L H W f Y:Int)(j:jH h o t G P D S O U C st V Z F I L H W f Y=true):(lkL h o t G P D S O U C st V Z F I L H W f Y).length=G.length:=by
 unfold jH at j;unfold lkL;cases e:lkR h o t G P D S O U C st V Z F I L H W f Y with
 | inr q=>rw[e]at j;cases j
 | inl l=>
  show(l.map toT).length=_;rw[xi];unfold lkR at e;cases k:Nat.beq (lkE h o t G P D S O U C st V Z F I L H W f Y) 0 with
  | false=>rw[k]at e;cases e
  | true=>rw[k]at e;have:=qAb G.length 0 [] e;rw[this];exact qc _
theorem kLkX(n:Nat):∀w K y,(tK n jH lkL lkP w).run=some (K,y)→∀k,KnP Tryz.prog k 32 w K y:=by
 intro w K y hh k;refine kLk w K y ?_ k;unfold tK at hh;unfold oLk;split at hh
 ·rename_i h o t G P D S O U j C q E sl J z A B Z F I L H W M Y;obtain⟨Q,f⟩:=zT hh;simp only[grd,DT.run,Q,ze];simp only[DT.run]at f;cases e:jH h o t G P D S O U ⟨j,C,q⟩ ⟨E,sl,J⟩ ⟨z,A,B⟩ Z F I L H W M Y with
  | true=>
   rw[e]at f;simp only[ze]at f ⊢;obtain⟨g1,g2⟩:=zT f;have N:exR (lkL h o t G P D S O U ⟨j,C,q⟩ ⟨E,sl,J⟩ ⟨z,A,B⟩ Z F I L H W M Y) n 0=lkL h o t G P D S O U ⟨j,C,q⟩ ⟨E,sl,J⟩ ⟨z,A,B⟩ Z F I L H W M Y:=by
    have:=zYq h o t G P D S O U ⟨j,C,q⟩ ⟨E,sl,J⟩ ⟨z,A,B⟩ Z F I L H W M Y e;rw[qGk _ n 0 (by rw[this,qc];exact(zY g1).symm),xt]
   rw[N]at g2;exact g2
  | false=>rw[e]at f;exact f
 ·cases hh
abbrev xW(l:List Wt)(i:Nat):Rt:=(wA l i).2
def apG{α:Type}(l:List Rt)(K:Option α):Option α:=gd (Nat.ble (l.length+2) 4021071095712) (gd (Nat.beq (l.length+1) (l.length+1)) K)
def beG{α:Type}(n:Nat)(l:List Rt)(K:Option α):Option α:=gd (Nat.beq (l.length+n) (l.length+n)) K
theorem qWp{α:Type}{l:List Rt}{K:Option α}(h:l.length≤100000):apG l K=K:=by
 unfold apG;rw[yJ (show l.length+2≤4021071095712 by omega),jL];rfl
theorem zUi{α:Type}{n:Nat}{l:List Rt}{K:Option α}:beG n l K=K:=by
 unfold beG;rw[jL];rfl
def hdF(f:Nat→Rt)(e:Rt):Nat→Rt
 | 0=>e
 | j+1=>f (j+1)
def tlF(f:Nat→Rt)(e:Rt):Nat→List Rt
 | 0=>[]
 | j+1=>hdF f e j::tlF f e j
abbrev hT(f:Nat→Rt)(e:Rt)(m:Nat):List Rt:=hdF f e m::tlF f e m
theorem zGi(f:Nat→Rt)(e:Rt):∀j,(tlF f e j).length=j
 | 0=>rfl
 | j+1=>by show(hdF f e j::tlF f e j).length=_;rw[z8,zGi f e j]
section
variable (okL:LF Bool)(lL:LF (List Rt))(lP:LF Nat)
abbrev ptO(h o t:List Int)(G:List Bd)(P D S:Int)(O U:List Nz)(C st V:Raw)(Z:Int)(F I:List (List Int))(L Y:Int)(l:List Wt)(i:Nat):Bool:=okL h o t G P D S O U C st V Z F I L (wA l i).1.1 (wA l i).1.2.1 (wA l i).1.2.2 Y
abbrev ptL(h o t:List Int)(G:List Bd)(P D S:Int)(O U:List Nz)(C st V:Raw)(Z:Int)(F I:List (List Int))(L Y:Int)(l:List Wt)(i:Nat):List Rt:=lL h o t G P D S O U C st V Z F I L (wA l i).1.1 (wA l i).1.2.1 (wA l i).1.2.2 Y
abbrev ptP(h o t:List Int)(G:List Bd)(P D S:Int)(O U:List Nz)(C st V:Raw)(Z:Int)(F I:List (List Int))(L Y:Int)(l:List Wt)(i:Nat):Nat:=lP h o t G P D S O U C st V Z F I L (wA l i).1.1 (wA l i).1.2.1 (wA l i).1.2.2 Y
abbrev aL(h o t:List Int)(G:List Bd)(P D S:Int)(O U:List Nz)(C st V:Raw)(Z:Int)(F I:List (List Int))(L Y:Int)(l:List Wt)(b i:Nat):Rt:=rI (ptL lL h o t G P D S O U C st V Z F I L Y l i) b
def gEx(h o t:List Int)(G:List Bd)(P D S:Int)(O U:List Nz)(C st V:Raw)(Z:Int)(F I:List (List Int))(L Y:Int)(l:List Wt)(j:Nat)(_:Unit):Unit⊕Option Nat:=bif ptO okL h o t G P D S O U C st V Z F I L Y l (j+1)then .inl ()else .inr (some (ptP lP h o t G P D S O U C st V Z F I L Y l (j+1)+1))
def xpF(h o t:List Int)(G:List Bd)(P D S:Int)(O U:List Nz)(C st V:Raw)(Z:Int)(F I:List (List Int))(L Y:Int)(l:List Wt):Option Nat:=fol (gEx okL lP h o t G P D S O U C st V Z F I L Y l) (fun _=>none) (l.length-1) 0 ()
end
def isO:Option Nat→Bool
 | none=>true
 | some _=>false
def eO:Option Nat→Nat
 | none=>0
 | some e=>e
abbrev zRw:T:= .v (.slice none 0 0)
abbrev Cl:=Rt×List Rt
def qNb{α:Type}:List Cl→Option α→Option α
 | [],K=>K
 | c::e,K=>apG c.2 (qNb e K)
def qEv{α:Type}(n:Nat):List Cl→Option α→Option α
 | [],K=>K
 | c::e,K=>beG n c.2 (qEv n e K)
theorem zNd{α:Type}{n:Nat}{K:Option α}:∀{e:List Cl},qEv n e K=K
 | []=>rfl
 | c::e=>by show beG n c.2 (qEv n e K)=K;rw[zNd,zUi]
theorem zXg{α:Type}{K:Option α}:∀{e:List Cl},(∀c∈e,c.2.length≤100000)→qNb e K=K
 | [],_=>rfl
 | c::e,h=>by show apG c.2 (qNb e K)=K;rw[zXg fun d hd=>h d (zu _ hd),qWp (h c zq)]
def rwC:List Cl→List T
 | []=>[]
 | c::e=> .ls .a zL (c.1::c.2)::rwC e
def iEx(L Y:Int)(l:List Wt)(n i:Nat)(w:Cl)(e:List Cl)(h o t:List Int)(G:List Bd)(P D S:Int)(O U:List Nz)(C st V:Raw)(Z:Int)(F I:List (List Int)):Hs:=⟨[vi L,vi Y,zRw,.ls .a wT l,vn n,vn i],rwC (w::e),[tbC h o t G P D S O U C st V Z F I,[],[],[],[]]⟩
section
variable (okL:LF Bool)(lL:LF (List Rt))(lP:LF Nat)
def psC(h o t:List Int)(G:List Bd)(P D S:Int)(O U:List Nz)(C st V:Raw)(Z:Int)(F I:List (List Int))(L Y:Int)(l:List Wt)(i:Nat):Nat→List Cl→List Cl
 | _,[]=>[]
 | b,c::e=>(aL lL h o t G P D S O U C st V Z F I L Y l b i,c.1::c.2)::psC h o t G P D S O U C st V Z F I L Y l i (b+1) e
def dV(k:Nat)(h o t:List Int)(G:List Bd)(P D S:Int)(O U:List Nz)(C st V:Raw)(Z:Int)(F I:List (List Int))(L Y:Int)(l:List Wt)(n i:Nat)(w:Cl)(e:List Cl):Option (Hs⊕(Ex×Hs)):=bif ilt (.ofNat i) (.ofNat n)then gd (Nat.blt i l.length) (gd (Nat.blt F.length 9223372036854775807) (bif ptO okL h o t G P D S O U C st V Z F I L Y l i then gd (Nat.beq G.length k) (qNb (w::e) (gd (inW (.ofNat (i+1))) (qEv 2 (w::e) (some (.inl (iEx L Y l n (i+1) (xW l i,w.1::w.2) (psC lL h o t G P D S O U C st V Z F I L Y l i 0 e) h o t G P D S O U C st V Z F I))))))else some (.inr (.r,⟨[zRw,vn (ptP lP h o t G P D S O U C st V Z F I L Y l i+1)],[],[[],[],[],[],[]]⟩))))else qEv 1 (w::e) (some (.inr (.x 0,⟨[zRw],rwC (w::e),[[],[],[],[],[]]⟩)))
def coF(h o t:List Int)(G:List Bd)(P D S:Int)(O U:List Nz)(C st V:Raw)(Z:Int)(F I:List (List Int))(L Y:Int)(l:List Wt)(j:Nat):Nat→List Rt→List Cl
 | _,[]=>[]
 | b,c::e=>(hdF (aL lL h o t G P D S O U C st V Z F I L Y l b) c j,tlF (aL lL h o t G P D S O U C st V Z F I L Y l b) c j)::coF h o t G P D S O U C st V Z F I L Y l j (b+1) e
theorem qTv(h o t:List Int)(G:List Bd)(P D S:Int)(O U:List Nz)(C st V:Raw)(Z:Int)(F I:List (List Int))(L Y:Int)(l:List Wt)(j:Nat):∀(b:Nat)(e:List Rt),psC lL h o t G P D S O U C st V Z F I L Y l (j+1) b (coF lL h o t G P D S O U C st V Z F I L Y l j b e)=coF lL h o t G P D S O U C st V Z F I L Y l (j+1) b e
 | _,[]=>rfl
 | b,c::e=>by
  show _::psC lL h o t G P D S O U C st V Z F I L Y l (j+1) (b+1) (coF lL h o t G P D S O U C st V Z F I L Y l j (b+1) e)=_;rw[qTv h o t G P D S O U C st V Z F I L Y l j (b+1) e];rfl
theorem zUq(h o t:List Int)(G:List Bd)(P D S:Int)(O U:List Nz)(C st V:Raw)(Z:Int)(F I:List (List Int))(L Y:Int)(l:List Wt)(j:Nat):∀(b:Nat)(e:List Rt),(coF lL h o t G P D S O U C st V Z F I L Y l j b e).length=e.length∧∀c∈coF lL h o t G P D S O U C st V Z F I L Y l j b e,c.2.length=j
 | _,[]=>⟨rfl,fun c q=>(by cases q)⟩
 | b,c::e=>by
  obtain⟨f,k⟩:=zUq h o t G P D S O U C st V Z F I L Y l j (b+1) e;refine⟨jh (·+1) f,fun d hd=>?_⟩;rcases qS.1 hd with rfl | hd
  ·exact zGi _ _ j
  ·exact k d hd
theorem qTw(h o t:List Int)(G:List Bd)(P D S:Int)(O U:List Nz)(C st V:Raw)(Z:Int)(F I:List (List Int))(L Y:Int)(l:List Wt):∀(b:Nat)(e:List Rt),rwC (coF lL h o t G P D S O U C st V Z F I L Y l 0 b e)=e.map fun c=> .ls .a zL [c]
 | _,[]=>rfl
 | b,c::e=>jh (T.ls .a zL [c]::·) (qTw h o t G P D S O U C st V Z F I L Y l (b+1) e)
def zZn(h o t:List Int)(G:List Bd)(P D S:Int)(O U:List Nz)(C st V:Raw)(Z:Int)(F I:List (List Int))(L Y:Int)(l:List Wt)(f:Rt)(j:List Rt):Option Nat→Ex×Hs
 | none=>(.x 0,⟨[zRw],rwC ((hdF (xW l) f (l.length-1),tlF (xW l) f (l.length-1))::coF lL h o t G P D S O U C st V Z F I L Y l (l.length-1) 0 j),[[],[],[],[],[]]⟩)
 | some e=>(.r,⟨[zRw,vn e],[],[[],[],[],[],[]]⟩)
def jAr(h o t:List Int)(G:List Bd)(P D S:Int)(O U:List Nz)(C st V:Raw)(Z:Int)(F I:List (List Int))(L Y:Int)(l:List Wt)(e:Rt)(f:List Rt)(j:Nat):Hs:=iEx L Y l l.length (j+1) (hdF (xW l) e j,tlF (xW l) e j) (coF lL h o t G P D S O U C st V Z F I L Y l j 0 f) h o t G P D S O U C st V Z F I
theorem lpEx{f:Hs→Option (Hs⊕(Ex×Hs))}{k:Nat}(h o t:List Int)(G:List Bd)(P D S:Int)(O U:List Nz)(C st V:Raw)(Z:Int)(F I:List (List Int))(L Y:Int)(l:List Wt)(y:Rt)(e:List Rt)(H:∀i w z,z.length=k→f (iEx L Y l l.length i w z h o t G P D S O U C st V Z F I)=dV okL lL lP k h o t G P D S O U C st V Z F I L Y l l.length i w z)(q:e.length=k)(K:0<l.length)(M:l.length≤100000)(J:F.length<9223372036854775807)(ha:G.length=k):lpF f (l.length-1) (jAr lL h o t G P D S O U C st V Z F I L Y l y e 0)=some (zZn lL h o t G P D S O U C st V Z F I L Y l y e (xpF okL lP h o t G P D S O U C st V Z F I L Y l)):=
 jM (st:=f) (iv:=fun j(_:Unit)=>jAr lL h o t G P D S O U C st V Z F I L Y l y e j) (g:=gEx okL lP h o t G P D S O U C st V Z F I L Y l) (d:=fun _=>none) (out:=zZn lL h o t G P D S O U C st V Z F I L Y l y e) (n:=l.length-1) (fun _ _=>True)
  (fun j _ N _=>by
   obtain⟨B,E⟩:=zUq lL h o t G P D S O U C st V Z F I L Y l j 0 e;refine(H _ _ _ (B.trans q)).trans ?_;unfold dV gEx;have A:ilt (.ofNat (j+1)) (.ofNat l.length)=true:=zP (show j+1<l.length by omega)
   rw[A,ze,zP (show j+1<l.length by omega),zP J,ha]
   cases ptO okL h o t G P D S O U C st V Z F I L Y l (j+1)with
   | false=>rfl
   | true=>
    rw[ze,zXg (fun c q=>by
     rcases qS.1 q with rfl | q
     ·show(tlF _ _ j).length≤_;rw[zGi];omega
     ·rw[E c q];omega),yV (show j+1+1<9223372036854775808 by omega)]
    simp only[gd,ze,jL];rw[zNd,qTv];rfl)
  (fun _ _ _ _ _ _=>trivial)
  (fun _ _=>by
   refine(H _ _ _ ((zUq lL h o t G P D S O U C st V Z F I L Y l (l.length-1) 0 e).1.trans q)).trans ?_;unfold dV;have A:ilt (.ofNat (l.length-1+1)) (.ofNat l.length)=false:=yC (show l.length≤l.length-1+1 by omega)
   rw[A,zf,zNd];rfl) (l.length-1) 0 () (by omega) trivial
def hdS:List T→Option (List Rt)
 | []=>some []
 | .ls .a (.prod .bool (.prod (.list .lim) (.list .lim))) [c]::r=>match hdS r with
  | some e=>some (c::e)
  | none=>none
 | _=>none
theorem qHf:∀{r:List T}{f:List Rt},hdS r=some f→r=f.map fun c=> .ls .a zL [c]
 | [],f,h=>by cases h;rfl
 | x::r,f,h=>by
  unfold hdS at h;split at h
  ·rename_i heq;cases heq
  ·rename_i c k heq;cases heq;cases e:hdS r with
   | none=>rw[e]at h;cases h
   | some j=>rw[e]at h;cases h;rw[qHf e];rfl
  ·cases h
def qZv(k:Nat)(L Y:Int)(l:List Wt)(n:Nat)(B:Rt)(A:List Rt):List T→DT (Ex×Hs)
 | [.ls .a (.int .i64) h,.ls .a (.int .i64) o,.ls .a (.int .i64) t,.ls .a (.prod (.int .u8) (.prod (.int .i64) (.int .i64))) G,.v (.int .i64 P),.v (.int .i64 D),.v (.int .i64 S),.ls .a (.prod (.int .i64) zL) O,.ls .a (.prod (.int .i64) zL) U,.v (.bool e),.ls .a .lim C,.ls .a .lim f,.v (.bool y),.ls .a .lim sl,.ls .a .lim z,.v (.bool j),.ls .a .lim q,.ls .a .lim w,.v (.int .i64 Z),.ls .a (.list (.int .i64)) F,.ls .a (.list (.int .i64)) I]=>grd (Nat.beq n l.length&&(Nat.beq A.length k&&(Nat.blt 0 l.length&&(Nat.ble l.length 100000&&(Nat.blt F.length 9223372036854775807&&Nat.beq G.length k))))) (.ite (isO (xpF okL lP h o t G P D S O U ⟨e,C,f⟩ ⟨y,sl,z⟩ ⟨j,q,w⟩ Z F I L Y l)) (.ret (zZn lL h o t G P D S O U ⟨e,C,f⟩ ⟨y,sl,z⟩ ⟨j,q,w⟩ Z F I L Y l B A none)) (.ret (zZn lL h o t G P D S O U ⟨e,C,f⟩ ⟨y,sl,z⟩ ⟨j,q,w⟩ Z F I L Y l B A (some (eO (xpF okL lP h o t G P D S O U ⟨e,C,f⟩ ⟨y,sl,z⟩ ⟨j,q,w⟩ Z F I L Y l))))))
 | _=> .no
def hEx(k:Nat):Hs→DT (Ex×Hs)
 | ⟨[.v (.int .i64 L),.v (.int .i64 Y),.v (.slice none 0 0),.ls .a (.prod (.prod (.int .i64) (.prod (.int .i64) (.int .i64))) zL) l,.v (.int .i64 (.ofNat n)),.v (.int .i64 (.ofNat 1))],.ls .a (.prod .bool (.prod (.list .lim) (.list .lim))) [j]::r,[f,[],[],[],[]]⟩=>match hdS r with
  | some e=>qZv okL lL lP k L Y l n j e f
  | none=> .no
 | _=> .no
theorem qOo{K:Hs→Option (Hs⊕(Ex×Hs))}{k:Nat}(H:∀(h o t:List Int)(G:List Bd)(P D S:Int)(O U:List Nz)(C st V:Raw)(Z:Int)(F I:List (List Int))(L Y:Int)(l:List Wt)(i:Nat)(w:Cl)(N:List Cl),N.length=k→K (iEx L Y l l.length i w N h o t G P D S O U C st V Z F I)=dV okL lL lP k h o t G P D S O U C st V Z F I L Y l l.length i w N){L Y:Int}{l:List Wt}{n:Nat}{M:Rt}{q:List Rt}{W:List T}:∀y,(qZv okL lL lP k L Y l n M q W).run=some y→∃j,It K j ⟨[vi L,vi Y,zRw,.ls .a wT l,vn n,vn 1],.ls .a zL [M]::q.map (fun c=> .ls .a zL [c]),[W,[],[],[],[]]⟩ y:=fun y hh=>by
 unfold qZv at hh;split at hh
 ·rename_i h o t G P D S O U e C f E sl J z A B Z F I;obtain⟨Q,R⟩:=zT hh;simp only[zd,qp]at Q;obtain⟨g1,g6,g2,g3,X,g5⟩:=Q;obtain rfl:=zY g1;have:=xM _ _ (lpEx okL lL lP h o t G P D S O U ⟨e,C,f⟩ ⟨E,sl,J⟩ ⟨z,A,B⟩ Z F I L Y l M q (H h o t G P D S O U ⟨e,C,f⟩ ⟨E,sl,J⟩ ⟨z,A,B⟩ Z F I L Y l) (zY g6) (jV g2) g3 (jV X) (zY g5));rw[show jAr lL h o t G P D S O U ⟨e,C,f⟩ ⟨E,sl,J⟩ ⟨z,A,B⟩ Z F I L Y l M q 0=⟨[vi L,vi Y,zRw,.ls .a wT l,vn l.length,vn 1],.ls .a zL [M]::q.map (fun c=> .ls .a zL [c]),[tbC h o t G P D S O U ⟨e,C,f⟩ ⟨E,sl,J⟩ ⟨z,A,B⟩ Z F I,[],[],[],[]]⟩by rw[←qTw lL h o t G P D S O U ⟨e,C,f⟩ ⟨E,sl,J⟩ ⟨z,A,B⟩ Z F I L Y l 0 q];rfl]at this
  cases hb:xpF okL lP h o t G P D S O U ⟨e,C,f⟩ ⟨E,sl,J⟩ ⟨z,A,B⟩ Z F I L Y l<;>rw[hb]at R this<;>cases R<;>exact this
 ·cases hh
theorem zDh{f:Hs→Option (Hs⊕(Ex×Hs))}(k:Nat)(H:∀(h o t:List Int)(G:List Bd)(P D S:Int)(O U:List Nz)(C st V:Raw)(Z:Int)(F I:List (List Int))(L Y:Int)(l:List Wt)(i:Nat)(w:Cl)(j:List Cl),j.length=k→f (iEx L Y l l.length i w j h o t G P D S O U C st V Z F I)=dV okL lL lP k h o t G P D S O U C st V Z F I L Y l l.length i w j):∀q y,(hEx okL lL lP k q).run=some y→∃n,It f n q y:=fun q y hh=>by
 unfold hEx at hh;split at hh
 ·rename_i L Y l n B r A;cases e:hdS r with
  | none=>rw[e]at hh;cases hh
  | some z=>
   rw[e]at hh;rw[qHf e];exact qOo okL lL lP H y hh
 ·cases hh
end
def Lex1:Lp:=⟨5,
 ⟨[.u,.h,.u,.h,.t (.op 0 0)]++(us' 3++([.h,.u,.u,.a .a zL 28,.t (.os 4 0 1 1)]++(us' 15++([.h,.h,.h]++(us' 72))))),[.r [.h,.h,.h,.h,.h,.h,.h,.h,.h,.h,.h,.h,.h,.h,.h,.h,.h,.h,.h,.h,.h] 33,.g,.g,.g,.r [.a .a zL 28] 45]⟩,
 ⟨us' 8++([.h,.u,.u,.a .a zL 28,.t (.os 4 0 1 1)]++(us' 90)),[.g,.g,.g,.g,.r [.a .a zL 28] 45]⟩,
 ⟨us' 8++([.h,.h]++(us' 93)),[.g,.g,.g,.g,.g]⟩⟩
abbrev zTv:Code:=lpc Tryz.prog 22 [false,true,false,true,true,true,true]
theorem qMq:cAt Tryz.prog 22 [false,true,false,true,true,true,true]=some (.loop zTv):=by kernel_rfl
abbrev qDm(f:Od)(e:Lo):Hs→Option (Hs⊕(Ex×Hs)):=Lex1.stp (evD Tryz.prog f e 60) 22 [false,true,false,true,true,true,true] zTv
theorem sEx1(bc:List Wt→Int)(okL:LF Bool)(lL:LF (List Rt))(lP:LF Nat)(okD:List Rt→List Rt→Bool)(dR:List Rt→List Rt→Raw)(dP:List Rt→List Rt→Nat)(L Y:Int)(l:List Wt)(n i:Nat)(w e:Cl)(h o t:List Int)(G:List Bd)(P D S:Int)(O U:List Nz)(C st V:Raw)(Z:Int)(F I:List (List Int)):qDm (odT [(46,odR [.list wT] (oBc bc)),(32,odR [tbT,nT,nT,nT,nT,nT] (tK 1 okL lL lP)),(70,odR [.list zL,.list zL] (qH okD dR dP))]) (loT []) (iEx L Y l n i w [e] h o t G P D S O U C st V Z F I)=dV okL lL lP 1 h o t G P D S O U C st V Z F I L Y l n i w [e]:=by kernel_rfl
section
variable (bc:List Wt→Int)(okL:LF Bool)(lL:LF (List Rt))(lP:LF Nat)(okD:List Rt→List Rt→Bool)(dR:List Rt→List Rt→Raw)(dP:List Rt→List Rt→Nat)
theorem qOq:∀q y,(hEx okL lL lP 1 q).run=some y→∃n,It (qDm (odT [(46,odR [.list wT] (oBc bc)),(32,odR [tbT,nT,nT,nT,nT,nT] (tK 1 okL lL lP)),(70,odR [.list zL,.list zL] (qH okD dR dP))]) (loT [])) n q y:=zDh okL lL lP 1 fun h o t G P D S O U C st V Z F I L Y l i w e H=>match e,H with
 | [f],_=>sEx1 bc okL lL lP okD dR dP L Y l l.length i w f h o t G P D S O U C st V Z F I
abbrev LEx1:Lo:=loT [(22,[false,true,false,true,true,true,true],Lex1.rowP (evD Tryz.prog (odT [(46,odR [.list wT] (oBc bc)),(32,odR [tbT,nT,nT,nT,nT,nT] (tK 1 okL lL lP)),(70,odR [.list zL,.list zL] (qH okD dR dP))]) (loT []) 60) 22 [false,true,false,true,true,true,true] zTv (hEx okL lL lP 1))]
end
def Lex2:Lp:=⟨5,
 ⟨[.u,.h,.u,.h,.t (.op 0 0)]++(us' 3++([.h,.u,.u,.a .a zL 28,.t (.os 4 0 2 2)]++(us' 15++([.h,.h,.h]++(us' 72))))),[.r [.h,.h,.h,.h,.h,.h,.h,.h,.h,.h,.h,.h,.h,.h,.h,.h,.h,.h,.h,.h,.h] 33,.g,.g,.g,.r [.a .a zL 28,.a .a zL 28] 45]⟩,
 ⟨us' 8++([.h,.u,.u,.a .a zL 28,.t (.os 4 0 2 2)]++(us' 90)),[.g,.g,.g,.g,.r [.a .a zL 28,.a .a zL 28] 45]⟩,
 ⟨us' 8++([.h,.h]++(us' 93)),[.g,.g,.g,.g,.g]⟩⟩
abbrev zTw:Code:=lpc Tryz.prog 22 [false,true,false,true,true,true,true]
theorem qMr:cAt Tryz.prog 22 [false,true,false,true,true,true,true]=some (.loop zTw):=by kernel_rfl
abbrev qDn(f:Od)(e:Lo):Hs→Option (Hs⊕(Ex×Hs)):=Lex2.stp (evD Tryz.prog f e 60) 22 [false,true,false,true,true,true,true] zTw
theorem sEx2(bc:List Wt→Int)(okL:LF Bool)(lL:LF (List Rt))(lP:LF Nat)(okD:List Rt→List Rt→Bool)(dR:List Rt→List Rt→Raw)(dP:List Rt→List Rt→Nat)(L Y:Int)(l:List Wt)(n i:Nat)(w e f:Cl)(h o t:List Int)(G:List Bd)(P D S:Int)(O U:List Nz)(C st V:Raw)(Z:Int)(F I:List (List Int)):qDn (odT [(46,odR [.list wT] (oBc bc)),(32,odR [tbT,nT,nT,nT,nT,nT] (tK 2 okL lL lP)),(70,odR [.list zL,.list zL] (qH okD dR dP))]) (loT []) (iEx L Y l n i w [e,f] h o t G P D S O U C st V Z F I)=dV okL lL lP 2 h o t G P D S O U C st V Z F I L Y l n i w [e,f]:=by kernel_rfl
section
variable (bc:List Wt→Int)(okL:LF Bool)(lL:LF (List Rt))(lP:LF Nat)(okD:List Rt→List Rt→Bool)(dR:List Rt→List Rt→Raw)(dP:List Rt→List Rt→Nat)
theorem qOr:∀q y,(hEx okL lL lP 2 q).run=some y→∃n,It (qDn (odT [(46,odR [.list wT] (oBc bc)),(32,odR [tbT,nT,nT,nT,nT,nT] (tK 2 okL lL lP)),(70,odR [.list zL,.list zL] (qH okD dR dP))]) (loT [])) n q y:=zDh okL lL lP 2 fun h o t G P D S O U C st V Z F I L Y l i w e H=>match e,H with
 | [f,j],_=>sEx2 bc okL lL lP okD dR dP L Y l l.length i w f j h o t G P D S O U C st V Z F I
abbrev LEx2:Lo:=loT [(22,[false,true,false,true,true,true,true],Lex2.rowP (evD Tryz.prog (odT [(46,odR [.list wT] (oBc bc)),(32,odR [tbT,nT,nT,nT,nT,nT] (tK 2 okL lL lP)),(70,odR [.list zL,.list zL] (qH okD dR dP))]) (loT []) 60) 22 [false,true,false,true,true,true,true] zTw (hEx okL lL lP 2))]
end
def Lex3:Lp:=⟨5,
 ⟨[.u,.h,.u,.h,.t (.op 0 0)]++(us' 3++([.h,.u,.u,.a .a zL 28,.t (.os 4 0 3 3)]++(us' 15++([.h,.h,.h]++(us' 72))))),[.r [.h,.h,.h,.h,.h,.h,.h,.h,.h,.h,.h,.h,.h,.h,.h,.h,.h,.h,.h,.h,.h] 33,.g,.g,.g,.r [.a .a zL 28,.a .a zL 28,.a .a zL 28] 45]⟩,
 ⟨us' 8++([.h,.u,.u,.a .a zL 28,.t (.os 4 0 3 3)]++(us' 90)),[.g,.g,.g,.g,.r [.a .a zL 28,.a .a zL 28,.a .a zL 28] 45]⟩,
 ⟨us' 8++([.h,.h]++(us' 93)),[.g,.g,.g,.g,.g]⟩⟩
abbrev zTx:Code:=lpc Tryz.prog 22 [false,true,false,true,true,true,true]
theorem qMs:cAt Tryz.prog 22 [false,true,false,true,true,true,true]=some (.loop zTx):=by kernel_rfl
abbrev qDo(f:Od)(e:Lo):Hs→Option (Hs⊕(Ex×Hs)):=Lex3.stp (evD Tryz.prog f e 60) 22 [false,true,false,true,true,true,true] zTx
theorem sEx3(bc:List Wt→Int)(okL:LF Bool)(lL:LF (List Rt))(lP:LF Nat)(okD:List Rt→List Rt→Bool)(dR:List Rt→List Rt→Raw)(dP:List Rt→List Rt→Nat)(L Y:Int)(l:List Wt)(n i:Nat)(w e f j:Cl)(h o t:List Int)(G:List Bd)(P D S:Int)(O U:List Nz)(C st V:Raw)(Z:Int)(F I:List (List Int)):qDo (odT [(46,odR [.list wT] (oBc bc)),(32,odR [tbT,nT,nT,nT,nT,nT] (tK 3 okL lL lP)),(70,odR [.list zL,.list zL] (qH okD dR dP))]) (loT []) (iEx L Y l n i w [e,f,j] h o t G P D S O U C st V Z F I)=dV okL lL lP 3 h o t G P D S O U C st V Z F I L Y l n i w [e,f,j]:=by kernel_rfl
section
variable (bc:List Wt→Int)(okL:LF Bool)(lL:LF (List Rt))(lP:LF Nat)(okD:List Rt→List Rt→Bool)(dR:List Rt→List Rt→Raw)(dP:List Rt→List Rt→Nat)
theorem qOs:∀q y,(hEx okL lL lP 3 q).run=some y→∃n,It (qDo (odT [(46,odR [.list wT] (oBc bc)),(32,odR [tbT,nT,nT,nT,nT,nT] (tK 3 okL lL lP)),(70,odR [.list zL,.list zL] (qH okD dR dP))]) (loT [])) n q y:=zDh okL lL lP 3 fun h o t G P D S O U C st V Z F I L Y l i w e H=>match e,H with
 | [f,j,k],_=>sEx3 bc okL lL lP okD dR dP L Y l l.length i w f j k h o t G P D S O U C st V Z F I
abbrev LEx3:Lo:=loT [(22,[false,true,false,true,true,true,true],Lex3.rowP (evD Tryz.prog (odT [(46,odR [.list wT] (oBc bc)),(32,odR [tbT,nT,nT,nT,nT,nT] (tK 3 okL lL lP)),(70,odR [.list zL,.list zL] (qH okD dR dP))]) (loT []) 60) 22 [false,true,false,true,true,true,true] zTx (hEx okL lL lP 3))]
end
def Lex4:Lp:=⟨5,
 ⟨[.u,.h,.u,.h,.t (.op 0 0)]++(us' 3++([.h,.u,.u,.a .a zL 28,.t (.os 4 0 4 4)]++(us' 15++([.h,.h,.h]++(us' 72))))),[.r [.h,.h,.h,.h,.h,.h,.h,.h,.h,.h,.h,.h,.h,.h,.h,.h,.h,.h,.h,.h,.h] 33,.g,.g,.g,.r [.a .a zL 28,.a .a zL 28,.a .a zL 28,.a .a zL 28] 45]⟩,
 ⟨us' 8++([.h,.u,.u,.a .a zL 28,.t (.os 4 0 4 4)]++(us' 90)),[.g,.g,.g,.g,.r [.a .a zL 28,.a .a zL 28,.a .a zL 28,.a .a zL 28] 45]⟩,
 ⟨us' 8++([.h,.h]++(us' 93)),[.g,.g,.g,.g,.g]⟩⟩
abbrev zTy:Code:=lpc Tryz.prog 22 [false,true,false,true,true,true,true]
theorem qMt:cAt Tryz.prog 22 [false,true,false,true,true,true,true]=some (.loop zTy):=by kernel_rfl
abbrev qDp(f:Od)(e:Lo):Hs→Option (Hs⊕(Ex×Hs)):=Lex4.stp (evD Tryz.prog f e 60) 22 [false,true,false,true,true,true,true] zTy
theorem sEx4(bc:List Wt→Int)(okL:LF Bool)(lL:LF (List Rt))(lP:LF Nat)(okD:List Rt→List Rt→Bool)(dR:List Rt→List Rt→Raw)(dP:List Rt→List Rt→Nat)(L Y:Int)(l:List Wt)(n i:Nat)(w e f j k:Cl)(h o t:List Int)(G:List Bd)(P D S:Int)(O U:List Nz)(C st V:Raw)(Z:Int)(F I:List (List Int)):qDp (odT [(46,odR [.list wT] (oBc bc)),(32,odR [tbT,nT,nT,nT,nT,nT] (tK 4 okL lL lP)),(70,odR [.list zL,.list zL] (qH okD dR dP))]) (loT []) (iEx L Y l n i w [e,f,j,k] h o t G P D S O U C st V Z F I)=dV okL lL lP 4 h o t G P D S O U C st V Z F I L Y l n i w [e,f,j,k]:=by kernel_rfl
section
variable (bc:List Wt→Int)(okL:LF Bool)(lL:LF (List Rt))(lP:LF Nat)(okD:List Rt→List Rt→Bool)(dR:List Rt→List Rt→Raw)(dP:List Rt→List Rt→Nat)
theorem qOt:∀q y,(hEx okL lL lP 4 q).run=some y→∃n,It (qDp (odT [(46,odR [.list wT] (oBc bc)),(32,odR [tbT,nT,nT,nT,nT,nT] (tK 4 okL lL lP)),(70,odR [.list zL,.list zL] (qH okD dR dP))]) (loT [])) n q y:=zDh okL lL lP 4 fun h o t G P D S O U C st V Z F I L Y l i w e H=>match e,H with
 | [f,j,k,z],_=>sEx4 bc okL lL lP okD dR dP L Y l l.length i w f j k z h o t G P D S O U C st V Z F I
abbrev LEx4:Lo:=loT [(22,[false,true,false,true,true,true,true],Lex4.rowP (evD Tryz.prog (odT [(46,odR [.list wT] (oBc bc)),(32,odR [tbT,nT,nT,nT,nT,nT] (tK 4 okL lL lP)),(70,odR [.list zL,.list zL] (qH okD dR dP))]) (loT []) 60) 22 [false,true,false,true,true,true,true] zTy (hEx okL lL lP 4))]
end
def Lex5:Lp:=⟨5,
 ⟨[.u,.h,.u,.h,.t (.op 0 0)]++(us' 3++([.h,.u,.u,.a .a zL 28,.t (.os 4 0 5 5)]++(us' 15++([.h,.h,.h]++(us' 72))))),[.r [.h,.h,.h,.h,.h,.h,.h,.h,.h,.h,.h,.h,.h,.h,.h,.h,.h,.h,.h,.h,.h] 33,.g,.g,.g,.r [.a .a zL 28,.a .a zL 28,.a .a zL 28,.a .a zL 28,.a .a zL 28] 45]⟩,
 ⟨us' 8++([.h,.u,.u,.a .a zL 28,.t (.os 4 0 5 5)]++(us' 90)),[.g,.g,.g,.g,.r [.a .a zL 28,.a .a zL 28,.a .a zL 28,.a .a zL 28,.a .a zL 28] 45]⟩,
 ⟨us' 8++([.h,.h]++(us' 93)),[.g,.g,.g,.g,.g]⟩⟩
abbrev zTz:Code:=lpc Tryz.prog 22 [false,true,false,true,true,true,true]
theorem qMu:cAt Tryz.prog 22 [false,true,false,true,true,true,true]=some (.loop zTz):=by kernel_rfl
abbrev qDq(f:Od)(e:Lo):Hs→Option (Hs⊕(Ex×Hs)):=Lex5.stp (evD Tryz.prog f e 60) 22 [false,true,false,true,true,true,true] zTz
theorem sEx5(bc:List Wt→Int)(okL:LF Bool)(lL:LF (List Rt))(lP:LF Nat)(okD:List Rt→List Rt→Bool)(dR:List Rt→List Rt→Raw)(dP:List Rt→List Rt→Nat)(L Y:Int)(l:List Wt)(n i:Nat)(w e f j k q:Cl)(h o t:List Int)(G:List Bd)(P D S:Int)(O U:List Nz)(C st V:Raw)(Z:Int)(F I:List (List Int)):qDq (odT [(46,odR [.list wT] (oBc bc)),(32,odR [tbT,nT,nT,nT,nT,nT] (tK 5 okL lL lP)),(70,odR [.list zL,.list zL] (qH okD dR dP))]) (loT []) (iEx L Y l n i w [e,f,j,k,q] h o t G P D S O U C st V Z F I)=dV okL lL lP 5 h o t G P D S O U C st V Z F I L Y l n i w [e,f,j,k,q]:=by kernel_rfl
section
variable (bc:List Wt→Int)(okL:LF Bool)(lL:LF (List Rt))(lP:LF Nat)(okD:List Rt→List Rt→Bool)(dR:List Rt→List Rt→Raw)(dP:List Rt→List Rt→Nat)
theorem qOu:∀q y,(hEx okL lL lP 5 q).run=some y→∃n,It (qDq (odT [(46,odR [.list wT] (oBc bc)),(32,odR [tbT,nT,nT,nT,nT,nT] (tK 5 okL lL lP)),(70,odR [.list zL,.list zL] (qH okD dR dP))]) (loT [])) n q y:=zDh okL lL lP 5 fun h o t G P D S O U C st V Z F I L Y l i w e H=>match e,H with
 | [f,j,k,z,A],_=>sEx5 bc okL lL lP okD dR dP L Y l l.length i w f j k z A h o t G P D S O U C st V Z F I
abbrev LEx5:Lo:=loT [(22,[false,true,false,true,true,true,true],Lex5.rowP (evD Tryz.prog (odT [(46,odR [.list wT] (oBc bc)),(32,odR [tbT,nT,nT,nT,nT,nT] (tK 5 okL lL lP)),(70,odR [.list zL,.list zL] (qH okD dR dP))]) (loT []) 60) 22 [false,true,false,true,true,true,true] zTz (hEx okL lL lP 5))]
end
def Lex6:Lp:=⟨5,
 ⟨[.u,.h,.u,.h,.t (.op 0 0)]++(us' 3++([.h,.u,.u,.a .a zL 28,.t (.os 4 0 6 6)]++(us' 15++([.h,.h,.h]++(us' 72))))),[.r [.h,.h,.h,.h,.h,.h,.h,.h,.h,.h,.h,.h,.h,.h,.h,.h,.h,.h,.h,.h,.h] 33,.g,.g,.g,.r [.a .a zL 28,.a .a zL 28,.a .a zL 28,.a .a zL 28,.a .a zL 28,.a .a zL 28] 45]⟩,
 ⟨us' 8++([.h,.u,.u,.a .a zL 28,.t (.os 4 0 6 6)]++(us' 90)),[.g,.g,.g,.g,.r [.a .a zL 28,.a .a zL 28,.a .a zL 28,.a .a zL 28,.a .a zL 28,.a .a zL 28] 45]⟩,
 ⟨us' 8++([.h,.h]++(us' 93)),[.g,.g,.g,.g,.g]⟩⟩
abbrev zUa:Code:=lpc Tryz.prog 22 [false,true,false,true,true,true,true]
theorem qMv:cAt Tryz.prog 22 [false,true,false,true,true,true,true]=some (.loop zUa):=by kernel_rfl
abbrev qDr(f:Od)(e:Lo):Hs→Option (Hs⊕(Ex×Hs)):=Lex6.stp (evD Tryz.prog f e 60) 22 [false,true,false,true,true,true,true] zUa
theorem sEx6(bc:List Wt→Int)(okL:LF Bool)(lL:LF (List Rt))(lP:LF Nat)(okD:List Rt→List Rt→Bool)(dR:List Rt→List Rt→Raw)(dP:List Rt→List Rt→Nat)(L Y:Int)(l:List Wt)(n i:Nat)(w e f j k q y:Cl)(h o t:List Int)(G:List Bd)(P D S:Int)(O U:List Nz)(C st V:Raw)(Z:Int)(F I:List (List Int)):qDr (odT [(46,odR [.list wT] (oBc bc)),(32,odR [tbT,nT,nT,nT,nT,nT] (tK 6 okL lL lP)),(70,odR [.list zL,.list zL] (qH okD dR dP))]) (loT []) (iEx L Y l n i w [e,f,j,k,q,y] h o t G P D S O U C st V Z F I)=dV okL lL lP 6 h o t G P D S O U C st V Z F I L Y l n i w [e,f,j,k,q,y]:=by kernel_rfl
section
variable (bc:List Wt→Int)(okL:LF Bool)(lL:LF (List Rt))(lP:LF Nat)(okD:List Rt→List Rt→Bool)(dR:List Rt→List Rt→Raw)(dP:List Rt→List Rt→Nat)
theorem qOv:∀q y,(hEx okL lL lP 6 q).run=some y→∃n,It (qDr (odT [(46,odR [.list wT] (oBc bc)),(32,odR [tbT,nT,nT,nT,nT,nT] (tK 6 okL lL lP)),(70,odR [.list zL,.list zL] (qH okD dR dP))]) (loT [])) n q y:=zDh okL lL lP 6 fun h o t G P D S O U C st V Z F I L Y l i w e H=>match e,H with
 | [f,j,k,z,A,B],_=>sEx6 bc okL lL lP okD dR dP L Y l l.length i w f j k z A B h o t G P D S O U C st V Z F I
abbrev LEx6:Lo:=loT [(22,[false,true,false,true,true,true,true],Lex6.rowP (evD Tryz.prog (odT [(46,odR [.list wT] (oBc bc)),(32,odR [tbT,nT,nT,nT,nT,nT] (tK 6 okL lL lP)),(70,odR [.list zL,.list zL] (qH okD dR dP))]) (loT []) 60) 22 [false,true,false,true,true,true,true] zUa (hEx okL lL lP 6))]
end
def rvF(f:Nat→Rt)(m:Nat):List Rt:=(hdF f (f 0) m::tlF f (f 0) m).reverse
theorem gT(f:Nat→Rt)(m:Nat):(rvF f m).length=m+1:=by
 unfold rvF;rw[xg,z8,zGi]
theorem qUf(f:Nat→Rt):∀m,hdF f (f 0) m=f m
 | 0=>rfl
 | _+1=>rfl
theorem qVl(f:Nat→Rt):∀m,tlF f (f 0) m=((List.range m).map f).reverse
 | 0=>rfl
 | m+1=>by
  show hdF f (f 0) m::tlF f (f 0) m=_;rw[qUf,qVl f m,uh,xw,List.reverse_append];rfl
theorem jHk(f:Nat→Rt)(m:Nat):rvF f m=(List.range (m+1)).map f:=by
 unfold rvF;rw[qUf,qVl,uQ,kf,uh,xw];rfl
section
variable (okD:List Rt→List Rt→Bool)(dR:List Rt→List Rt→Raw)(dP:List Rt→List Rt→Nat)
def xpD(w e:Nat→Nat→Rt)(m:Nat):Nat→Nat→List Raw→Option (T×Bool)
 | 0,_,f=>some (.tu [.sl (flR f.reverse) f.length,vn 0],true)
 | k+1,b,f=>beG 1 (tlF (w 0) (w 0 0) m) (beG 1 (tlF (e b) (e b 0) m) (gd (Nat.ble (rvF (w 0) m).length 100000&&Nat.ble (rvF (e b) m).length 100000) (bif okD (rvF (w 0) m) (rvF (e b) m)then xpD w e m k (b+1) (dR (rvF (w 0) m) (rvF (e b) m)::f)else er (dP (rvF (w 0) m) (rvF (e b) m)+1))))
def xpL(w e:Nat→Nat→Rt)(m:Nat):Nat→Nat→List Raw→List Raw⊕Nat
 | 0,_,f=> .inl f.reverse
 | k+1,b,f=>bif okD (rvF (w 0) m) (rvF (e b) m)then xpL w e m k (b+1) (dR (rvF (w 0) m) (rvF (e b) m)::f)else .inr (dP (rvF (w 0) m) (rvF (e b) m)+1)
theorem qMk(w f:Nat→Nat→Rt)(m:Nat)(hm:m+1≤100000):∀(k b:Nat)(e:List Raw),xpD okD dR dP w f m k b e=qKa (xpL okD dR dP w f m k b e)
 | 0,b,e=>by
  show(some (.tu [.sl (flR e.reverse) e.length,vn 0],true):Option (T×Bool))=some (.tu [.sl (flR e.reverse) e.reverse.length,vn 0],true);rw[xg]
 | k+1,b,e=>by
  simp only[xpD,xpL];rw[zUi,zUi,gT,gT,yJ hm];simp only[gd,q9,ze];cases okD (rvF (w 0) m) (rvF (f b) m)with
  | false=>rfl
  | true=>exact qMk w f m hm k (b+1) _
end
section
variable (bc:List Wt→Int)(okL:LF Bool)(lL:LF (List Rt))(lP:LF Nat)(okD:List Rt→List Rt→Bool)(dR:List Rt→List Rt→Raw)(dP:List Rt→List Rt→Nat)
def xpG(k:Nat)(h o t:List Int)(G:List Bd)(P D S:Int)(O U:List Nz)(C st V:Raw)(Z:Int)(F I:List (List Int))(L:Int)(l:List Wt)(Y:Int):Option (T×Bool):=bif !ieq (bc l) 0 then some (.tu [zRw,vi (bc l)],true)else gd (ilt (.ofNat 0) (.ofNat l.length)) (gd (Nat.blt 0 l.length) (gd (Nat.blt F.length 9223372036854775807) (gd (ptO okL h o t G P D S O U C st V Z F I L Y l 0) (gd (Nat.beq G.length k) (gd (Nat.beq l.length l.length&&(Nat.blt 0 l.length&&(Nat.ble l.length 100000&&(Nat.blt F.length 9223372036854775807&&Nat.beq G.length k)))) (bif isO (xpF okL lP h o t G P D S O U C st V Z F I L Y l)then xpD okD dR dP (fun _=>xW l) (aL lL h o t G P D S O U C st V Z F I L Y l) (l.length-1) k 0 []else er (eO (xpF okL lP h o t G P D S O U C st V Z F I L Y l))))))))
theorem jFn(h o t:List Int)(G:List Bd)(P D S:Int)(O U:List Nz)(C st V:Raw)(Z:Int)(F I:List (List Int))(L:Int)(l:List Wt)(Y:Int)(hb:bc l=0)(e:0<l.length)(f:l.length≤100000)(j:F.length<9223372036854775807)(hp:ptO okL h o t G P D S O U C st V Z F I L Y l 0=true):xpG bc okL lL lP okD dR dP G.length h o t G P D S O U C st V Z F I L l Y=bif isO (xpF okL lP h o t G P D S O U C st V Z F I L Y l)then qKa (xpL okD dR dP (fun _=>xW l) (aL lL h o t G P D S O U C st V Z F I L Y l) (l.length-1) G.length 0 [])else er (eO (xpF okL lP h o t G P D S O U C st V Z F I L Y l)):=by
 unfold xpG;rw[hb,zP e,zP j,hp,jL,jL,yJ f,show ilt (.ofNat 0) (.ofNat l.length)=true from zP e,qMk okD dR dP _ _ _ (show l.length-1+1≤100000 by omega)]
 rfl
end
set_option maxHeartbeats 0 in
theorem eEx1(bc:List Wt→Int)(okL:LF Bool)(lL:LF (List Rt))(lP:LF Nat)(okD:List Rt→List Rt→Bool)(dR:List Rt→List Rt→Raw)(dP:List Rt→List Rt→Nat)(h o t:List Int)(G:List Bd)(P D S:Int)(O U:List Nz)(C st V:Raw)(Z:Int)(F I:List (List Int))(L:Int)(l:List Wt)(Y:Int):((qF Tryz.prog (evD Tryz.prog (odT [(46,odR [.list wT] (oBc bc)),(32,odR [tbT,nT,nT,nT,nT,nT] (tK 1 okL lL lP)),(70,odR [.list zL,.list zL] (qH okD dR dP))]) (LEx1 bc okL lL lP okD dR dP) 60) 22 [.ag (tbC h o t G P D S O U C st V Z F I),vi L,.ls .a wT l,vi Y] []).bind qJ).run=xpG bc okL lL lP okD dR dP 1 h o t G P D S O U C st V Z F I L l Y:=by kernel_rfl
set_option maxHeartbeats 0 in
theorem eEx2(bc:List Wt→Int)(okL:LF Bool)(lL:LF (List Rt))(lP:LF Nat)(okD:List Rt→List Rt→Bool)(dR:List Rt→List Rt→Raw)(dP:List Rt→List Rt→Nat)(h o t:List Int)(G:List Bd)(P D S:Int)(O U:List Nz)(C st V:Raw)(Z:Int)(F I:List (List Int))(L:Int)(l:List Wt)(Y:Int):((qF Tryz.prog (evD Tryz.prog (odT [(46,odR [.list wT] (oBc bc)),(32,odR [tbT,nT,nT,nT,nT,nT] (tK 2 okL lL lP)),(70,odR [.list zL,.list zL] (qH okD dR dP))]) (LEx2 bc okL lL lP okD dR dP) 60) 22 [.ag (tbC h o t G P D S O U C st V Z F I),vi L,.ls .a wT l,vi Y] []).bind qJ).run=xpG bc okL lL lP okD dR dP 2 h o t G P D S O U C st V Z F I L l Y:=by kernel_rfl
set_option maxHeartbeats 0 in
theorem eEx3(bc:List Wt→Int)(okL:LF Bool)(lL:LF (List Rt))(lP:LF Nat)(okD:List Rt→List Rt→Bool)(dR:List Rt→List Rt→Raw)(dP:List Rt→List Rt→Nat)(h o t:List Int)(G:List Bd)(P D S:Int)(O U:List Nz)(C st V:Raw)(Z:Int)(F I:List (List Int))(L:Int)(l:List Wt)(Y:Int):((qF Tryz.prog (evD Tryz.prog (odT [(46,odR [.list wT] (oBc bc)),(32,odR [tbT,nT,nT,nT,nT,nT] (tK 3 okL lL lP)),(70,odR [.list zL,.list zL] (qH okD dR dP))]) (LEx3 bc okL lL lP okD dR dP) 60) 22 [.ag (tbC h o t G P D S O U C st V Z F I),vi L,.ls .a wT l,vi Y] []).bind qJ).run=xpG bc okL lL lP okD dR dP 3 h o t G P D S O U C st V Z F I L l Y:=by kernel_rfl
set_option maxHeartbeats 0 in
theorem eEx4(bc:List Wt→Int)(okL:LF Bool)(lL:LF (List Rt))(lP:LF Nat)(okD:List Rt→List Rt→Bool)(dR:List Rt→List Rt→Raw)(dP:List Rt→List Rt→Nat)(h o t:List Int)(G:List Bd)(P D S:Int)(O U:List Nz)(C st V:Raw)(Z:Int)(F I:List (List Int))(L:Int)(l:List Wt)(Y:Int):((qF Tryz.prog (evD Tryz.prog (odT [(46,odR [.list wT] (oBc bc)),(32,odR [tbT,nT,nT,nT,nT,nT] (tK 4 okL lL lP)),(70,odR [.list zL,.list zL] (qH okD dR dP))]) (LEx4 bc okL lL lP okD dR dP) 60) 22 [.ag (tbC h o t G P D S O U C st V Z F I),vi L,.ls .a wT l,vi Y] []).bind qJ).run=xpG bc okL lL lP okD dR dP 4 h o t G P D S O U C st V Z F I L l Y:=by kernel_rfl
set_option maxHeartbeats 0 in
theorem eEx5(bc:List Wt→Int)(okL:LF Bool)(lL:LF (List Rt))(lP:LF Nat)(okD:List Rt→List Rt→Bool)(dR:List Rt→List Rt→Raw)(dP:List Rt→List Rt→Nat)(h o t:List Int)(G:List Bd)(P D S:Int)(O U:List Nz)(C st V:Raw)(Z:Int)(F I:List (List Int))(L:Int)(l:List Wt)(Y:Int):((qF Tryz.prog (evD Tryz.prog (odT [(46,odR [.list wT] (oBc bc)),(32,odR [tbT,nT,nT,nT,nT,nT] (tK 5 okL lL lP)),(70,odR [.list zL,.list zL] (qH okD dR dP))]) (LEx5 bc okL lL lP okD dR dP) 60) 22 [.ag (tbC h o t G P D S O U C st V Z F I),vi L,.ls .a wT l,vi Y] []).bind qJ).run=xpG bc okL lL lP okD dR dP 5 h o t G P D S O U C st V Z F I L l Y:=by kernel_rfl
set_option maxHeartbeats 0 in
theorem eEx6(bc:List Wt→Int)(okL:LF Bool)(lL:LF (List Rt))(lP:LF Nat)(okD:List Rt→List Rt→Bool)(dR:List Rt→List Rt→Raw)(dP:List Rt→List Rt→Nat)(h o t:List Int)(G:List Bd)(P D S:Int)(O U:List Nz)(C st V:Raw)(Z:Int)(F I:List (List Int))(L:Int)(l:List Wt)(Y:Int):((qF Tryz.prog (evD Tryz.prog (odT [(46,odR [.list wT] (oBc bc)),(32,odR [tbT,nT,nT,nT,nT,nT] (tK 6 okL lL lP)),(70,odR [.list zL,.list zL] (qH okD dR dP))]) (LEx6 bc okL lL lP okD dR dP) 60) 22 [.ag (tbC h o t G P D S O U C st V Z F I),vi L,.ls .a wT l,vi Y] []).bind qJ).run=xpG bc okL lL lP okD dR dP 6 h o t G P D S O U C st V Z F I L l Y:=by kernel_rfl
def qIw(okL:LF Bool)(lP:LF Nat):List T→DT (T×Bool)
 | [.ag [.ls .a (.int .i64) h,.ls .a (.int .i64) o,.ls .a (.int .i64) t,.ls .a (.prod (.int .u8) (.prod (.int .i64) (.int .i64))) G,.v (.int .i64 P),.v (.int .i64 D),.v (.int .i64 S),.ls .a (.prod (.int .i64) zL) O,.ls .a (.prod (.int .i64) zL) U,.v (.bool e),.ls .a .lim C,.ls .a .lim f,.v (.bool w),.ls .a .lim sl,.ls .a .lim y,.v (.bool j),.ls .a .lim k,.ls .a .lim q,.v (.int .i64 Z),.ls .a (.list (.int .i64)) F,.ls .a (.list (.int .i64)) I],.v (.int .i64 L),.v (.int .i64 H),.v (.int .i64 W),.v (.int .i64 z),.v (.int .i64 Y)]=>grd (Nat.blt F.length 9223372036854775807) (.ite (okL h o t G P D S O U ⟨e,C,f⟩ ⟨w,sl,y⟩ ⟨j,k,q⟩ Z F I L H W z Y) .no (.ret (.tu [.ls .a zL [],.v (.int .i64 (.ofNat (lP h o t G P D S O U ⟨e,C,f⟩ ⟨w,sl,y⟩ ⟨j,k,q⟩ Z F I L H W z Y+1)))],true)))
 | _=> .no
theorem kLkE:∀j w q,(qIw jH lkP j).run=some (w,q)→∀k,KnP Tryz.prog k 32 j w q:=by
 intro j w q hh k;refine kLk j w q ?_ k;unfold qIw at hh;unfold oLk;split at hh
 ·rename_i h o t G P D S O U y C z K sl M B E J Z F I L H W N Y;obtain⟨A,f⟩:=zT hh;simp only[grd,DT.run,A,ze];simp only[DT.run]at f;cases e:jH h o t G P D S O U ⟨y,C,z⟩ ⟨K,sl,M⟩ ⟨B,E,J⟩ Z F I L H W N Y with
  | true=>rw[e]at f;cases f
  | false=>rw[e]at f;exact f
 ·cases hh
theorem eEx0(bc:List Wt→Int)(okL:LF Bool)(lP:LF Nat)(h o t:List Int)(G:List Bd)(P D S:Int)(O U:List Nz)(C st V:Raw)(Z:Int)(F I:List (List Int))(L:Int)(l:List Wt)(Y:Int):((qF Tryz.prog (evD Tryz.prog (odT [(46,odR [.list wT] (oBc bc)),(32,odR [tbT,nT,nT,nT,nT,nT] (qIw okL lP))]) (loT []) 60) 22 [.ag (tbC h o t G P D S O U C st V Z F I),vi L,.ls .a wT l,vi Y] []).bind qJ).run=bif !(ieq (bc l) 0)then some (.tu [.v (Value.slice none 0 0),vi (bc l)],true)else(bif ilt (.ofNat 0) (.ofNat l.length)then gd (Nat.blt 0 l.length) (gd (Nat.blt F.length 9223372036854775807) (bif okL h o t G P D S O U C st V Z F I L (((wA l 0).1).1) ((((wA l 0).1).2).1) ((((wA l 0).1).2).2) Y then none else some (.tu [.v (Value.slice none 0 0),vn ((lP h o t G P D S O U C st V Z F I L (((wA l 0).1).1) ((((wA l 0).1).2).1) ((((wA l 0).1).2).2) Y)+1)],true)))else some (.tu [.v (Value.slice none 0 0),vn 0],true)):=by kernel_rfl
theorem jGd(l:List Wt):0≤bE l:=by
 unfold bE bcE;refine bnn (by decide) (bnn (by decide) ?_)
 have q:0≤eN (b0F Raw.chk l):=qGf (β:=Unit) (g:=gB0 Raw.chk l) (fun i e f=>by
  unfold gB0 at f;cases w:aO (wA l i).1<;>rw[w]at f
  ·cases k:(ilt 0 (.ofNat i)&&!ilt (cpP (wA l (i-1)).1 (wA l i).1) 0)<;>rw[k]at f
   ·cases z:ieq (Raw.chk (rw' (wA l i).2)) 0<;>rw[z]at f
    ·cases f;exact zNi _
    ·cases A:((wA l i).2.1||ieq (.ofNat (wA l i).2.2.1.length) 0)<;>rw[A]at f<;>cases f;decide
   ·cases f;decide
  ·cases f;decide) l.length 0
 cases h:b0F Raw.chk l with
 | some e=>rw[h]at q;exact q
 | none=>
  have k:0≤(b1F adA aeA frA l).2:=by
   have:=xG (g:=gB1 adA aeA l) (d:=id) (J:=fun a=>0≤a.2) (R:=fun a=>0≤a.2) (fun i a b B j=>by
    unfold gB1 at j;cases e:ieq a.2 0<;>rw[e]at j<;>cases j
    ·exact B
    ·exact zOp _ _ _) (fun i a y _ j=>by unfold gB1 at j;cases j) (fun a h=>h) l.length 0 (frA 0,0) (ki 0)
   exact this
  exact bnn k (bnn (by decide) (by decide))
theorem zGl{l:List Wt}(h:bE l=0):0<l.length∧l.length≤4096:=by
 unfold bE bcE at h;cases e:Nat.beq l.length 0 with
 | true=>rw[e]at h;cases h
 | false=>
  cases f:Nat.blt 4096 l.length with
  | true=>rw[e,f]at h;cases h
  | false=>
   refine⟨?_,?_⟩
   ·rcases jg l.length with g | g
    ·rw[g]at e;cases e
    ·exact g
   ·rcases qi 4096 l.length with g | g
    ·rw[zP g]at f;cases f
    ·exact g
def xpR(h o t:List Int)(G:List Bd)(P D S:Int)(O U:List Nz)(C st V:Raw)(Z:Int)(F I:List (List Int))(L:Int)(l:List Wt)(Y:Int):List Raw⊕Nat:=bif !ieq (bE l) 0 then .inr (bE l).toNat else(bif ptO jH h o t G P D S O U C st V Z F I L Y l 0 then(bif isO (xpF jH lkP h o t G P D S O U C st V Z F I L Y l)then xpL zU qI qX (fun _=>xW l) (aL lkL h o t G P D S O U C st V Z F I L Y l) (l.length-1) G.length 0 []else .inr (eO (xpF jH lkP h o t G P D S O U C st V Z F I L Y l)))else .inr (ptP lkP h o t G P D S O U C st V Z F I L Y l 0+1))
abbrev xpO(h o t:List Int)(G:List Bd)(P D S:Int)(O U:List Nz)(C st V:Raw)(Z:Int)(F I:List (List Int))(L:Int)(l:List Wt)(Y:Int):Bool:=isR (xpR h o t G P D S O U C st V Z F I L l Y)
abbrev xpV(h o t:List Int)(G:List Bd)(P D S:Int)(O U:List Nz)(C st V:Raw)(Z:Int)(F I:List (List Int))(L:Int)(l:List Wt)(Y:Int):List Rt:=lR (xpR h o t G P D S O U C st V Z F I L l Y)
abbrev xpP(h o t:List Int)(G:List Bd)(P D S:Int)(O U:List Nz)(C st V:Raw)(Z:Int)(F I:List (List Int))(L:Int)(l:List Wt)(Y:Int):Nat:=eR (xpR h o t G P D S O U C st V Z F I L l Y)-1
def oEx(xO:List Int→List Int→List Int→List Bd→Int→Int→Int→List Nz→List Nz→Raw→Raw→Raw→Int→List (List Int)→List (List Int)→Int→List Wt→Int→Bool)(xL:List Int→List Int→List Int→List Bd→Int→Int→Int→List Nz→List Nz→Raw→Raw→Raw→Int→List (List Int)→List (List Int)→Int→List Wt→Int→List Rt)(xP:List Int→List Int→List Int→List Bd→Int→Int→Int→List Nz→List Nz→Raw→Raw→Raw→Int→List (List Int)→List (List Int)→Int→List Wt→Int→Nat):List T→DT (T×Bool)
 | [.ag [.ls .a (.int .i64) h,.ls .a (.int .i64) o,.ls .a (.int .i64) t,.ls .a (.prod (.int .u8) (.prod (.int .i64) (.int .i64))) G,.v (.int .i64 P),.v (.int .i64 D),.v (.int .i64 S),.ls .a (.prod (.int .i64) zL) O,.ls .a (.prod (.int .i64) zL) U,.v (.bool e),.ls .a .lim C,.ls .a .lim f,.v (.bool w),.ls .a .lim sl,.ls .a .lim y,.v (.bool j),.ls .a .lim k,.ls .a .lim q,.v (.int .i64 Z),.ls .a (.list (.int .i64)) F,.ls .a (.list (.int .i64)) I],.v (.int .i64 L),.ls .a (.prod (.prod (.int .i64) (.prod (.int .i64) (.int .i64))) zL) l,.v (.int .i64 Y)]=>grd (Nat.blt F.length 9223372036854775807) (.ite (xO h o t G P D S O U ⟨e,C,f⟩ ⟨w,sl,y⟩ ⟨j,k,q⟩ Z F I L l Y) (.ret (.tu [.ls .a zL (xL h o t G P D S O U ⟨e,C,f⟩ ⟨w,sl,y⟩ ⟨j,k,q⟩ Z F I L l Y),.v (.int .i64 (.ofNat 0))],true)) (.ret (.tu [.ls .a zL [],.v (.int .i64 (.ofNat (xP h o t G P D S O U ⟨e,C,f⟩ ⟨w,sl,y⟩ ⟨j,k,q⟩ Z F I L l Y+1)))],true)))
 | _=> .no
theorem rE(k:Nat):wC Tryz.prog (odT [(46,odR [.list wT] (oBc bE)),(32,odR [tbT,nT,nT,nT,nT,nT] (tK k jH lkL lkP)),(70,odR [.list zL,.list zL] (qH zU qI qX))]):=zS (zS (zS jZ (jI kDot)) (jI (kLkX k))) (jI kBc)
theorem qQo:wC Tryz.prog (odT [(46,odR [.list wT] (oBc bE)),(32,odR [tbT,nT,nT,nT,nT,nT] (qIw jH lkP))]):=zS (zS jZ (jI kLkE)) (jI kBc)
theorem qPr:vJ Tryz.prog (LEx1 bE jH lkL lkP zU qI qX):=bZ qA (kM yL (rE 1) qA 60) qMq (qOq bE jH lkL lkP zU qI qX)
theorem qPs:vJ Tryz.prog (LEx2 bE jH lkL lkP zU qI qX):=bZ qA (kM yL (rE 2) qA 60) qMr (qOr bE jH lkL lkP zU qI qX)
theorem qPt:vJ Tryz.prog (LEx3 bE jH lkL lkP zU qI qX):=bZ qA (kM yL (rE 3) qA 60) qMs (qOs bE jH lkL lkP zU qI qX)
theorem qPu:vJ Tryz.prog (LEx4 bE jH lkL lkP zU qI qX):=bZ qA (kM yL (rE 4) qA 60) qMt (qOt bE jH lkL lkP zU qI qX)
theorem qPv:vJ Tryz.prog (LEx5 bE jH lkL lkP zU qI qX):=bZ qA (kM yL (rE 5) qA 60) qMu (qOu bE jH lkL lkP zU qI qX)
theorem qPw:vJ Tryz.prog (LEx6 bE jH lkL lkP zU qI qX):=bZ qA (kM yL (rE 6) qA 60) qMv (qOv bE jH lkL lkP zU qI qX)
theorem qLo{h o t:List Int}{G:List Bd}{P D S:Int}{O U:List Nz}{C st V:Raw}{Z:Int}{F I:List (List Int)}{L H W f Y:Int}(e:jH h o t G P D S O U C st V Z F I L H W f Y=true):Tab h o t G S Z F I:=by
 unfold jH lkR at e;cases j:Nat.beq (lkE h o t G P D S O U C st V Z F I L H W f Y) 0 with
 | false=>rw[j]at e;cases e
 | true=>exact qLp kyF h o t G P D S O U C st V Z F I (zV.1 (qIa yT pPA h o t G P D S O U C st V Z F I L H W f Y j).1)
theorem qAv{okD:List Rt→List Rt→Bool}{dR:List Rt→List Rt→Raw}{dP:List Rt→List Rt→Nat}{w j:Nat→Nat→Rt}{m:Nat}:∀(k b:Nat)(f:List Raw){e:Nat},xpL okD dR dP w j m k b f= .inr e→1≤e
 | 0,_,_,_,h=>by cases h
 | k+1,b,f,e,h=>by
  simp only[xpL]at h;cases H:okD (rvF (w 0) m) (rvF (j b) m)with
  | true=>rw[H]at h;exact qAv k (b+1) _ h
  | false=>rw[H]at h;cases h;omega
theorem qSo{okL:List Int→List Int→List Int→List Bd→Int→Int→Int→List Nz→List Nz→Raw→Raw→Raw→Int→List (List Int)→List (List Int)→Int→Int→Int→Int→Int→Bool}{lP:List Int→List Int→List Int→List Bd→Int→Int→Int→List Nz→List Nz→Raw→Raw→Raw→Int→List (List Int)→List (List Int)→Int→Int→Int→Int→Int→Nat}(h o t:List Int)(G:List Bd)(P D S:Int)(O U:List Nz)(C st V:Raw)(Z:Int)(F I:List (List Int)){L Y:Int}{l:List Wt}{e:Nat}(f:xpF okL lP h o t G P D S O U C st V Z F I L Y l=some e):1≤e:=by
 have:=xG (g:=gEx okL lP h o t G P D S O U C st V Z F I L Y l) (d:=fun _=>none) (J:=fun _=>True) (R:=fun y=>∀e,y=some e→1≤e) (fun _ _ _ _ _=>trivial) (fun i a y _ j e he=>by
  unfold gEx at j;cases f:ptO okL h o t G P D S O U C st V Z F I L Y l (i+1)<;>rw[f]at j<;>cases j;cases he;omega) (fun _ _ e he=>by cases he) (l.length-1) 0 () trivial
 exact this e f
theorem zEm(h o t:List Int)(G:List Bd)(P D S:Int)(O U:List Nz)(C st V:Raw)(Z:Int)(F I:List (List Int))(L:Int)(l:List Wt)(Y:Int)(k:Nat){od:Od}{J:Lo}(M:wC Tryz.prog od)(K:vJ Tryz.prog J)(W:F.length<9223372036854775807)(hb:bE l=0)(hp:ptO jH h o t G P D S O U C st V Z F I L Y l 0=true)(R:((qF Tryz.prog (evD Tryz.prog (od) (J) 60) 22 [.ag (tbC h o t G P D S O U C st V Z F I),vi L,.ls .a wT l,vi Y] []).bind qJ).run=xpG bE jH lkL lkP zU qI qX G.length h o t G P D S O U C st V Z F I L l Y):KnP Tryz.prog k 22 [.ag (tbC h o t G P D S O U C st V Z F I),vi L,.ls .a wT l,vi Y] (bif xpO h o t G P D S O U C st V Z F I L l Y then .tu [.ls .a zL (xpV h o t G P D S O U C st V Z F I L l Y),vn 0]else .tu [.ls .a zL [],vn (xpP h o t G P D S O U C st V Z F I L l Y+1)]) true:=by
 obtain⟨N,X⟩:=zGl hb;have q:=R.trans (jFn bE jH lkL lkP zU qI qX h o t G P D S O U C st V Z F I L l Y hb N (by omega) W hp)
 have j:∀{e:Nat},xpR h o t G P D S O U C st V Z F I L l Y= .inr e→1≤e→((qF Tryz.prog (evD Tryz.prog (od) (J) 60) 22 [.ag (tbC h o t G P D S O U C st V Z F I),vi L,.ls .a wT l,vi Y] []).bind qJ).run=er e→KnP Tryz.prog k 22 [.ag (tbC h o t G P D S O U C st V Z F I),vi L,.ls .a wT l,vi Y] (bif xpO h o t G P D S O U C st V Z F I L l Y then .tu [.ls .a zL (xpV h o t G P D S O U C st V Z F I L l Y),vn 0]else .tu [.ls .a zL [],vn (xpP h o t G P D S O U C st V Z F I L l Y+1)]) true:=fun{e}he Q H=>by
  have w:xpO h o t G P D S O U C st V Z F I L l Y=false:=by unfold xpO;rw[he];rfl
  have y:xpP h o t G P D S O U C st V Z F I L l Y+1=e:=by unfold xpP;rw[he];exact yj Q
  rw[w,y];exact(yN (cz:=[.ag (tbC h o t G P D S O U C st V Z F I),vi L,.ls .a wT l,vi Y]) yL M K H rfl k).res fun B r v hv=>zJf hv
 have f:xpR h o t G P D S O U C st V Z F I L l Y=bif isO (xpF jH lkP h o t G P D S O U C st V Z F I L Y l)then xpL zU qI qX (fun _=>xW l) (aL lkL h o t G P D S O U C st V Z F I L Y l) (l.length-1) G.length 0 []else .inr (eO (xpF jH lkP h o t G P D S O U C st V Z F I L Y l)):=by
  unfold xpR;rw[hb,hp];rfl
 cases z:xpF jH lkP h o t G P D S O U C st V Z F I L Y l with
 | some e=>
  rw[z]at q f;exact j f (qSo h o t G P D S O U C st V Z F I z) q
 | none=>
  rw[z]at q f;simp only[isO,ze]at q f;cases E:xpL zU qI qX (fun _=>xW l) (aL lkL h o t G P D S O U C st V Z F I L Y l) (l.length-1) G.length 0 []with
  | inr e=>
   rw[E]at q f;exact j f (qAv G.length 0 [] E) q
  | inl x=>
   rw[E]at q f;have w:xpO h o t G P D S O U C st V Z F I L l Y=true:=by unfold xpO;rw[f];rfl
   have y:xpV h o t G P D S O U C st V Z F I L l Y=x.map toT:=by unfold xpV;rw[f];rfl
   rw[w,y];have A:(([.ag (tbC h o t G P D S O U C st V Z F I),vi L,.ls .a wT l,vi Y]:List T).all (clean 12)&&clean 12 (.tu [.sl (flR x) x.length,vn 0]))=true:=by
    show(true&&((flR x).all (clean 10)&&true))=true;rw[zUk 9];rfl
   exact(yN (cz:=[.ag (tbC h o t G P D S O U C st V Z F I),vi L,.ls .a wT l,vi Y]) yL M K q A k).res fun B r v hv=>qVj hv
theorem kEx:∀Q X W,(oEx xpO xpV xpP Q).run=some (X,W)→∀k,KnP Tryz.prog k 22 Q X W:=by
 intro Q X W hh k;unfold oEx at hh;split at hh
 ·rename_i h o t G P D S O U f C j A sl E w y z Z F I L l Y;obtain⟨R,T⟩:=zT hh;have M:=jV R;have N:∀{e:Nat},xpR h o t G P D S O U ⟨f,C,j⟩ ⟨A,sl,E⟩ ⟨w,y,z⟩ Z F I L l Y= .inr e→1≤e→((qF Tryz.prog (evD Tryz.prog (odT [(46,odR [.list wT] (oBc bE)),(32,odR [tbT,nT,nT,nT,nT,nT] (qIw jH lkP))]) (loT []) 60) 22 [.ag (tbC h o t G P D S O U ⟨f,C,j⟩ ⟨A,sl,E⟩ ⟨w,y,z⟩ Z F I),vi L,.ls .a wT l,vi Y] []).bind qJ).run=er e→KnP Tryz.prog k 22 [.ag (tbC h o t G P D S O U ⟨f,C,j⟩ ⟨A,sl,E⟩ ⟨w,y,z⟩ Z F I),vi L,.ls .a wT l,vi Y] (bif xpO h o t G P D S O U ⟨f,C,j⟩ ⟨A,sl,E⟩ ⟨w,y,z⟩ Z F I L l Y then .tu [.ls .a zL (xpV h o t G P D S O U ⟨f,C,j⟩ ⟨A,sl,E⟩ ⟨w,y,z⟩ Z F I L l Y),vn 0]else .tu [.ls .a zL [],vn (xpP h o t G P D S O U ⟨f,C,j⟩ ⟨A,sl,E⟩ ⟨w,y,z⟩ Z F I L l Y+1)]) true:=fun{e}he R H=>by
   have e2:xpO h o t G P D S O U ⟨f,C,j⟩ ⟨A,sl,E⟩ ⟨w,y,z⟩ Z F I L l Y=false:=by unfold xpO;rw[he];rfl
   have e3:xpP h o t G P D S O U ⟨f,C,j⟩ ⟨A,sl,E⟩ ⟨w,y,z⟩ Z F I L l Y+1=e:=by unfold xpP;rw[he];exact yj R
   rw[e2,e3];exact(yN (cz:=[.ag (tbC h o t G P D S O U ⟨f,C,j⟩ ⟨A,sl,E⟩ ⟨w,y,z⟩ Z F I),vi L,.ls .a wT l,vi Y]) yL qQo qA H rfl k).res fun B r v hv=>zJf hv
  have K:KnP Tryz.prog k 22 [.ag (tbC h o t G P D S O U ⟨f,C,j⟩ ⟨A,sl,E⟩ ⟨w,y,z⟩ Z F I),vi L,.ls .a wT l,vi Y] (bif xpO h o t G P D S O U ⟨f,C,j⟩ ⟨A,sl,E⟩ ⟨w,y,z⟩ Z F I L l Y then .tu [.ls .a zL (xpV h o t G P D S O U ⟨f,C,j⟩ ⟨A,sl,E⟩ ⟨w,y,z⟩ Z F I L l Y),vn 0]else .tu [.ls .a zL [],vn (xpP h o t G P D S O U ⟨f,C,j⟩ ⟨A,sl,E⟩ ⟨w,y,z⟩ Z F I L l Y+1)]) true:=by
   have q:=eEx0 bE jH lkP h o t G P D S O U ⟨f,C,j⟩ ⟨A,sl,E⟩ ⟨w,y,z⟩ Z F I L l Y;cases hb:ieq (bE l) 0 with
   | false=>
    rw[hb]at q;have hp:0<bE l:=by
     rcases uE (jGd l)with g | g
     ·exact g
     ·rw[yS g.symm]at hb;cases hb
    obtain⟨e,he⟩:=jj (yb hp);refine N (e:=e) (by unfold xpR;rw[hb,he];rfl) (by omega) (q.trans ?_)
    rw[he];rfl
   | true=>
    have J:=zV.1 hb;obtain⟨h0,h9⟩:=zGl J;cases hp:ptO jH h o t G P D S O U ⟨f,C,j⟩ ⟨A,sl,E⟩ ⟨w,y,z⟩ Z F I L Y l 0 with
    | false=>
     rw[hb,show ilt (.ofNat 0) (.ofNat l.length)=true from zP h0,zP h0,zP M,show jH h o t G P D S O U ⟨f,C,j⟩ ⟨A,sl,E⟩ ⟨w,y,z⟩ Z F I L (wA l 0).1.1 (wA l 0).1.2.1 (wA l 0).1.2.2 Y=false from hp]at q;exact N (by unfold xpR;rw[hb,hp];rfl) (Nat.le_add_left 1 _) q
    | true=>
     have hT:Tab h o t G S Z F I:=qLo hp;have a1:=hT.mod.av1;have a6:=hT.mod.av6;rcases(show G.length=1∨G.length=2∨G.length=3∨G.length=4∨G.length=5∨G.length=6 by omega)with ha | ha | ha | ha | ha | ha
     ·exact zEm h o t G P D S O U ⟨f,C,j⟩ ⟨A,sl,E⟩ ⟨w,y,z⟩ Z F I L l Y k (rE 1) qPr M J hp (by rw[ha];exact eEx1 bE jH lkL lkP zU qI qX h o t G P D S O U ⟨f,C,j⟩ ⟨A,sl,E⟩ ⟨w,y,z⟩ Z F I L l Y)
     ·exact zEm h o t G P D S O U ⟨f,C,j⟩ ⟨A,sl,E⟩ ⟨w,y,z⟩ Z F I L l Y k (rE 2) qPs M J hp (by rw[ha];exact eEx2 bE jH lkL lkP zU qI qX h o t G P D S O U ⟨f,C,j⟩ ⟨A,sl,E⟩ ⟨w,y,z⟩ Z F I L l Y)
     ·exact zEm h o t G P D S O U ⟨f,C,j⟩ ⟨A,sl,E⟩ ⟨w,y,z⟩ Z F I L l Y k (rE 3) qPt M J hp (by rw[ha];exact eEx3 bE jH lkL lkP zU qI qX h o t G P D S O U ⟨f,C,j⟩ ⟨A,sl,E⟩ ⟨w,y,z⟩ Z F I L l Y)
     ·exact zEm h o t G P D S O U ⟨f,C,j⟩ ⟨A,sl,E⟩ ⟨w,y,z⟩ Z F I L l Y k (rE 4) qPu M J hp (by rw[ha];exact eEx4 bE jH lkL lkP zU qI qX h o t G P D S O U ⟨f,C,j⟩ ⟨A,sl,E⟩ ⟨w,y,z⟩ Z F I L l Y)
     ·exact zEm h o t G P D S O U ⟨f,C,j⟩ ⟨A,sl,E⟩ ⟨w,y,z⟩ Z F I L l Y k (rE 5) qPv M J hp (by rw[ha];exact eEx5 bE jH lkL lkP zU qI qX h o t G P D S O U ⟨f,C,j⟩ ⟨A,sl,E⟩ ⟨w,y,z⟩ Z F I L l Y)
     ·exact zEm h o t G P D S O U ⟨f,C,j⟩ ⟨A,sl,E⟩ ⟨w,y,z⟩ Z F I L l Y k (rE 6) qPw M J hp (by rw[ha];exact eEx6 bE jH lkL lkP zU qI qX h o t G P D S O U ⟨f,C,j⟩ ⟨A,sl,E⟩ ⟨w,y,z⟩ Z F I L l Y)
  simp only[DT.run]at T;cases e:xpO h o t G P D S O U ⟨f,C,j⟩ ⟨A,sl,E⟩ ⟨w,y,z⟩ Z F I L l Y<;>rw[e]at T K<;>cases T<;>exact K
 ·cases hh
def iLo(i:Nat)(C st V:Raw)(F I:List (List Int)):Hs:=⟨[vn i],[],[[.ls .a (.list nT) F,.ls .a (.list nT) I],[.v (.bool C.1),.ls .a .lim C.2,.ls .a .lim C.3,.v (.bool st.1),.ls .a .lim st.2,.ls .a .lim st.3,.v (.bool V.1),.ls .a .lim V.2,.ls .a .lim V.3]]⟩
def xLo(C st V:Raw)(F I:List (List Int)):Hs:=⟨[],[],[[.ls .a (.list nT) F,.ls .a (.list nT) I],[.v (.bool C.1),.ls .a .lim C.2,.ls .a .lim C.3,.v (.bool st.1),.ls .a .lim st.2,.ls .a .lim st.3,.v (.bool V.1),.ls .a .lim V.2,.ls .a .lim V.3]]⟩
def Llo0:Lp:=⟨2,
 ⟨[.u,.t (.op 0 0),.u,.t (.op 1 0),.h]++(us' 85),[.r [.u,.u,.u,.u,.u,.u,.u,.u,.u,.u,.u,.u,.u,.u,.u,.u,.u,.u,.u,.h,.h] 33,.r [.u,.u,.u,.u,.u,.u,.u,.u,.u,.h,.h,.h,.h,.h,.h,.h,.h,.h] 30]⟩,
 ⟨[.u,.t (.op 0 0),.u,.t (.op 1 0)]++(us' 86),[.r [.u,.u,.u,.u,.u,.u,.u,.u,.u,.u,.u,.u,.u,.u,.u,.u,.u,.u,.u,.h,.h] 33,.r [.u,.u,.u,.u,.u,.u,.u,.u,.u,.h,.h,.h,.h,.h,.h,.h,.h,.h] 30]⟩,
 ⟨[.u,.u,.h]++(us' 87),[.g,.g]⟩⟩
abbrev qDs:Code:=lpc Tryz.prog 13 [false,true,false,true,true,true]
theorem qMw:cAt Tryz.prog 13 [false,true,false,true,true,true]=some (.loop qDs):=by kernel_rfl
abbrev zMu(f:Od)(e:Lo):Hs→Option (Hs⊕(Ex×Hs)):=Llo0.stp (evD Tryz.prog f e 60) 13 [false,true,false,true,true,true] qDs
def Llo1:Lp:=⟨2,
 ⟨[.u,.t (.op 0 0),.u,.t (.op 1 0),.u,.h]++(us' 84),[.r [.u,.u,.u,.u,.u,.u,.u,.u,.u,.u,.u,.u,.u,.u,.u,.u,.u,.u,.u,.h,.h] 33,.r [.u,.u,.u,.u,.u,.u,.u,.u,.u,.h,.h,.h,.h,.h,.h,.h,.h,.h] 30]⟩,
 ⟨us' 3++([.t (.op 1 0)]++(us' 86)),[.r [.u,.u,.u,.u,.u,.u,.u,.u,.u,.u,.u,.u,.u,.u,.u,.u,.u,.u,.u,.h,.h] 33,.r [.u,.u,.u,.u,.u,.u,.u,.u,.u,.h,.h,.h,.h,.h,.h,.h,.h,.h] 30]⟩,
 ⟨[.u,.u,.h]++(us' 87),[.g,.g]⟩⟩
abbrev qDt:Code:=lpc Tryz.prog 13 [false,true,false,true,true,true,true]
theorem qMx:cAt Tryz.prog 13 [false,true,false,true,true,true,true]=some (.loop qDt):=by kernel_rfl
abbrev zMv(f:Od)(e:Lo):Hs→Option (Hs⊕(Ex×Hs)):=Llo1.stp (evD Tryz.prog f e 60) 13 [false,true,false,true,true,true,true] qDt
theorem sLo0(i:Nat)(C st V:Raw)(F I:List (List Int)):zMu (odT []) (loT []) (iLo i C st V F I)=bif ilt (.ofNat i) (.ofNat F.length)then gd (Nat.blt i F.length) (bif ilt (.ofNat 10) (.ofNat ((nth nT.list.zero F i).length))then some (.inr (.r,⟨[.v (.bool true)],[],[[],[]]⟩))else nx i (.inl (iLo (i+1) C st V F I)))else some (.inr (.x 0,(xLo C st V F I))):=by kernel_rfl
theorem sLo1(i:Nat)(C st V:Raw)(F I:List (List Int)):zMv (odT []) (loT []) (iLo i C st V F I)=bif ilt (.ofNat i) (.ofNat I.length)then gd (Nat.blt i I.length) (bif ilt (.ofNat 300) (.ofNat ((nth nT.list.zero I i).length))then some (.inr (.r,⟨[.v (.bool true)],[],[[],[]]⟩))else nx i (.inl (iLo (i+1) C st V F I)))else some (.inr (.x 2,(xLo C st V F I))):=by kernel_rfl
theorem zPa:r0.rat=0:=qDd
theorem zOz:r0.chk=0:=qMm
def lQ(f:Nat→Rat):Nat→Rat
 | 0=>0
 | m+1=>lQ f m+f m
theorem gY{f g:Nat→Rat}:∀m,(∀i,i<m→f i=g i)→lQ f m=lQ g m
 | 0,_=>rfl
 | m+1,h=>by show lQ f m+f m=lQ g m+g m;rw[gY m fun i e=>h i (by omega),h m (by omega)]
abbrev dtQ(a b:List Rt)(j:Nat):Rat:=(xI a j).rat*(xI b j).rat
theorem qGd{a b:List Rt}:∀(k i:Nat){t f:Raw},fol (gDt adA muA aeA meA a b) Sum.inl k i t=Sum.inl f→t.chk=0→t.rat=lQ (dtQ a b) i→f.chk=0∧f.rat=lQ (dtQ a b) (i+k)∧∀j,i≤j→j<i+k→(xI a j).chk=0∧(xI b j).chk=0
 | 0,i,t,f,h,A,y=>by cases h;exact⟨A,y,fun j _ _=>by omega⟩
 | k+1,i,t,f,h,A,y=>by
  simp only[fol,gDt]at h;cases e:ieq (meA (xI a i) (xI b i)) 0 with
  | false=>rw[e]at h;cases h
  | true=>
   cases q:ieq (aeA r0 t) 0 with
   | false=>rw[e,q]at h;cases h
   | true=>
    cases w:ieq (aeA (adA r0 t) (muA (xI a i) (xI b i))) 0 with
    | false=>rw[e,q,w]at h;cases h
    | true=>
     rw[e,q,w]at h;have g1:=yO (zV.1 e);have g2:=yO (zV.1 q);have g3:=yO (zV.1 w);have r:(adA (adA r0 t) (muA (xI a i) (xI b i))).rat=lQ (dtQ a b) (i+1):=by
      refine g3.2.2.2.1.trans ?_;rw[show(adA r0 t).rat=_ from g2.2.2.2.1,show(muA (xI a i) (xI b i)).rat=_ from g1.2.2.2.1,zPa,y,Rat.zero_add];rfl
     obtain⟨E,H,J⟩:=qGd k (i+1) h g3.2.2.2.2 r;refine⟨E,by rw[H,show i+1+k=i+(k+1)by omega],fun j z B=>?_⟩
     rcases xo z with rfl | hlt
     ·exact⟨g1.1,g1.2.1⟩
     ·exact J j hlt (by omega)
theorem jGg{a b:List Rt}(h:zU a b=true):(qI a b).chk=0∧(qI a b).rat=lQ (dtQ a b) a.length∧∀j,j<a.length→(xI a j).chk=0∧(xI b j).chk=0:=by
 have f:=h;simp only[zU,zFg,zd]at f;cases k:dtF adA muA aeA meA a b with
 | inr e=>rw[k]at f;cases f.2
 | inl t=>
  have w:qI a b=t:=by unfold qI dtR;rw[show zFg adA muA aeA meA a b=true from h,k];rfl
  obtain⟨y,q,z⟩:=qGd a.length 0 k zOz zPa;rw[w];rw[qc]at q;exact⟨y,q,fun j A=>z j (qq _) (by omega)⟩
theorem zWi{l:List Rt}{i:Nat}(e:i<l.length):rI l i=l[i]:=by rw[rI,qU];simp[e]
theorem zTd{f:Nat→Rt}{m j:Nat}(e:j<m+1):rI (rvF f m) j=f j:=by
 rw[zWi (by rw[gT];exact e)]
 simp[jHk]
abbrev wQ(l:List Wt)(i:Nat):Rat:=(rw' (xW l i)).rat
theorem zNb{l:List Wt}:∀(k i:Nat){t:Raw×Int},(fol (gB1 adA aeA l) id k i t).2=0→t.2=0∧(t.1.chk=0→t.1.rat=lQ (wQ l) i→(fol (gB1 adA aeA l) id k i t).1.chk=0∧(fol (gB1 adA aeA l) id k i t).1.rat=lQ (wQ l) (i+k))
 | 0,i,t,h=>⟨h,fun q j=>⟨q,j⟩⟩
 | k+1,i,t,h=>by
  have e:fol (gB1 adA aeA l) id (k+1) i t=fol (gB1 adA aeA l) id k (i+1) (bif ieq t.2 0 then(adA t.1 (rw' (wA l i).2),aeA t.1 (rw' (wA l i).2))else t):=rfl;rw[e]at h ⊢;cases f:ieq t.2 0 with
  | false=>
   rw[f]at h;have:=(zNb k (i+1) h).1;rw[zf]at this;rw[yS this]at f;cases f
  | true=>
   rw[f]at h;rw[ze]at h ⊢;obtain⟨g1,g2⟩:=zNb k (i+1) h;refine⟨zV.1 f,fun q j=>?_⟩;have o:=yO (show aeA t.1 (rw' (wA l i).2)=0 from g1);have:=g2 o.2.2.2.2 (by refine o.2.2.2.1.trans ?_;rw[j];rfl)
   rwa[show i+1+k=i+(k+1)by omega]at this
theorem zBd{x y:Raw}(e:x.chk=0)(f:y.chk=0):yZ x y=0↔x.rat=y.rat:=
 ⟨fun h=>by
  have a:=(zUp e f).1 (show yZ x y≤0 by omega)
  have b:¬x.rat<y.rat:=fun k=>by have:=(qFm e f).2 k;omega
  grind,fun h=>by
  have a:yZ x y≤0:=(zUp e f).2 (by rw[h];exact Rat.le_refl)
  have b:¬yZ x y<0:=fun k=>by have:=(qFm e f).1 k;rw[h]at this;exact Rat.lt_irrefl this
  omega⟩
theorem qXa{l:List Wt}(h:bE l=0):lQ (wQ l) l.length=1:=by
 unfold bE bcE at h;cases k:Nat.beq l.length 0 with
 | true=>rw[k]at h;cases h
 | false=>
  rw[k,zf]at h;cases q:Nat.blt 4096 l.length with
  | true=>rw[q]at h;cases h
  | false=>
   rw[q,zf]at h;cases j:b0F Raw.chk l with
   | some e=>rw[j]at h;exact absurd h (zHc l.length 0 j)
   | none=>
    rw[j]at h;cases f:ieq (b1F adA aeA frA l).2 0 with
    | false=>rw[f]at h;have h:(b1F adA aeA frA l).2=0:=h;rw[yS h]at f;cases f
    | true=>
     rw[f]at h;cases w:ieq (yZ (b1F adA aeA frA l).1 (frA 1)) 0 with
     | false=>rw[w]at h;cases h
     | true=>
      obtain⟨_,g⟩:=zNb l.length 0 (t:=(frA 0,0)) (zV.1 f);obtain⟨g1,g2⟩:=g zNp zXz;rw[qc]at g2;rw[←g2,←zBj];exact(zBd g1 zNq).1 (zV.1 w)
theorem qZk{l:List Wt}{i:Nat}(h:gB l i= .inl ()):(wA l i).2.1=false:=by
 cases k:(wA l i).2.1 with
 | false=>rfl
 | true=>
  unfold gB gB0 at h;cases e:aO (wA l i).1 with
  | true=>rw[e]at h;cases h
  | false=>
   rw[e,zf]at h;cases f:(ilt 0 (.ofNat i)&&!ilt (cpP (wA l (i-1)).1 (wA l i).1) 0)with
   | true=>rw[f]at h;cases h
   | false=>
    rw[f,zf]at h;cases j:ieq (Raw.chk (rw' (wA l i).2)) 0 with
    | false=>rw[j]at h;cases h
    | true=>rw[j,k]at h;cases h
theorem qMc{l:List Wt}(h:bE l=0){i:Nat}(w:i<l.length):0<wQ l i:=by
 have g:=zXk h i w;obtain⟨_,k,q⟩:=zHe g;have f:=qZk g;obtain⟨_,_,j,_⟩:=Raw.chk_ok k;have y:0≤wQ l i:=zIp (x:=rw' (xW l i)) f;have e:wQ l i≠0:=by
  show(rw' (xW l i)).rat≠0;unfold Raw.rat;rw[show(rw' (xW l i)).neg=false from f,Rat.mkRat_ne_zero (Nat.pos_iff_ne_zero.1 (rw' (xW l i)).d_pos)];have:0<val (xW l i).2.1:=wZ j (ur.2 q);unfold sgn;simp only[k8,vu];omega
 grind
theorem qAs(h o t:List Int)(G:List Bd)(P D S:Int)(O U:List Nz)(C st V:Raw)(Z:Int)(F I:List (List Int)){L Y:Int}{l:List Wt}:∀(k i:Nat),fol (gEx jH lkP h o t G P D S O U C st V Z F I L Y l) (fun _=>none) k i ()=none→∀j,i≤j→j<i+k→ptO jH h o t G P D S O U C st V Z F I L Y l (j+1)=true
 | 0,i,_,j,f,q=>by omega
 | k+1,i,hh,j,f,q=>by
  simp only[fol,gEx]at hh;cases e:ptO jH h o t G P D S O U C st V Z F I L Y l (i+1)with
  | false=>rw[e]at hh;cases hh
  | true=>
   rw[e]at hh;rcases xo f with rfl | hlt
   ·exact e
   ·exact qAs h o t G P D S O U C st V Z F I k (i+1) hh j hlt (by omega)
theorem qAu{okD:List Rt→List Rt→Bool}{dR:List Rt→List Rt→Raw}{dP:List Rt→List Rt→Nat}{w f:Nat→Nat→Rt}{m:Nat}:∀(k b:Nat)(e:List Raw){x:List Raw},xpL okD dR dP w f m k b e= .inl x→x=e.reverse++(List.range' b k).map (fun j=>dR (rvF (w 0) m) (rvF (f j) m))∧∀j,b≤j→j<b+k→okD (rvF (w 0) m) (rvF (f j) m)=true
 | 0,b,e,x,h=>by cases h;exact⟨(jw _).symm,fun j _ _=>by omega⟩
 | k+1,b,e,x,h=>by
  simp only[xpL]at h;cases H:okD (rvF (w 0) m) (rvF (f b) m)with
  | false=>rw[H]at h;cases h
  | true=>
   rw[H]at h;obtain⟨q,y⟩:=qAu k (b+1) _ h;refine⟨by rw[q,uQ,qr,List.range'_succ];rfl,fun j z A=>?_⟩
   rcases xo z with rfl | hlt
   ·exact H
   ·exact y j hlt (by omega)
abbrev xDt(h o t:List Int)(G:List Bd)(P D S:Int)(O U:List Nz)(C st V:Raw)(Z:Int)(F I:List (List Int))(L:Int)(l:List Wt)(Y:Int)(b:Nat):Raw:=qI (rvF (xW l) (l.length-1)) (rvF (aL lkL h o t G P D S O U C st V Z F I L Y l b) (l.length-1))
structure aK(h o t:List Int)(G:List Bd)(P D S:Int)(O U:List Nz)(C st V:Raw)(Z:Int)(F I:List (List Int))(L:Int)(l:List Wt)(Y:Int):Prop where
 be:bE l=0
 pt:∀i,i<l.length→ptO jH h o t G P D S O U C st V Z F I L Y l i=true
 v:xpV h o t G P D S O U C st V Z F I L l Y=(List.range G.length).map fun b=>toT (xDt h o t G P D S O U C st V Z F I L l Y b)
 dt:∀b,b<G.length→zU (rvF (xW l) (l.length-1)) (rvF (aL lkL h o t G P D S O U C st V Z F I L Y l b) (l.length-1))=true
theorem qAw(h o t:List Int)(G:List Bd)(P D S:Int)(O U:List Nz)(C st V:Raw)(Z:Int)(F I:List (List Int)){L:Int}{l:List Wt}{Y:Int}(z:xpO h o t G P D S O U C st V Z F I L l Y=true):aK h o t G P D S O U C st V Z F I L l Y:=by
 have y:∀{r},xpR h o t G P D S O U C st V Z F I L l Y=r→isR r=true→aK h o t G P D S O U C st V Z F I L l Y:=fun{r}f hh=>by
  have w:=f;unfold xpR at f;cases j:ieq (bE l) 0 with
  | false=>rw[j]at f;subst f;cases hh
  | true=>
   cases k:ptO jH h o t G P D S O U C st V Z F I L Y l 0 with
   | false=>rw[j,k]at f;subst f;cases hh
   | true=>
    cases q:xpF jH lkP h o t G P D S O U C st V Z F I L Y l with
    | some e=>rw[j,k,q]at f;subst f;cases hh
    | none=>
     rw[j,k,q]at f;have f:xpL zU qI qX (fun _=>xW l) (aL lkL h o t G P D S O U C st V Z F I L Y l) (l.length-1) G.length 0 []=r:=f;cases r with
     | inr e=>cases hh
     | inl x=>
      obtain⟨g1,g2⟩:=qAu G.length 0 [] f;refine⟨zV.1 j,fun i A=>?_,?_,fun b hb=>g2 b (qq _) (by omega)⟩
      ·cases i with
       | zero=>exact k
       | succ i=>exact qAs h o t G P D S O U C st V Z F I (l.length-1) 0 q i (qq _) (by omega)
      ·unfold xpV;rw[w];show x.map toT=_;rw[g1,y3,j3,List.map_map,←List.range_eq_range'];rfl
 exact y rfl z
section
variable {h o t:List Int}{G:List Bd}{P D S:Int}{O U:List Nz}{C st V:Raw}{Z:Int}{F I:List (List Int)}
theorem aK.len{L:Int}{l:List Wt}{Y:Int}(e:aK h o t G P D S O U C st V Z F I L l Y):(xpV h o t G P D S O U C st V Z F I L l Y).length=G.length:=by rw[e.v,xi,List.length_range]
theorem aK.get{L:Int}{l:List Wt}{Y:Int}(e:aK h o t G P D S O U C st V Z F I L l Y){b:Nat}(hb:b<G.length):rI (xpV h o t G P D S O U C st V Z F I L l Y) b=toT (xDt h o t G P D S O U C st V Z F I L l Y b):=by
 rw[zWi (by rw[e.len];exact hb)]
 simp[e.v]
abbrev sQ(h o t:List Int)(G:List Bd)(P D S:Int)(O U:List Nz)(C st V:Raw)(Z:Int)(F I:List (List Int))(L:Int)(l:List Wt)(Y:Int)(b i:Nat):Rat:=(rw' (aL lkL h o t G P D S O U C st V Z F I L Y l b i)).rat
theorem aK.sum{L:Int}{l:List Wt}{Y:Int}(f:aK h o t G P D S O U C st V Z F I L l Y){b:Nat}(hb:b<G.length):(xDt h o t G P D S O U C st V Z F I L l Y b).chk=0∧(xDt h o t G P D S O U C st V Z F I L l Y b).rat=lQ (fun i=>wQ l i*sQ h o t G P D S O U C st V Z F I L l Y b i) l.length∧∀i,i<l.length→(rw' (aL lkL h o t G P D S O U C st V Z F I L Y l b i)).chk=0:=by
 have w:=(zGl f.be).1;obtain⟨q,j,k⟩:=jGg (f.dt b hb);have em:l.length-1+1=l.length:=by omega
 rw[gT,em]at j k;refine⟨q,j.trans (gY _ fun i e=>?_),fun i e=>?_⟩
 ·show(rw' (rI _ i)).rat*(rw' (rI _ i)).rat=_;rw[zTd (by omega),zTd (by omega)]
 ·have:=(k i e).2;rwa[show xI (rvF (aL lkL h o t G P D S O U C st V Z F I L Y l b) (l.length-1)) i=rw' (rI (rvF (aL lkL h o t G P D S O U C st V Z F I L Y l b) (l.length-1)) i)from rfl,zTd (by omega)]at this
end
def gLo(m:Nat)(q:List (List Int))(i:Nat)(_:Unit):Unit⊕Bool:=bif ilt (.ofNat m) (.ofNat (gI q i).length)then .inr true else .inl ()
def loF(m:Nat)(q:List (List Int)):Bool:=fol (gLo m q) (fun _=>false) q.length 0 ()
def zZo(x:Nat)(C st V:Raw)(F I:List (List Int)):Bool→Ex×Hs
 | true=>(.r,⟨[.v (.bool true)],[],[[],[]]⟩)
 | false=>(.x x,xLo C st V F I)
theorem jGu(C st V:Raw)(F I:List (List Int))(j:F.length<9223372036854775807):lpF (zMu (odT []) (loT [])) F.length (iLo 0 C st V F I)=some (zZo 0 C st V F I (loF 10 F)):=
 jM (st:=zMu (odT []) (loT [])) (iv:=fun i(_:Unit)=>iLo i C st V F I) (g:=gLo 10 F) (d:=fun _=>false) (out:=zZo 0 C st V F I) (n:=F.length) (fun _ _=>True)
  (fun i _ f _=>by
   refine(sLo0 ..).trans ?_;unfold gLo;have e:ilt (.ofNat i) (.ofNat F.length)=true:=zP f;rw[e,ze,zP f,xC (show i+1<9223372036854775808 by omega)]
   cases ilt (.ofNat 10) (.ofNat (gI F i).length)<;>rfl)
  (fun _ _ _ _ _ _=>trivial)
  (fun _ _=>by
   refine(sLo0 ..).trans ?_;have e:ilt (.ofNat F.length) (.ofNat F.length)=false:=yC (z6 _);rw[e];rfl) F.length 0 () (by omega) trivial
def qUd(F I:List (List Int)):List T→DT (Ex×Hs)
 | [.v (.bool e),.ls .a .lim C,.ls .a .lim f,.v (.bool w),.ls .a .lim sl,.ls .a .lim y,.v (.bool j),.ls .a .lim k,.ls .a .lim q]=>grd (Nat.blt F.length 9223372036854775807) (.ite (loF 10 F) (.ret (.r,⟨[.v (.bool true)],[],[[],[]]⟩)) (.ret (.x 0,xLo ⟨e,C,f⟩ ⟨w,sl,y⟩ ⟨j,k,q⟩ F I)))
 | _=> .no
def qZw:Hs→DT (Ex×Hs)
 | ⟨[.v (.int .i64 (.ofNat 0))],[],[[.ls .a (.list (.int .i64)) F,.ls .a (.list (.int .i64)) I],e]⟩=>qUd F I e
 | _=> .no
theorem qOw:∀q y,(qZw q).run=some y→∃n,It (zMu (odT []) (loT [])) n q y:=fun q y hh=>by
 unfold qZw at hh;split at hh
 ·rename_i F I H;unfold qUd at hh;split at hh
  ·rename_i f C j B sl E w z A;obtain⟨k,e⟩:=zT hh;have:=xM _ _ (jGu ⟨f,C,j⟩ ⟨B,sl,E⟩ ⟨w,z,A⟩ F I (jV k));cases hb:loF 10 F<;>rw[hb]at this<;>simp only[DT.run,hb,ze,zf]at e<;>cases e<;>exact this
  ·cases hh
 ·cases hh
theorem jGv(C st V:Raw)(F I:List (List Int))(j:I.length<9223372036854775807):lpF (zMv (odT []) (loT [])) I.length (iLo 0 C st V F I)=some (zZo 2 C st V F I (loF 300 I)):=
 jM (st:=zMv (odT []) (loT [])) (iv:=fun i(_:Unit)=>iLo i C st V F I) (g:=gLo 300 I) (d:=fun _=>false) (out:=zZo 2 C st V F I) (n:=I.length) (fun _ _=>True)
  (fun i _ f _=>by
   refine(sLo1 ..).trans ?_;unfold gLo;have e:ilt (.ofNat i) (.ofNat I.length)=true:=zP f;rw[e,ze,zP f,xC (show i+1<9223372036854775808 by omega)]
   cases ilt (.ofNat 300) (.ofNat (gI I i).length)<;>rfl)
  (fun _ _ _ _ _ _=>trivial)
  (fun _ _=>by
   refine(sLo1 ..).trans ?_;have e:ilt (.ofNat I.length) (.ofNat I.length)=false:=yC (z6 _);rw[e];rfl) I.length 0 () (by omega) trivial
def qUe(F I:List (List Int)):List T→DT (Ex×Hs)
 | [.v (.bool e),.ls .a .lim C,.ls .a .lim f,.v (.bool w),.ls .a .lim sl,.ls .a .lim y,.v (.bool j),.ls .a .lim k,.ls .a .lim q]=>grd (Nat.blt I.length 9223372036854775807) (.ite (loF 300 I) (.ret (.r,⟨[.v (.bool true)],[],[[],[]]⟩)) (.ret (.x 2,xLo ⟨e,C,f⟩ ⟨w,sl,y⟩ ⟨j,k,q⟩ F I)))
 | _=> .no
def qZx:Hs→DT (Ex×Hs)
 | ⟨[.v (.int .i64 (.ofNat 0))],[],[[.ls .a (.list (.int .i64)) F,.ls .a (.list (.int .i64)) I],e]⟩=>qUe F I e
 | _=> .no
theorem qOx:∀q y,(qZx q).run=some y→∃n,It (zMv (odT []) (loT [])) n q y:=fun q y hh=>by
 unfold qZx at hh;split at hh
 ·rename_i F I H;unfold qUe at hh;split at hh
  ·rename_i f C j B sl E w z A;obtain⟨k,e⟩:=zT hh;have:=xM _ _ (jGv ⟨f,C,j⟩ ⟨B,sl,E⟩ ⟨w,z,A⟩ F I (jV k));cases hb:loF 300 I<;>rw[hb]at this<;>simp only[DT.run,hb,ze,zf]at e<;>cases e<;>exact this
  ·cases hh
 ·cases hh
abbrev LLo:Lo:=loT [(13,[false,true,false,true,true,true],Llo0.row qZw),(13,[false,true,false,true,true,true,true],Llo1.row qZx)]
theorem jBl:vJ Tryz.prog LLo:=jP (jP qA gP qMx qOx) gP qMw qOw
theorem jGh(fW:List Rt→Bool)(h o t:List Int)(G:List Bd)(P D S:Int)(O U:List Nz)(C st V:Raw)(Z:Int)(F I:List (List Int)):((qF Tryz.prog (evD Tryz.prog (odT [(65,odR [.list zL] (oWd fW))]) (LLo) 60) 13 [.ag (tbC h o t G P D S O U C st V Z F I)] []).bind qJ).run=bif ilt (.ofNat 40) (.ofNat h.length)then yB true else(bif ilt (.ofNat 40) (.ofNat o.length)then yB true else(bif ilt (.ofNat 40) (.ofNat t.length)then yB true else(bif ilt (.ofNat 10) (.ofNat G.length)then yB true else(bif ilt (.ofNat 8) (.ofNat O.length)then yB true else(bif ilt (.ofNat 8) (.ofNat U.length)then yB true else(bif ilt (.ofNat 5000) (.ofNat F.length)then yB true else(bif ilt (.ofNat 30) (.ofNat I.length)then yB true else(gd (Nat.blt F.length 9223372036854775807) (bif loF 10 F then yB true else gd (Nat.blt I.length 9223372036854775807) (bif loF 300 I then yB true else yB (fW [toT C,toT st,toT V]))))))))))):=by kernel_rfl
def lgT(h o t:List Int)(G:List Bd)(P D S:Int)(O U:List Nz)(C st V:Raw)(Z:Int)(F I:List (List Int)):Bool:=bif ilt (.ofNat 40) (.ofNat h.length)then true else(bif ilt (.ofNat 40) (.ofNat o.length)then true else(bif ilt (.ofNat 40) (.ofNat t.length)then true else(bif ilt (.ofNat 10) (.ofNat G.length)then true else(bif ilt (.ofNat 8) (.ofNat O.length)then true else(bif ilt (.ofNat 8) (.ofNat U.length)then true else(bif ilt (.ofNat 5000) (.ofNat F.length)then true else(bif ilt (.ofNat 30) (.ofNat I.length)then true else(bif loF 10 F then true else(bif loF 300 I then true else wdZ [toT C,toT st,toT V])))))))))
theorem jBh(h o t:List Int)(G:List Bd)(P D S:Int)(O U:List Nz)(C st V:Raw)(Z:Int)(F I:List (List Int))(f:F.length<9223372036854775807)(e:I.length<9223372036854775807):((qF Tryz.prog (evD Tryz.prog (odT [(65,odR [.list zL] (oWd wdZ))]) (LLo) 60) 13 [.ag (tbC h o t G P D S O U C st V Z F I)] []).bind qJ).run=yB (lgT h o t G P D S O U C st V Z F I):=by
 rw[jGh,zP f,zP e];unfold lgT;cases ilt (.ofNat 40) (.ofNat h.length)
 rotate_left
 ·rfl
 cases ilt (.ofNat 40) (.ofNat o.length)
 rotate_left
 ·rfl
 cases ilt (.ofNat 40) (.ofNat t.length)
 rotate_left
 ·rfl
 cases ilt (.ofNat 10) (.ofNat G.length)
 rotate_left
 ·rfl
 cases ilt (.ofNat 8) (.ofNat O.length)
 rotate_left
 ·rfl
 cases ilt (.ofNat 8) (.ofNat U.length)
 rotate_left
 ·rfl
 cases ilt (.ofNat 5000) (.ofNat F.length)
 rotate_left
 ·rfl
 cases ilt (.ofNat 30) (.ofNat I.length)
 rotate_left
 ·rfl
 cases loF 10 F
 rotate_left
 ·rfl
 cases loF 300 I<;>rfl
def qIv(fT:TF Bool):List T→DT (T×Bool)
 | [.ag [.ls .a (.int .i64) h,.ls .a (.int .i64) o,.ls .a (.int .i64) t,.ls .a (.prod (.int .u8) (.prod (.int .i64) (.int .i64))) G,.v (.int .i64 P),.v (.int .i64 D),.v (.int .i64 S),.ls .a (.prod (.int .i64) zL) O,.ls .a (.prod (.int .i64) zL) U,.v (.bool e),.ls .a .lim C,.ls .a .lim f,.v (.bool w),.ls .a .lim sl,.ls .a .lim y,.v (.bool j),.ls .a .lim k,.ls .a .lim q,.v (.int .i64 Z),.ls .a (.list (.int .i64)) F,.ls .a (.list (.int .i64)) I]]=>grd (Nat.blt F.length 9223372036854775807&&Nat.blt I.length 9223372036854775807) (.ret (.v (.bool (fT h o t G P D S O U ⟨e,C,f⟩ ⟨w,sl,y⟩ ⟨j,k,q⟩ Z F I)),true))
 | _=> .no
theorem jCk:wC Tryz.prog (odT [(65,odR [.list zL] (oWd wdZ))]):=zS jZ (jI kWd)
theorem kLgT:∀e q j,(qIv lgT e).run=some (q,j)→∀k,KnP Tryz.prog k 13 e q j:=by
 intro e q j hh k;unfold qIv at hh;split at hh
 ·rename_i h o t G P D S O U w C y E sl H z A B Z F I;obtain⟨f,J⟩:=zT hh;simp only[zd]at f;cases J;exact yN (cz:=[.ag (tbC h o t G P D S O U ⟨w,C,y⟩ ⟨E,sl,H⟩ ⟨z,A,B⟩ Z F I)]) yL jCk jBl (jBh h o t G P D S O U ⟨w,C,y⟩ ⟨E,sl,H⟩ ⟨z,A,B⟩ Z F I (jV f.1) (jV f.2)) rfl k
 ·cases hh
theorem zUo{a b:Int}(h:a<b):cmI a b= -1:=by unfold cmI;rw[mZ h];rfl
theorem zUn{a:Int}:cmI a a=0:=by unfold cmI;rw[zYe (ki a)];rfl
theorem cp_t{p q:Pt}(e:leP p q=true):ilt (cpP p q) 0=true:=by
 obtain⟨a,b,c⟩:=p;obtain⟨f,j,k⟩:=q;show ilt (bif !ieq (cmI a f) 0 then cmI a f else(bif !ieq (cmI b j) 0 then cmI b j else(bif !ieq (cmI c k) 0 then cmI c k else 0))) 0=true;rcases nR.1 e with h | ⟨rfl,h | ⟨rfl,h⟩⟩
 ·rw[zUo h];rfl
 ·rw[zUn,zUo h];rfl
 ·rw[zUn,zUn,zUo h];rfl
theorem zZu{x:Raw}(h:x.ln=[]):x.rat=0:=by
 unfold Raw.rat;rw[h,show sgn x.neg (val [])=0 by unfold sgn;split<;>rfl,ux]
theorem zHt {k : Nat} {a b : List Wt} (A : a.length + b.length ≤ k + 1) (ha : Asc a) (hb : Asc b) :
  (a = [] ∧ b = [] ∧ mgP (k + 1) a b = []) ∨ (∃ x e, a = x :: e ∧ (∀ y ∈ b, leP x.1 y.1 = true) ∧ e.length + b.length ≤ k ∧ mgP (k + 1) a b = x.1 :: mgP k e b) ∨
  (∃ y f, b = y :: f ∧ (∀ x ∈ a, leP y.1 x.1 = true) ∧ a.length + f.length ≤ k ∧ mgP (k + 1) a b = y.1 :: mgP k a f) ∨ (∃ x e y f, a = x :: e ∧ b = y :: f ∧ x.1 = y.1 ∧ e.length + f.length ≤ k ∧ mgP (k + 1) a b = x.1 :: mgP k e f) := by
 cases a with
 | nil => cases b with
  | nil => exact .inl ⟨rfl, rfl, rfl⟩
  | cons y b => exact .inr (.inr (.inl ⟨y, b, rfl, fun x B => (by cases B), by simp only [z8, j9] at A ⊢; omega, rfl⟩))
 | cons x a => cases b with
  | nil => exact .inr (.inl ⟨x, a, rfl, fun y E => (by cases E), by simp only [z8, j9] at A ⊢; omega, rfl⟩)
  | cons y b =>
   simp only [z8] at A
   cases q : leP x.1 y.1 with
   | true => exact .inr (.inl ⟨x, a, rfl, fun z j => by
     rcases qS.1 j with rfl | j
     ·exact q
     ·exact zDo q (hb.1 z j), by simp only [z8]; omega, by simp only [mgP, mg1, q, ze]⟩)
   | false =>
    cases w : leP y.1 x.1 with
    | true => exact .inr (.inr (.inl ⟨y, b, rfl, fun z j => by
      rcases qS.1 j with rfl | j
      ·exact w
      ·exact zDo w (ha.1 z j), by simp only [z8]; omega, by simp only [mgP, mg1, q, w, ze, zf]⟩))
    | false => exact .inr (.inr (.inr ⟨x, a, y, b, rfl, rfl, qPo q w, by omega, by simp only [mgP, mg1, q, w, zf]⟩))
theorem pG:∀(k:Nat){a b:List Wt}{p:Pt},a.length+b.length≤k→Asc a→Asc b→(p∈mgP k a b↔(∃x∈a,x.1=p)∨∃y∈b,y.1=p)
 | 0,a,b,p,j,_,_=>by
  have A:a=[]:=zy (by omega)
  have B:b=[]:=zy (by omega)
  subst A B;exact⟨fun h=>(by cases h),fun h=>by rcases h with⟨x,q,_⟩ | ⟨x,q,_⟩<;>cases q⟩
 | k+1,a,b,p,j,ha,hb=>by
  rcases zHt j ha hb with⟨rfl,rfl,e⟩ | ⟨x,w,rfl,_,f,e⟩ | ⟨y,z,rfl,_,f,e⟩ | ⟨x,w,y,z,rfl,rfl,H,f,e⟩
  ·rw[e];simp
  ·rw[e,qS,pG k f ha.2 hb];simp only[qS,fe]
   grind
  ·rw[e,qS,pG k f ha hb.2];simp only[qS,fe]
   grind
  ·rw[e,qS,pG k f ha.2 hb.2];simp only[qS,fe]
   grind
theorem zOh:∀(k:Nat){a b:List Wt},a.length+b.length≤k→Asc a→Asc b→(mgP k a b).Pairwise fun p q=>leP p q=true
 | 0,a,b,A,_,_=> .nil
 | k+1,a,b,A,ha,hb=>by
  rcases zHt A ha hb with⟨rfl,rfl,e⟩ | ⟨x,B,rfl,w,j,e⟩ | ⟨y,E,rfl,w,j,e⟩ | ⟨x,B,y,E,rfl,rfl,H,j,e⟩
  ·rw[e];exact .nil
  ·rw[e];refine .cons (fun q H=>?_) (zOh k j ha.2 hb);rcases(pG k j ha.2 hb).1 H with⟨z,f,rfl⟩ | ⟨z,f,rfl⟩
   ·exact ha.1 z f
   ·exact w z f
  ·rw[e];refine .cons (fun q H=>?_) (zOh k j ha hb.2);rcases(pG k j ha hb.2).1 H with⟨z,f,rfl⟩ | ⟨z,f,rfl⟩
   ·exact w z f
   ·exact hb.1 z f
  ·rw[e];refine .cons (fun q hh=>?_) (zOh k j ha.2 hb.2);rcases(pG k j ha.2 hb.2).1 hh with⟨z,f,rfl⟩ | ⟨z,f,rfl⟩
   ·exact ha.1 z f
   ·rw[H];exact hb.1 z f
def mxQ(g:Pt→Raw⊕Int):List Pt→List Wt
 | []=>[]
 | p::e=>match g p with
  | .inl t=>bif ilt 0 (.ofNat t.ln.length)then(p,toT t)::mxQ g e else mxQ g e
  | .inr _=>[]
theorem zYv{g:Pt→Raw⊕Int}:∀(f:List Pt)(o r:List Wt),mxL g f o= .inl r→r=(mxQ g f).reverse++o∧∀p∈f,∃t,g p= .inl t
 | [],o,r,h=>by cases h;exact⟨rfl,fun p hp=>(by cases hp)⟩
 | p::f,o,r,h=>by
  simp only[mxL]at h;cases e:g p with
  | inr x=>rw[e]at h;cases h
  | inl t=>
   rw[e]at h;obtain⟨j,k⟩:=zYv f _ _ h;refine⟨?_,fun q H=>?_⟩
   ·rw[j];simp only[mxQ,e];cases ilt 0 (.ofNat t.ln.length)<;>simp
   ·rcases qS.1 H with rfl | H
    ·exact⟨t,e⟩
    ·exact k q H
theorem zFy{g:Pt→Raw⊕Int}{x:Wt}:∀f:List Pt,x∈mxQ g f→x.1∈f∧∃t,g x.1= .inl t∧x.2=toT t∧t.ln≠[]
 | [],h=>by cases h
 | p::f,h=>by
  simp only[mxQ]at h;cases e:g p with
  | inr y=>rw[e]at h;cases h
  | inl t=>
   rw[e]at h;simp only at h;cases j:ilt 0 (.ofNat t.ln.length)with
   | false=>rw[j]at h;obtain⟨q,w⟩:=zFy f h;exact⟨zu _ q,w⟩
   | true=>
    rw[j]at h;rcases qS.1 h with rfl | h
    ·exact⟨zq,t,e,rfl,fun k=>by rw[k]at j;cases j⟩
    ·obtain⟨q,w⟩:=zFy f h;exact⟨zu _ q,w⟩
theorem qIo{g:Pt→Raw⊕Int}{p:Pt}{t:Raw}(j:g p= .inl t)(ht:t.ln≠[]):∀e:List Pt,(∀q∈e,∃t,g q= .inl t)→p∈e→(p,toT t)∈mxQ g e
 | [],_,h=>by cases h
 | q::e,ha,h=>by
  obtain⟨s,f⟩:=ha q zq;simp only[mxQ,f];rcases qS.1 h with rfl | h
  ·rw[j]at f;cases f;have:0<t.ln.length:=ur.2 ht;rw[mZ (show(0:Int)<.ofNat t.ln.length by simpa using this)]
   exact zq
  ·have:=qIo j ht e (fun q H=>ha q (zu _ H)) h;cases ilt 0 (.ofNat s.ln.length)with
   | false=>exact this
   | true=>exact zu _ this
theorem zOi{g:Pt→Raw⊕Int}:∀f:List Pt,f.Pairwise (fun p q=>leP p q=true)→Asc (mxQ g f)
 | [],_=>trivial
 | p::f,h=>by
  cases h with
  | cons k j=>
   simp only[mxQ];cases e:g p with
   | inr y=>trivial
   | inl t=>
    simp only;cases ilt 0 (.ofNat t.ln.length)with
    | false=>exact zOi f j
    | true=>exact⟨fun y w=>k _ (zFy f w).1,zOi f j⟩
def sumL(f:Pt→Rat):List Wt→Rat
 | []=>0
 | x::l=>f x.1*(rw' x.2).rat+sumL f l
theorem zMk(g:Nat→Rat):∀m,lQ g (m+1)=g 0+lQ (fun i=>g (i+1)) m
 | 0=>by show 0+g 0=g 0+0;grind
 | m+1=>by show lQ g (m+1)+g (m+1)=g 0+(lQ (fun i=>g (i+1)) m+g (m+1));rw[zMk g m];grind
theorem aJ(f:Pt→Rat):∀l:List Wt,lQ (fun i=>wQ l i*f (wA l i).1) l.length=sumL f l
 | []=>rfl
 | x::l=>by
  rw[z8,zMk,show lQ (fun i=>wQ (x::l) (i+1)*f (wA (x::l) (i+1)).1) l.length=sumL f l from aJ f l];show(rw' x.2).rat*f x.1+_=f x.1*(rw' x.2).rat+_;rw[Rat.mul_comm]
theorem zOj{g:Pt→Raw⊕Int}{f:Pt→Rat}{w v:Rat}:∀(k:Nat){a b:List Wt},a.length+b.length≤k→Asc a→Asc b→(∀p∈mgP k a b,∃t,g p= .inl t∧t.rat=w*(rw' (wt p a)).rat+v*(rw' (wt p b)).rat)→sumL f (mxQ g (mgP k a b))=w*sumL f a+v*sumL f b
 | 0,a,b,hk,_,_,_=>by
  have B:a=[]:=zy (by omega)
  have E:b=[]:=zy (by omega)
  subst B E;show(0:Rat)=w*0+v*0;grind
 | k+1,a,b,hk,ha,hb,A=>by
  have out:∀{p:Pt}{t:Raw}{X:List Pt},g p= .inl t→sumL f (mxQ g (p::X))=f p*t.rat+sumL f (mxQ g X):=fun{p t X}e=>by
   simp only[mxQ,e];cases j:ilt 0 (.ofNat t.ln.length)with
   | true=>rfl
   | false=>
    have:t.ln=[]:=by
     rcases jg t.ln.length with h | h
     ·exact zy h
     ·rw[mZ (show(0:Int)<.ofNat t.ln.length by simpa using h)]at j;cases j
    rw[zZu this];simp only[zf];grind
  have z:(rw' (false,[],[])).rat=0:=zPa;have K:∀{x:Wt}{l:List Wt}{p:Pt},(∀y∈l,p≠y.1)→(rw' (wt p l)).rat=0:=fun{x l p}h=>by rw[qMg h];exact z
  have T:∀{x:Wt}{l:List Wt}{p:Pt},p≠x.1→wt p (x::l)=wt p l:=fun{x l p}h=>by
   show(bif keq pT p x.1 then x.2 else wt p l)=_;rw[zLn h];rfl
  rcases zHt hk ha hb with⟨rfl,rfl,e⟩ | ⟨x,W,rfl,J,j,e⟩ | ⟨y,Q,rfl,J,j,e⟩ | ⟨x,W,y,Q,rfl,rfl,H,j,e⟩
  ·rw[e];show(0:Rat)=w*0+v*0;grind
  ·rw[e]at A ⊢;obtain⟨t,B,E⟩:=A x.1 zq;rw[out B,zOj k j ha.2 hb fun p hp=>by
    obtain⟨s,M,N⟩:=A p (zu _ hp);refine⟨s,M,?_⟩;rwa[T (by
     rcases(pG k j ha.2 hb).1 hp with⟨q,H,rfl⟩ | ⟨q,H,rfl⟩
     ·exact(pF (ha.1 q H)).symm
     ·exact(pF (J q H)).symm)]at N]
   rw[E,zMq ha zq,K (x:=x) fun y hy=>pF (J y hy)];show _=w*(f x.1*(rw' x.2).rat+sumL f W)+_;grind
  ·rw[e]at A ⊢;obtain⟨t,B,E⟩:=A y.1 zq;rw[out B,zOj k j ha hb.2 fun p hp=>by
    obtain⟨s,M,N⟩:=A p (zu _ hp);refine⟨s,M,?_⟩;rwa[T (x:=y) (by
     rcases(pG k j ha hb.2).1 hp with⟨q,H,rfl⟩ | ⟨q,H,rfl⟩
     ·exact(pF (J q H)).symm
     ·exact(pF (hb.1 q H)).symm)]at N]
   rw[E,zMq hb zq,K (x:=y) fun x R=>pF (J x R)];show _=_+v*(f y.1*(rw' y.2).rat+sumL f Q);grind
  ·rw[e]at A ⊢;obtain⟨t,B,E⟩:=A x.1 zq;rw[out B,zOj k j ha.2 hb.2 fun p hp=>by
    obtain⟨s,M,N⟩:=A p (zu _ hp);refine⟨s,M,?_⟩;have R:p≠x.1:=by
     rcases(pG k j ha.2 hb.2).1 hp with⟨q,hh,rfl⟩ | ⟨q,hh,rfl⟩
     ·exact(pF (ha.1 q hh)).symm
     ·rw[H];exact(pF (hb.1 q hh)).symm
    rwa[T R,T (x:=y) (by rw[←H];exact R)]at N]
   rw[E,zMq ha zq,show wt x.1 (y::Q)=y.2 by rw[H];exact zMq hb zq]
   show _=w*(f x.1*(rw' x.2).rat+sumL f W)+v*(f y.1*(rw' y.2).rat+sumL f Q);rw[H];grind
theorem qZl{l:List Wt}{i:Nat}(h:gB l i= .inl ()):aO (wA l i).1=false:=by
 cases e:aO (wA l i).1 with
 | false=>rfl
 | true=>unfold gB gB0 at h;rw[e]at h;cases h
theorem jGi{l:List Wt}{i:Nat}(k:aO (wA l i).1=false)(q:0<i→leP (wA l (i-1)).1 (wA l i).1=true)(w:(rw' (wA l i).2).chk=0)(y:(wA l i).2.1=false)(z:(wA l i).2.2.1≠[]):gB l i= .inl ():=by
 have f:(ilt 0 (.ofNat i)&&!ilt (cpP (wA l (i-1)).1 (wA l i).1) 0)=false:=by
  cases i with
  | zero=>rfl
  | succ i=>rw[cp_t (q (uo i)),qb,Bool.and_false]
 have j:ieq (.ofNat (wA l i).2.2.1.length) 0=false:=zHi fun e=>z (zy (gA e));unfold gB gB0;rw[k,f,yS w,y,j];rfl
theorem zXj{l:List Wt}(h:∀i,i<l.length→gB l i= .inl ()):∀k i,i+k=l.length→fol (gB0 Raw.chk l) (fun _=>none) k i ()=none
 | 0,i,_=>rfl
 | k+1,i,e=>by
  simp only[fol];rw[show gB0 Raw.chk l i ()= .inl ()from h i (by omega)]
  exact zXj h k (i+1) (by omega)
theorem qEt{l:List Wt}(f:∀i,i<l.length→(rw' (wA l i).2).chk=0):∀(k i:Nat){t:Raw×Int},i+k=l.length→(t.2=4∨t.2=0∧t.1.chk=0)→(fol (gB1 adA aeA l) id k i t).2=4∨(fol (gB1 adA aeA l) id k i t).2=0∧(fol (gB1 adA aeA l) id k i t).1.chk=0
 | 0,_,_,_,h=>h
 | k+1,i,t,e,h=>by
  show(fol (gB1 adA aeA l) id k (i+1) (bif ieq t.2 0 then(adA t.1 (rw' (wA l i).2),aeA t.1 (rw' (wA l i).2))else t)).2=4∨(fol (gB1 adA aeA l) id k (i+1) (bif ieq t.2 0 then(adA t.1 (rw' (wA l i).2),aeA t.1 (rw' (wA l i).2))else t)).2=0∧_;refine qEt f k (i+1) (by omega) ?_
  rcases h with h | ⟨j,q⟩
  ·rw[zHi (show t.2≠0 by omega)];exact .inl h
  ·rw[yS j];rcases tL q (f i (by omega)) (t.1.rat+(rw' (wA l i).2).rat)with g | g
   ·exact .inr ⟨g,(yO g).2.2.2.2⟩
   ·exact .inl g
theorem jGc{m:List Wt}(j:m≠[])(f:∀i,i<m.length→gB m i= .inl ())(y:lQ (wQ m) m.length=1):bE m=0∨bE m=4:=by
 unfold bE bcE;rw[qEx (fun e=>j (zy e):m.length≠0)];cases Nat.blt 4096 m.length with
 | true=>exact .inr rfl
 | false=>
  rw[show b0F Raw.chk m=none from zXj f m.length 0 (qc _)];have q:∀i,i<m.length→(rw' (wA m i).2).chk=0:=fun i w=>(zHe (f i w)).2.1;rcases qEt q m.length 0 (t:=(frA 0,0)) (qc _) (.inr ⟨rfl,zNp⟩)with g | ⟨g1,g2⟩
  ·have g:(b1F adA aeA frA m).2=4:=g;rw[g];exact .inr rfl
  ·have k:=((zNb m.length 0 g1).2 zNp zXz).2;rw[qc,y]at k;have g1:(b1F adA aeA frA m).2=0:=g1;have g3:yZ (b1F adA aeA frA m).1 (frA 1)=0:=(zBd g2 zNq).2 (by rw[zBj];exact k)
   rw[g1,g3];exact .inl rfl
theorem qEr:∀{l:List Wt}{i:Nat},Asc l→i+1<l.length→leP (wA l i).1 (wA l (i+1)).1=true
 | x::y::l,0,h,_=>h.1 y zq
 | x::l,i+1,h,e=>qEr (l:=l) h.2 (by simpa using e)
theorem jBr{w v t:Raw}{g:Rt×Rt}(h:m3A w v g= .inl t):t.chk=0:=by
 unfold m3A m3F at h;cases e:ieq (meA w (rw' g.1)) 0 with
 | false=>rw[e]at h;cases h
 | true=>
  cases f:ieq (meA v (rw' g.2)) 0 with
  | false=>rw[e,f]at h;cases h
  | true=>
   cases j:ieq (aeA (muA w (rw' g.1)) (muA v (rw' g.2))) 0 with
   | false=>rw[e,f,j]at h;cases h
   | true=>rw[e,f,j]at h;cases h;exact(yO (zV.1 j)).2.2.2.2
theorem jCo{q:Rat}(h:0≤q):(Raw.of q).neg=false:=wn (by have:=Rat.num_nonneg.2 h;omega)
structure zKo(a b:List Wt)(w:Raw)(m:List Wt):Prop where
 ba:bE a=0
 bb:bE b=0
 wc:w.chk=0
 w0:0≤w.rat
 w1:w.rat≤1
 ve:seA (frA 1) w=0
 mem:∀x∈m,(∃y∈a,y.1=x.1)∨∃y∈b,y.1=x.1
 supA:0<w.rat→∀y∈a,∃x∈m,x.1=y.1
 supB:w.rat<1→∀y∈b,∃x∈m,x.1=y.1
 sum:∀f,sumL f m=w.rat*sumL f a+(1-w.rat)*sumL f b
 be:bE m=0∨bE m=4
theorem qAr{l:List Wt}(h:bE l=0)(p:Pt):0≤(rw' (wt p l)).rat:=by
 rcases qMf p l with e | ⟨x,q,e⟩
 ·rw[e];show 0≤r0.rat;rw[zPa];exact Rat.le_refl
 ·obtain⟨j,f⟩:=qz q;have hlt:=(zh.1 f).1;have:=qMc h hlt;have k:wA l j=x:=by rw[gZ hlt];exact(zh.1 f).2
  have:0<(rw' (wA l j).2).rat:=this;rw[k]at this;rw[e];grind
theorem qMh{l:List Wt}(h:bE l=0)(ha:Asc l){x:Wt}(f:x∈l):0<(rw' (wt x.1 l)).rat:=by
 obtain⟨j,e⟩:=qz f;have hlt:=(zh.1 e).1;have:0<(rw' (wA l j).2).rat:=qMc h hlt;rw[show wA l j=x by rw[gZ hlt];exact(zh.1 e).2]at this
 rwa[zMq ha f]
theorem zZq{l:List Wt}(h:bE l=0){x:Wt}(f:x∈l):aO x.1=false:=by
 obtain⟨j,e⟩:=qz f;have hlt:=(zh.1 e).1;have:=qZl (zXk h j hlt);rwa[show wA l j=x by rw[gZ hlt];exact(zh.1 e).2]at this
theorem qAk{l:List Wt}(h:bE l=0):sumL (fun _=>1) l=1:=by
 rw[←aJ];exact(gY _ fun i _=>Rat.mul_one _).trans (qXa h)
theorem jBy{a b o:List Wt}{w:Raw}(wa:okW a)(wb:okW b)(h:mxA a b w= .inl o):zKo a b w o.reverse:=by
 unfold mxA mxS at h;cases z:ieq (bE a) 0 with
 | false=>rw[z]at h;cases h
 | true=>
 cases H:ieq (bE b) 0 with
 | false=>rw[z,H]at h;cases h
 | true=>
 cases J:ieq w.chk 0 with
 | false=>rw[z,H,J]at h;cases h
 | true=>
 cases Q:w.neg with
 | true=>rw[z,H,J,Q]at h;cases h
 | false=>
 cases R:ilt 0 (yZ w (frA 1))with
 | true=>rw[z,H,J,Q,R]at h;cases h
 | false=>
 cases e6:ieq (seA (frA 1) w) 0 with
 | false=>rw[z,H,J,Q,R,e6]at h;cases h
 | true=>
  rw[z,H,J,Q,R,e6]at h;have h:mxF adA muA aeA meA w (suA (frA 1) w) (fm1 b (fm0 a [])) (ptF a b)= .inl o:=h;have ha:=zV.1 z;have hb:=zV.1 H;have M:=qEw ha wa;have N:=qEw hb wb;have hv:(suA (frA 1) w).rat=1-w.rat:=(yO (zV.1 e6)).2.2.2.1.trans (by rw[zBj])
  have w0:0≤w.rat:=zIp Q;have w1:w.rat≤1:=by
   have:yZ w (frA 1)≤0:=dm.1 fun k=>by rw[mZ k]at R;cases R
   have:=(zUp (zV.1 J) zNq).1 this;rwa[zBj]at this
  rw[qIl]at h;obtain⟨q1,q2⟩:=zYv _ _ _ h;rw[jw]at q1;have hk:a.length+b.length≤a.length+b.length:=z6 _;have hg:∀p t,m3A w (suA (frA 1) w) (jN pT z0 p (fm1 b (fm0 a [])))= .inl t→t=Raw.of (w.rat*(rw' (wt p a)).rat+(1-w.rat)*(rw' (wt p b)).rat)∧t.chk=0:=fun p t e=>by
   have k:=jBs e;rw[jBw M.asc N.asc,hv]at k;exact⟨k,jBr e⟩
  have B:∀f,sumL f o.reverse=w.rat*sumL f a+(1-w.rat)*sumL f b:=fun f=>by
   rw[q1,kf];refine zOj (a.length+b.length) hk M.asc N.asc fun p hp=>?_;obtain⟨t,ht⟩:=q2 p hp;exact⟨t,ht,by rw[(hg p t ht).1,Raw.of_rat]⟩
  have A:∀x∈o.reverse,((∃y∈a,y.1=x.1)∨∃y∈b,y.1=x.1)∧∃t:Raw,t.chk=0∧t.neg=false∧x.2=toT t∧t.ln≠[]:=fun x K=>by
   rw[q1,kf]at K;obtain⟨k1,t,k2,k3,W⟩:=zFy _ K;refine⟨(pG _ hk M.asc N.asc).1 k1,t,(hg _ t k2).2,?_,k3,W⟩;rw[(hg _ t k2).1];refine jCo ?_;have X:=qAr ha x.1;have n2:=qAr hb x.1;have n3:0≤w.rat*(rw' (wt x.1 a)).rat:=uw w0 X;have n4:0≤(1-w.rat)*(rw' (wt x.1 b)).rat:=uw (by grind) n2
   grind
  have E:∀p,(∃y∈a,y.1=p)∨(∃y∈b,y.1=p)→w.rat*(rw' (wt p a)).rat+(1-w.rat)*(rw' (wt p b)).rat≠0→∃x∈o.reverse,x.1=p:=fun p hp hn=>by
   have k:=(pG _ hk M.asc N.asc).2 hp;obtain⟨t,ht⟩:=q2 p k;refine⟨(p,toT t),?_,rfl⟩;rw[q1,kf];refine qIo ht (fun e=>hn ?_) _ q2 k;have:=zZu e;rwa[(hg p t ht).1,Raw.of_rat]at this
  have T:Asc o.reverse:=by rw[q1,kf];exact zOi _ (zOh _ hk M.asc N.asc)
  have one:sumL (fun _=>1) o.reverse=1:=by rw[B,qAk ha,qAk hb];grind
  refine⟨ha,hb,zV.1 J,w0,w1,zV.1 e6,fun x K=>(A x K).1,fun hw y q=>?_,fun hw y q=>?_,B,jGc (fun e=>?_) (fun i hi=>?_) ?_⟩
  ·refine E y.1 (.inl ⟨y,q,rfl⟩) ?_;have X:=qMh ha M.asc q;have n2:=qAr hb y.1;have n3:0<w.rat*(rw' (wt y.1 a)).rat:=Rat.mul_pos hw X;have n4:0≤(1-w.rat)*(rw' (wt y.1 b)).rat:=uw (by grind) n2
   grind
  ·refine E y.1 (.inr ⟨y,q,rfl⟩) ?_;have X:=qAr ha y.1;have n2:=qMh hb N.asc q;have n3:0≤w.rat*(rw' (wt y.1 a)).rat:=uw w0 X;have n4:0<(1-w.rat)*(rw' (wt y.1 b)).rat:=Rat.mul_pos (by grind) n2
   grind
  ·rw[e]at one;exact absurd one (by show(0:Rat)≠1;decide)
  ·have K:wA o.reverse i∈o.reverse:=by rw[gZ hi];exact jo hi
   obtain⟨k1,t,k2,k3,W,k5⟩:=A _ K;refine jGi ?_ (fun h0=>?_) ?_ ?_ ?_
   ·rcases k1 with⟨y,q,e⟩ | ⟨y,q,e⟩
    ·rw[←e];exact zZq ha q
    ·rw[←e];exact zZq hb q
   ·obtain⟨j,rfl⟩:∃j,i=j+1:=⟨i-1,by omega⟩
    exact qEr T hi
   ·rw[W];exact k2
   ·rw[W];exact k3
   ·rw[W];exact k5
  ·rw[←one,←aJ];exact gY _ fun i _=>(Rat.mul_one _).symm
theorem qGc{a b:List Rt}{n:Nat}(f:∀j,j<n→(xI a j).chk=0∧(xI b j).chk=0):∀(k i:Nat){t:Raw}{e:Int},i+k=n→t.chk=0→fol (gDt adA muA aeA meA a b) Sum.inl k i t=Sum.inr e→e=4
 | 0,i,t,e,_,_,hh=>by cases hh
 | k+1,i,t,e,A,ht,hh=>by
  simp only[fol,gDt]at hh;obtain⟨q,w⟩:=f i (by omega)
  rcases tL q w ((xI a i).rat*(xI b i).rat)with g1 | g1
  ·have y:=yO g1;rcases tL zOz ht (r0.rat+t.rat)with g2 | g2
   ·have z:=yO g2;rcases tL z.2.2.2.2 y.2.2.2.2 ((adA r0 t).rat+(muA (xI a i) (xI b i)).rat)with g3 | g3
    ·rw[show meA (xI a i) (xI b i)=0 from g1,show aeA r0 t=0 from g2,show aeA (adA r0 t) (muA (xI a i) (xI b i))=0 from g3]at hh;exact qGc f k (i+1) (by omega) (yO g3).2.2.2.2 hh
    ·rw[show meA (xI a i) (xI b i)=0 from g1,show aeA r0 t=0 from g2,show aeA (adA r0 t) (muA (xI a i) (xI b i))=4 from g3]at hh;cases hh;rfl
   ·rw[show meA (xI a i) (xI b i)=0 from g1,show aeA r0 t=4 from g2]at hh;cases hh;rfl
  ·rw[show meA (xI a i) (xI b i)=4 from g1]at hh;cases hh;rfl
theorem qOb{a b:List Rt}(y:a.length=b.length)(w:∀j,j<a.length→(xI a j).chk=0∧(xI b j).chk=0)(f:zU a b=false):qX a b=3:=by
 have k:Nat.beq a.length b.length=true:=by rw[y];exact jL _
 unfold qX dtP dtE;rw[k];simp only[zU,zFg,k,kx]at f;cases q:dtF adA muA aeA meA a b with
 | inl t=>rw[q]at f;cases f
 | inr e=>
  have:=qGc w a.length 0 (qc _) zOz q;subst this;rfl
theorem qTy{a b:List Rt}:∀(k i:Nat){t e:Raw},t=Raw.of t.rat→fol (gDt adA muA aeA meA a b) Sum.inl k i t=Sum.inl e→e=Raw.of e.rat
 | 0,i,t,e,w,hh=>by cases hh;exact w
 | k+1,i,t,e,w,hh=>by
  simp only[fol,gDt]at hh;cases f:ieq (meA (xI a i) (xI b i)) 0 with
  | false=>rw[f]at hh;cases hh
  | true=>
   cases j:ieq (aeA r0 t) 0 with
   | false=>rw[f,j]at hh;cases hh
   | true=>
    cases q:ieq (aeA (adA r0 t) (muA (xI a i) (xI b i))) 0 with
    | false=>rw[f,j,q]at hh;cases hh
    | true=>
     rw[f,j,q]at hh;have g3:=yO (zV.1 q);exact qTy k (i+1) (by rw[g3.2.2.2.1];exact g3.2.2.1) hh
theorem qXv(a b:List Rt):qI a b=Raw.of (qI a b).rat:=by
 have z:r0=Raw.of r0.rat:=(qIy zOz (fun y f=>by cases f) (fun y f=>by cases f)).1.symm
 unfold qI dtR;cases e:zFg adA muA aeA meA a b with
 | false=>exact z
 | true=>
  cases j:dtF adA muA aeA meA a b with
  | inr e=>exact z
  | inl t=>exact qTy a.length 0 z j
theorem qLe{Z:Int}{F I:List (List Int)}{L w Y:Int}{j:List Nz}:∀(k b:Nat)(f:List Raw){l:List Raw},(∀x∈f,x.chk=0)→skA Z F I L w Y j k b f= .inl l→∀x∈l,x.chk=0
 | 0,_,f,l,ha,hh=>by cases hh;exact fun x q=>ha x (fS.1 q)
 | k+1,b,f,l,ha,hh=>by
  simp only[skA,skL]at hh;cases H:sk1 frA zU qI qX yR dvR dvP Z F I L w Y j b with
  | inr e=>rw[H]at hh;cases hh
  | inl y=>
   rw[H]at hh;refine qLe k (b+1) (y::f) (fun x q=>?_) hh;rcases qS.1 q with rfl | q
   ·unfold sk1 at H;cases A:zU (scW j) (scV frA F I L w Y b j)<;>rw[A]at H
    ·cases H
    ·cases z:yR (qI (scW j) (scV frA F I L w Y b j)) (frA Z)<;>rw[z]at H<;>cases H;exact(yO (zV.1 z)).2.2.2.2
   ·exact ha x q
theorem jBj(h o t:List Int)(G:List Bd)(P D S:Int)(O U:List Nz)(C st V:Raw)(Z:Int)(F I:List (List Int)){L H W f Y:Int}(q:jH h o t G P D S O U C st V Z F I L H W f Y=true){b:Nat}(hb:b<G.length):(rw' (rI (lkL h o t G P D S O U C st V Z F I L H W f Y) b)).chk=0:=by
 have j:=zYq h o t G P D S O U C st V Z F I L H W f Y q;rw[zWi (by rw[j];exact hb)]
 have w:∀x∈lkL h o t G P D S O U C st V Z F I L H W f Y,(rw' x).chk=0:=fun x k=>by
  unfold jH at q;unfold lkL at k;cases e:lkR h o t G P D S O U C st V Z F I L H W f Y with
  | inr B=>rw[e]at q;cases q
  | inl l=>
   rw[e]at k;obtain⟨y,A,rfl⟩:=vz.1 k;unfold lkR at e;cases z:Nat.beq (lkE h o t G P D S O U C st V Z F I L H W f Y) 0 with
   | false=>rw[z]at e;cases e
   | true=>rw[z]at e;exact qLe G.length 0 [] (fun x k=>by cases k) e y A
 exact w _ (jo _)
abbrev pO(h o t:List Int)(G:List Bd)(P D S:Int)(O U:List Nz)(C st V:Raw)(Z:Int)(F I:List (List Int))(L Y:Int)(p:Pt):Bool:=jH h o t G P D S O U C st V Z F I L p.1 p.2.1 p.2.2 Y
theorem qKj(h o t:List Int)(G:List Bd)(P D S:Int)(O U:List Nz)(C st V:Raw)(Z:Int)(F I:List (List Int)){L Y:Int}{l:List Wt}:(∀i,i<l.length→ptO jH h o t G P D S O U C st V Z F I L Y l i=true)↔∀x∈l,pO h o t G P D S O U C st V Z F I L Y x.1=true:=
 ⟨fun hh x q=>by
  obtain⟨j,k⟩:=qz q;have hlt:=(zh.1 k).1;have:=hh j hlt;have e:wA l j=x:=by rw[gZ hlt];exact(zh.1 k).2
  have g:pO h o t G P D S O U C st V Z F I L Y (wA l j).1=true:=this;rwa[e]at g,fun hh i f=>hh (wA l i) (by rw[gZ f];exact jo f)⟩
theorem zTq(h o t:List Int)(G:List Bd)(P D S:Int)(O U:List Nz)(C st V:Raw)(Z:Int)(F I:List (List Int)){L Y:Int}{l:List Wt}(hh:∀i,i<l.length→ptO jH h o t G P D S O U C st V Z F I L Y l i=true):∀k i,i+k+1=l.length→fol (gEx jH lkP h o t G P D S O U C st V Z F I L Y l) (fun _=>none) k i ()=none
 | 0,i,_=>rfl
 | k+1,i,e=>by
  simp only[fol,gEx];rw[hh (i+1) (by omega)]
  exact zTq h o t G P D S O U C st V Z F I hh k (i+1) (by omega)
theorem qAt{okD:List Rt→List Rt→Bool}{dR:List Rt→List Rt→Raw}{dP:List Rt→List Rt→Nat}{w f:Nat→Nat→Rt}{m n:Nat}(H:∀b,b<n→okD (rvF (w 0) m) (rvF (f b) m)=false→dP (rvF (w 0) m) (rvF (f b) m)=3):∀(k b:Nat)(j:List Raw){e:Nat},b+k=n→xpL okD dR dP w f m k b j= .inr e→e=4
 | 0,_,_,_,_,hh=>by cases hh
 | k+1,b,j,e,y,hh=>by
  simp only[xpL]at hh;cases q:okD (rvF (w 0) m) (rvF (f b) m)with
  | true=>rw[q]at hh;exact qAt H k (b+1) _ (by omega) hh
  | false=>rw[q]at hh;cases hh;rw[H b (by omega) q]
theorem zWu(h o t:List Int)(G:List Bd)(P D S:Int)(O U:List Nz)(C st V:Raw)(Z:Int)(F I:List (List Int)){L:Int}{l:List Wt}{Y:Int}(hb:bE l=0)(hp:∀x∈l,pO h o t G P D S O U C st V Z F I L Y x.1=true):xpO h o t G P D S O U C st V Z F I L l Y=true∨xpP h o t G P D S O U C st V Z F I L l Y+1=4:=by
 have f:=(qKj h o t G P D S O U C st V Z F I).2 hp;have y:=(zGl hb).1;have em:l.length-1+1=l.length:=by omega
 have w:∀{r},xpR h o t G P D S O U C st V Z F I L l Y=r→isR r=true∨eR r-1+1=4:=fun{r}k=>by
  unfold xpR at k;rw[hb,f 0 y,show xpF jH lkP h o t G P D S O U C st V Z F I L Y l=none from zTq h o t G P D S O U C st V Z F I f (l.length-1) 0 (by omega)]at k
  have k:xpL zU qI qX (fun _=>xW l) (aL lkL h o t G P D S O U C st V Z F I L Y l) (l.length-1) G.length 0 []=r:=k;cases r with
  | inl x=>exact .inl rfl
  | inr e=>
   refine .inr ?_;have:e=4:=qAt (fun b hlt z=>qOb (by rw[gT,gT]) (fun j q=>by
    rw[gT]at q;show(rw' (rI _ j)).chk=0∧(rw' (rI _ j)).chk=0;rw[zTd q,zTd q];exact⟨(zHe (zXk hb j (by omega))).2.1,jBj h o t G P D S O U C st V Z F I (f j (by omega)) hlt⟩) z) G.length 0 [] (qc _) k
   rw[this];rfl
 exact w rfl
abbrev sP(h o t:List Int)(G:List Bd)(P D S:Int)(O U:List Nz)(C st V:Raw)(Z:Int)(F I:List (List Int))(L Y:Int)(b:Nat)(p:Pt):Rat:=(rw' (rI (lkL h o t G P D S O U C st V Z F I L p.1 p.2.1 p.2.2 Y) b)).rat
theorem aK.sumL{h o t:List Int}{G:List Bd}{P D S:Int}{O U:List Nz}{C st V:Raw}{Z:Int}{F I:List (List Int)}{L:Int}{l:List Wt}{Y:Int}(e:aK h o t G P D S O U C st V Z F I L l Y){b:Nat}(hb:b<G.length):(xDt h o t G P D S O U C st V Z F I L l Y b).rat=Go.Proofs.YtdfmdiakjdggbaaGreatDoor.sumL (sP h o t G P D S O U C st V Z F I L Y b) l:=(e.sum hb).2.1.trans (aJ (sP h o t G P D S O U C st V Z F I L Y b) l)
section
variable (ad mu:Raw→Raw→Raw)(ae me:Raw→Raw→Int)(eqB:Raw→Raw→Bool)
def gMx(w v:Raw)(a b x:List Rt)(n:Nat)(_:Unit):Unit⊕Option Bool:=bif ieq (me w (xI a n)) 4||(ieq (me v (xI b n)) 4||ieq (ae (mu w (xI a n)) (mu v (xI b n))) 4)then .inr (some true)else(bif ieq (me w (xI a n)) 0&&(ieq (me v (xI b n)) 0&&(ieq (ae (mu w (xI a n)) (mu v (xI b n))) 0&&eqB (ad (mu w (xI a n)) (mu v (xI b n))) (xI x n)))then .inl ()else .inr (some false))
def mxG(w v:Raw)(a b x:List Rt):Option Bool:=fol (gMx ad mu ae me eqB w v a b x) (fun _=>none) x.length 0 ()
end
theorem jGx(h o t:List Int)(G:List Bd)(P D S:Int)(O U:List Nz)(C st V:Raw)(Z:Int)(F I:List (List Int)){L Y:Int}{a b m:List Wt}{w:Raw}(hm:zKo a b w m)(j:aK h o t G P D S O U C st V Z F I L a Y)(k:aK h o t G P D S O U C st V Z F I L b Y)(q:aK h o t G P D S O U C st V Z F I L m Y){n:Nat}(f:n<G.length):gMx adA muA aeA meA eqA w (suA (frA 1) w) (xpV h o t G P D S O U C st V Z F I L a Y) (xpV h o t G P D S O U C st V Z F I L b Y) (xpV h o t G P D S O U C st V Z F I L m Y) n ()= .inl ()∨gMx adA muA aeA meA eqA w (suA (frA 1) w) (xpV h o t G P D S O U C st V Z F I L a Y) (xpV h o t G P D S O U C st V Z F I L b Y) (xpV h o t G P D S O U C st V Z F I L m Y) n ()= .inr (some true):=by
 have H:xI (xpV h o t G P D S O U C st V Z F I L a Y) n=xDt h o t G P D S O U C st V Z F I L a Y n:=by show rw' (rI _ n)=_;rw[j.get f]
 have J:xI (xpV h o t G P D S O U C st V Z F I L b Y) n=xDt h o t G P D S O U C st V Z F I L b Y n:=by show rw' (rI _ n)=_;rw[k.get f]
 have ex:xI (xpV h o t G P D S O U C st V Z F I L m Y) n=xDt h o t G P D S O U C st V Z F I L m Y n:=by show rw' (rI _ n)=_;rw[q.get f]
 have A:=yO hm.ve;have N:(suA (frA 1) w).rat=1-w.rat:=A.2.2.2.1.trans (by rw[zBj])
 have B:=(j.sum f).1;have E:=(k.sum f).1;have M:(xDt h o t G P D S O U C st V Z F I L m Y n).rat=w.rat*(xDt h o t G P D S O U C st V Z F I L a Y n).rat+(1-w.rat)*(xDt h o t G P D S O U C st V Z F I L b Y n).rat:=by rw[q.sumL f,j.sumL f,k.sumL f];exact hm.sum _
 unfold gMx;rw[H,J,ex];rcases tL hm.wc B (w.rat*(xDt h o t G P D S O U C st V Z F I L a Y n).rat)with g1 | g1
 ·have y:=yO g1;rcases tL A.2.2.2.2 E ((suA (frA 1) w).rat*(xDt h o t G P D S O U C st V Z F I L b Y n).rat)with g2 | g2
  ·have z:=yO g2;rcases tL y.2.2.2.2 z.2.2.2.2 ((muA w (xDt h o t G P D S O U C st V Z F I L a Y n)).rat+(muA (suA (frA 1) w) (xDt h o t G P D S O U C st V Z F I L b Y n)).rat)with g3 | g3
   ·have K:=yO g3;refine .inl ?_;have e:adA (muA w (xDt h o t G P D S O U C st V Z F I L a Y n)) (muA (suA (frA 1) w) (xDt h o t G P D S O U C st V Z F I L b Y n))=xDt h o t G P D S O U C st V Z F I L m Y n:=by
     refine K.2.2.1.trans ?_;rw[show(muA w (xDt h o t G P D S O U C st V Z F I L a Y n)).rat=_ from y.2.2.2.1,show(muA (suA (frA 1) w) (xDt h o t G P D S O U C st V Z F I L b Y n)).rat=_ from z.2.2.2.1,N,←M];exact(qXv _ _).symm
    rw[show meA w (xDt h o t G P D S O U C st V Z F I L a Y n)=0 from g1,show meA (suA (frA 1) w) (xDt h o t G P D S O U C st V Z F I L b Y n)=0 from g2,show aeA (muA w (xDt h o t G P D S O U C st V Z F I L a Y n)) (muA (suA (frA 1) w) (xDt h o t G P D S O U C st V Z F I L b Y n))=0 from g3,e,show eqA (xDt h o t G P D S O U C st V Z F I L m Y n) (xDt h o t G P D S O U C st V Z F I L m Y n)=true from xe rfl];rfl
   ·refine .inr ?_;rw[show aeA (muA w (xDt h o t G P D S O U C st V Z F I L a Y n)) (muA (suA (frA 1) w) (xDt h o t G P D S O U C st V Z F I L b Y n))=4 from g3,yS rfl,fN,fN];rfl
  ·refine .inr ?_;rw[show meA (suA (frA 1) w) (xDt h o t G P D S O U C st V Z F I L b Y n)=4 from g2,yS rfl,ua,fN];rfl
 ·refine .inr ?_;rw[show meA w (xDt h o t G P D S O U C st V Z F I L a Y n)=4 from g1,yS rfl,ua];rfl
theorem qGr{g:Nat→Unit→Unit⊕Option Bool}{n:Nat}(j:∀i,i<n→g i ()= .inl ()∨g i ()= .inr (some true)):∀(k i:Nat),i+k=n→fol g (fun _=>none) k i ()=none∨fol g (fun _=>none) k i ()=some true
 | 0,i,e=> .inl rfl
 | k+1,i,e=>by
  simp only[fol];rcases j i (by omega)with f | f
  ·rw[f];exact qGr j k (i+1) (by omega)
  ·rw[f];exact .inr rfl
theorem jCa(h o t:List Int)(G:List Bd)(P D S:Int)(O U:List Nz)(C st V:Raw)(Z:Int)(F I:List (List Int)){L Y:Int}{a b m:List Wt}{w:Raw}(hm:zKo a b w m)(f:aK h o t G P D S O U C st V Z F I L a Y)(j:aK h o t G P D S O U C st V Z F I L b Y)(e:aK h o t G P D S O U C st V Z F I L m Y):mxG adA muA aeA meA eqA w (suA (frA 1) w) (xpV h o t G P D S O U C st V Z F I L a Y) (xpV h o t G P D S O U C st V Z F I L b Y) (xpV h o t G P D S O U C st V Z F I L m Y)=none∨mxG adA muA aeA meA eqA w (suA (frA 1) w) (xpV h o t G P D S O U C st V Z F I L a Y) (xpV h o t G P D S O U C st V Z F I L b Y) (xpV h o t G P D S O U C st V Z F I L m Y)=some true:=
 qGr (fun i k=>jGx h o t G P D S O U C st V Z F I hm f j e (by rwa[e.len]at k)) _ 0 (qc _)
theorem zPv(h o t:List Int)(G:List Bd)(P D S:Int)(O U:List Nz)(C st V:Raw)(Z:Int)(F I:List (List Int)){L Y:Int}{l:List Wt}(e:xpO h o t G P D S O U C st V Z F I L l Y=true):∀x∈l,pO h o t G P D S O U C st V Z F I L Y x.1=true:=(qKj h o t G P D S O U C st V Z F I).1 (qAw h o t G P D S O U C st V Z F I e).pt
theorem qQf(h o t:List Int)(G:List Bd)(P D S:Int)(O U:List Nz)(C st V:Raw)(Z:Int)(F I:List (List Int)){L Y:Int}{a b m:List Wt}{w:Raw}(hm:zKo a b w m)(f:0<w.rat)(j:xpO h o t G P D S O U C st V Z F I L m Y=true):xpO h o t G P D S O U C st V Z F I L a Y=true∨xpP h o t G P D S O U C st V Z F I L a Y+1=4:=
 zWu h o t G P D S O U C st V Z F I hm.ba fun y q=>by
  obtain⟨x,k,e⟩:=hm.supA f y q;rw[←e];exact zPv h o t G P D S O U C st V Z F I j x k
theorem qQg(h o t:List Int)(G:List Bd)(P D S:Int)(O U:List Nz)(C st V:Raw)(Z:Int)(F I:List (List Int)){L Y:Int}{a b m:List Wt}{w:Raw}(hm:zKo a b w m)(f:w.rat<1)(j:xpO h o t G P D S O U C st V Z F I L m Y=true):xpO h o t G P D S O U C st V Z F I L b Y=true∨xpP h o t G P D S O U C st V Z F I L b Y+1=4:=
 zWu h o t G P D S O U C st V Z F I hm.bb fun y q=>by
  obtain⟨x,k,e⟩:=hm.supB f y q;rw[←e];exact zPv h o t G P D S O U C st V Z F I j x k
theorem qQh(h o t:List Int)(G:List Bd)(P D S:Int)(O U:List Nz)(C st V:Raw)(Z:Int)(F I:List (List Int)){L Y:Int}{a b m:List Wt}{w:Raw}(hm:zKo a b w m)(hb:bE m=0)(j:xpO h o t G P D S O U C st V Z F I L a Y=true)(k:xpO h o t G P D S O U C st V Z F I L b Y=true):xpO h o t G P D S O U C st V Z F I L m Y=true∨xpP h o t G P D S O U C st V Z F I L m Y+1=4:=
 zWu h o t G P D S O U C st V Z F I hb fun x q=>by
  rcases hm.mem x q with⟨y,f,e⟩ | ⟨y,f,e⟩
  ·rw[←e];exact zPv h o t G P D S O U C st V Z F I j y f
  ·rw[←e];exact zPv h o t G P D S O U C st V Z F I k y f
def iMx(w v:Raw)(a b x:List Rt)(i:Nat):Hs:=⟨[.ls .n zL a,.ls .n zL b,.ls .n zL x,vn i],[],[[],[],[.v (.bool w.1),.ls .a .lim w.2,.ls .a .lim w.3],[],[],[.v (.bool v.1),.ls .n .lim v.2,.ls .n .lim v.3]]⟩
def Lmx:Lp:=⟨6,
 ⟨us' 5++([.t (.op 2 0)]++(us' 5++([.t (.op 5 0),.u,.h,.u,.h,.u,.h,.u,.u,.h]++(us' 202)))),[.g,.g,.r [.h,.h,.h] 28,.g,.g,.r [.h,.h,.h] 28]⟩,
 ⟨us' 223,[.g,.g,.g,.g,.g,.g]⟩,
 ⟨us' 6++([.h]++(us' 216)),[.g,.g,.g,.g,.g,.g]⟩⟩
abbrev qTc:Code:=lpc Tryz.prog 9 [false,true,false,true,true,true,true,true,true,true,true,true,true,true,true,true,true]
theorem qWc:cAt Tryz.prog 9 [false,true,false,true,true,true,true,true,true,true,true,true,true,true,true,true,true]=some (.loop qTc):=by kernel_rfl
abbrev qTd(f:Od)(e:Lo):Hs→Option (Hs⊕(Ex×Hs)):=Lmx.stp (evD Tryz.prog f e 60) 9 [false,true,false,true,true,true,true,true,true,true,true,true,true,true,true,true,true] qTc
theorem sMx(ad mu:Raw→Raw→Raw)(ae me:Raw→Raw→Int)(eqB:Raw→Raw→Bool)(w v:Raw)(a b x:List Rt)(i:Nat):qTd (odT [(34,kcD (pRR fun a b=>some (ad a b,ae a b)) true),(49,kcD (pRR fun a b=>some (mu a b,me a b)) true),(37,kcD (pB eqB) true)]) (loT []) (iMx w v a b x i)=bif ilt (.ofNat i) (.ofNat x.length)then gd (Nat.blt i a.length) (gd (Nat.blt i b.length) (bif ieq (me w (rw' (rI a i))) (.ofNat 4)then some (.inr (.r,⟨[.v (.bool true)],[],[[],[],[],[],[],[]]⟩))else(bif ieq (me v (rw' (rI b i))) (.ofNat 4)then some (.inr (.r,⟨[.v (.bool true)],[],[[],[],[],[],[],[]]⟩))else(bif ieq (ae (mu w (rw' (rI a i))) (mu v (rw' (rI b i)))) (.ofNat 4)then some (.inr (.r,⟨[.v (.bool true)],[],[[],[],[],[],[],[]]⟩))else(bif !(ieq (me w (rw' (rI a i))) 0)then some (.inr (.r,⟨[.v (.bool false)],[],[[],[],[],[],[],[]]⟩))else(bif !(ieq (me v (rw' (rI b i))) 0)then some (.inr (.r,⟨[.v (.bool false)],[],[[],[],[],[],[],[]]⟩))else(bif !(ieq (ae (mu w (rw' (rI a i))) (mu v (rw' (rI b i)))) 0)then gd (!(ieq (ae (mu w (rw' (rI a i))) (mu v (rw' (rI b i)))) 0)) (some (.inr (.r,⟨[.v (.bool false)],[],[[],[],[],[],[],[]]⟩)))else gd (Nat.blt i x.length) (bif !(ieq (ae (mu w (rw' (rI a i))) (mu v (rw' (rI b i)))) 0)then some (.inr (.r,⟨[.v (.bool false)],[],[[],[],[],[],[],[]]⟩))else(bif !(eqB (ad (mu w (rw' (rI a i))) (mu v (rw' (rI b i)))) (rw' (rI x i)))then some (.inr (.r,⟨[.v (.bool false)],[],[[],[],[],[],[],[]]⟩))else nx i (.inl (iMx w v a b x (i+1))))))))))))else some (.inr (.x 0,⟨[],[],[[],[],[],[],[],[]]⟩)):=by kernel_rfl
section
variable (ad mu:Raw→Raw→Raw)(ae me:Raw→Raw→Int)(eqB:Raw→Raw→Bool)
abbrev sGm:Hs→Option (Hs⊕(Ex×Hs)):=qTd (odT [(34,kcD (pRR fun a b=>some (ad a b,ae a b)) true),(49,kcD (pRR fun a b=>some (mu a b,me a b)) true),(37,kcD (pB eqB) true)]) (loT [])
abbrev g5:List (List T):=[[],[],[],[],[],[]]
def qUt:Option Bool→Ex×Hs
 | none=>(.x 0,⟨[],[],g5⟩)
 | some b=>(.r,⟨[.v (.bool b)],[],g5⟩)
theorem lpMx(w v:Raw)(a b x:List Rt)(k:x.length<9223372036854775807)(ha:a.length=x.length)(hb:b.length=x.length):lpF (sGm ad mu ae me eqB) x.length (iMx w v a b x 0)=some (qUt (mxG ad mu ae me eqB w v a b x)):=
 jM (st:=sGm ad mu ae me eqB) (iv:=fun i(_:Unit)=>iMx w v a b x i) (g:=gMx ad mu ae me eqB w v a b x) (d:=fun _=>none) (out:=qUt) (n:=x.length) (fun _ _=>True)
  (fun i _ f _=>by
   refine(sMx ..).trans ?_;unfold gMx;have e:ilt (.ofNat i) (.ofNat x.length)=true:=zP f;rw[e,ze,ha,hb,zP f,xC (show i+1<9223372036854775808 by omega)]
   have j:(Int.ofNat 4)=4:=rfl;rw[j];cases ieq (me w (xI a i)) 4 with
   | true=>rfl
   | false=>cases ieq (me v (xI b i)) 4 with
    | true=>rfl
    | false=>cases ieq (ae (mu w (xI a i)) (mu v (xI b i))) 4 with
     | true=>rfl
     | false=>cases ieq (me w (xI a i)) 0 with
      | false=>rfl
      | true=>cases ieq (me v (xI b i)) 0 with
       | false=>rfl
       | true=>cases ieq (ae (mu w (xI a i)) (mu v (xI b i))) 0 with
        | false=>rfl
        | true=>cases eqB (ad (mu w (xI a i)) (mu v (xI b i))) (xI x i)<;>rfl)
  (fun _ _ _ _ _ _=>trivial)
  (fun _ _=>by
   refine(sMx ..).trans ?_;have e:ilt (.ofNat x.length) (.ofNat x.length)=false:=yC (z6 _);rw[e];rfl) x.length 0 () (by omega) trivial
def isNb:Option Bool→Bool
 | none=>true
 | some _=>false
def isTb:Option Bool→Bool
 | some b=>b
 | none=>true
def hMx:Hs→DT (Ex×Hs)
 | ⟨[.ls .n (.prod .bool (.prod (.list .lim) (.list .lim))) a,.ls .n (.prod .bool (.prod (.list .lim) (.list .lim))) b,.ls .n (.prod .bool (.prod (.list .lim) (.list .lim))) x,.v (.int .i64 (.ofNat 0))],[],[[],[],[.v (.bool k),.ls .a .lim q,.ls .a .lim w],[],[],[.v (.bool e),.ls .n .lim f,.ls .n .lim j]]⟩=>grd (Nat.beq a.length x.length&&(Nat.beq b.length x.length&&Nat.blt x.length 9223372036854775807)) (.ite (isNb (mxG ad mu ae me eqB ⟨k,q,w⟩ ⟨e,f,j⟩ a b x)) (.ret (.x 0,⟨[],[],g5⟩)) (.ite (isTb (mxG ad mu ae me eqB ⟨k,q,w⟩ ⟨e,f,j⟩ a b x)) (.ret (.r,⟨[.v (.bool true)],[],g5⟩)) (.ret (.r,⟨[.v (.bool false)],[],g5⟩))))
 | _=> .no
theorem qZy:∀q y,(hMx ad mu ae me eqB q).run=some y→∃n,It (sGm ad mu ae me eqB) n q y:=fun q y hh=>by
 unfold hMx at hh;split at hh
 ·rename_i a b x z A B j k w;obtain⟨f,e⟩:=zT hh;simp only[zd]at f;obtain⟨g1,g2,g3⟩:=f;have:=xM _ _ (lpMx ad mu ae me eqB ⟨z,A,B⟩ ⟨j,k,w⟩ a b x (jV g3) (zY g1) (zY g2));cases hb:mxG ad mu ae me eqB ⟨z,A,B⟩ ⟨j,k,w⟩ a b x with
  | none=>rw[hb]at e this;cases e;exact this
  | some c=>cases c<;>rw[hb]at e this<;>cases e<;>exact this
 ·cases hh
abbrev LMx:Lo:=loT [(9,[false,true,false,true,true,true,true,true,true,true,true,true,true,true,true,true,true],Lmx.row (hMx ad mu ae me eqB))]
end
section
variable (fT:TF Bool)(fL:List Wt→Bool)(fW:List Rt→Bool)(mR:List Wt→List Wt→Raw→List Wt)(mE:List Wt→List Wt→Raw→Int)(cE:List Wt→Int)(fr:Int→Raw)(su:Raw→Raw→Raw)(se:Raw→Raw→Int)(xO:List Int→List Int→List Int→List Bd→Int→Int→Int→List Nz→List Nz→Raw→Raw→Raw→Int→List (List Int)→List (List Int)→Int→List Wt→Int→Bool)(xL:List Int→List Int→List Int→List Bd→Int→Int→Int→List Nz→List Nz→Raw→Raw→Raw→Int→List (List Int)→List (List Int)→Int→List Wt→Int→List Rt)(xP:List Int→List Int→List Int→List Bd→Int→Int→Int→List Nz→List Nz→Raw→Raw→Raw→Int→List (List Int)→List (List Int)→Int→List Wt→Int→Nat)(ad mu:Raw→Raw→Raw)(ae me:Raw→Raw→Int)(eqB:Raw→Raw→Bool)(h o t:List Int)(G:List Bd)(P D S:Int)(O U:List Nz)(C st V:Raw)(Z:Int)(F I:List (List Int))(L Y:Int)
abbrev smK(l:List Wt)(K:Option (T×Bool)):Option (T×Bool):=gd (Nat.blt l.length 9223372036854775807) (bif !fL l then(bif !ilt 12 (.ofNat l.length)then K else(bif !ilt 4096 (.ofNat l.length)then yB true else K))else yB true)
abbrev mxZ(w v:Raw)(g h i:Int)(A B X:List Rt)(z:Bool):Option (T×Bool):=bif !ieq g 0 then(bif z then yB true else yB (!ieq i 0))else(bif !ieq h 0 then(bif z then yB true else yB (!ieq i 0))else(bif !ieq i 0 then yB false else(bif !ieq (.ofNat A.length) (.ofNat X.length)then yB false else(bif !ieq (.ofNat B.length) (.ofNat X.length)then yB false else gd (Nat.beq A.length X.length&&(Nat.beq B.length X.length&&Nat.blt X.length 9223372036854775807)) (bif isNb (mxG ad mu ae me eqB w v A B X)then yB true else(bif isTb (mxG ad mu ae me eqB w v A B X)then yB true else yB false))))))
abbrev mxY(w v:Raw)(f g h i:Int)(A B X:List Rt):Option (T×Bool):=bif ieq f 4 then yB true else(bif ieq g 4 then yB true else(bif ieq h 4 then yB true else(bif ieq i 4 then yB true else(bif ieq (.ofNat w.ln.length) 0 then mxZ ad mu ae me eqB w v g h i A B X true else mxZ ad mu ae me eqB w v g h i A B X (eqB w (fr 1))))))
abbrev exK(l:List Wt)(K:Int→List Rt→Option (T×Bool)):Option (T×Bool):=gd (Nat.blt F.length 9223372036854775807) (bif xO h o t G P D S O U C st V Z F I L l Y then K 0 (xL h o t G P D S O U C st V Z F I L l Y)else K (.ofNat (xP h o t G P D S O U C st V Z F I L l Y+1)) [])
abbrev mxM(k q m:List Wt)(w:Raw):Option (T×Bool):=exK xO xL xP h o t G P D S O U C st V Z F I L Y k fun e A=>exK xO xL xP h o t G P D S O U C st V Z F I L Y q fun f B=>exK xO xL xP h o t G P D S O U C st V Z F I L Y m fun j X=>mxY fr ad mu ae me eqB w (su (fr 1) w) (se (fr 1) w) e f j A B X
abbrev qIm(e f:List Wt)(w:Raw):Option (T×Bool):=gd (Nat.ble e.length 100000&&Nat.ble f.length 100000) (bif !ieq (mE e f w) 0 then yB (ieq (.ofNat (mR e f w).length) 0)else(bif !ieq (cE (mR e f w)) 0 then yB (ieq (cE (mR e f w)) 4)else mxM fr su se xO xL xP ad mu ae me eqB h o t G P D S O U C st V Z F I L Y e f (mR e f w) w))
set_option maxHeartbeats 0 in
theorem qXw(e f j:Raw)(hd:Int)(k q:List Wt)(w:Raw):((qF Tryz.prog (evD Tryz.prog (odT [(13,odR [tbT] (qIv fT)),(38,odR [.list wT] (oLg fL)),(65,odR [.list zL] (oWd fW)),(16,oAw),(41,odR [.list wT,.list wT,zL] (oMx mR mE)),(46,odR [.list wT] (oBc cE)),(47,kcD (pI fr) true),(48,kcD (pRR fun a b=>some (su a b,se a b)) true),(22,odR [tbT,nT,.list wT,nT] (oEx xO xL xP)),(37,kcD (pB eqB) true)]) (LMx ad mu ae me eqB) 60) 9 [.ag [.ls .a nT h,.ls .a nT o,.ls .a nT t,.ls .a bT G,vi P,vi D,vi S,.ls .a nzT O,.ls .a nzT U,.v (.bool C.1),.ls .a .lim C.2,.ls .a .lim C.3,.v (.bool st.1),.ls .a .lim st.2,.ls .a .lim st.3,.v (.bool V.1),.ls .a .lim V.2,.ls .a .lim V.3,vi Z,.ls .a (.list nT) F,.ls .a (.list nT) I,vi L,vi Y,.v (.bool e.1),.ls .a .lim e.2,.ls .a .lim e.3,.v (.bool f.1),.ls .a .lim f.2,.ls .a .lim f.3,.v (.bool j.1),.ls .a .lim j.2,.ls .a .lim j.3,.v (.int .u8 hd)],.ag [.ls .a wT k,.ls .a wT q],.ag (rC w)] []).bind qJ).run=gd (Nat.blt F.length 9223372036854775807&&Nat.blt I.length 9223372036854775807) (bif fT h o t G P D S O U C st V Z F I then yB true else smK fL k (smK fL q (bif fW [toT w]then yB true else qIm mR mE cE fr su se xO xL xP ad mu ae me eqB h o t G P D S O U C st V Z F I L Y k q w))):=by kernel_rfl
end
abbrev qIg(a b:List Wt)(w:Raw):List Wt:=lsS (mxA a b w)
abbrev qIf(a b:List Wt)(w:Raw):Int:=erS (mxA a b w)
theorem zBq{x y:Int}(hh:ieq x y=false):x≠y:=fun e=>by rw[yS e]at hh;cases hh
theorem qIn{g:Pt→Raw⊕Int}(j:∀p e,g p= .inr e→e≠0):∀(f:List Pt)(o:List Wt){e:Int},mxL g f o= .inr e→e≠0
 | [],_,_,hh=>by cases hh
 | p::f,o,e,hh=>by
  simp only[mxL]at hh;cases k:g p with
  | inr x=>rw[k]at hh;cases hh;exact j p _ k
  | inl t=>rw[k]at hh;exact qIn j f _ hh
theorem jGy{a b:List Wt}{w:Raw}{e:Int}(hh:mxA a b w= .inr e):e≠0:=by
 unfold mxA mxS at hh;cases f:ieq (bE a) 0 with
 | false=>rw[f]at hh;cases hh;exact zBq f
 | true=>
 cases j:ieq (bE b) 0 with
 | false=>rw[f,j]at hh;cases hh;exact zBq j
 | true=>
 cases k:ieq w.chk 0 with
 | false=>rw[f,j,k]at hh;cases hh;exact zBq k
 | true=>
 cases q:w.neg with
 | true=>rw[f,j,k,q]at hh;cases hh;decide
 | false=>
 cases y:ilt 0 (yZ w (frA 1))with
 | true=>rw[f,j,k,q,y]at hh;cases hh;decide
 | false=>
 cases z:ieq (seA (frA 1) w) 0 with
 | false=>rw[f,j,k,q,y,z]at hh;cases hh;exact zBq z
 | true=>
  rw[f,j,k,q,y,z]at hh;have hh:mxF adA muA aeA meA w (suA (frA 1) w) (fm1 b (fm0 a [])) (ptF a b)= .inr e:=hh;rw[qIl]at hh;exact qIn (fun p x A=>jBt A) _ _ hh
theorem jBz{w v:Raw}{g f i:Int}{A B X:List Rt}(W:g≠4→f≠4→i≠4→(g≠0∨f≠0)→(ieq (.ofNat w.ln.length) 0||eqA w (frA 1))=true∨i≠0)
  (hB:g≠4→f≠4→i≠4→g=0→f=0→i=0∧A.length=X.length∧B.length=X.length∧X.length<9223372036854775807∧(mxG adA muA aeA meA eqA w v A B X=none∨mxG adA muA aeA meA eqA w v A B X=some true)):mxY frA adA muA aeA meA eqA w v 0 g f i A B X=yB true:=by
 have N:ieq 0 4=false:=rfl;simp only[mxY,N,zf];cases Q:ieq g 4 with
 | true=>rfl
 | false=>cases R:ieq f 4 with
  | true=>rfl
  | false=>cases T:ieq i 4 with
   | true=>rfl
   | false=>
    have E:=zBq Q;have J:=zBq R;have n3:=zBq T;have j:∀z:Bool,((g≠0∨f≠0)→z=true∨i≠0)→mxZ adA muA aeA meA eqA w v g f i A B X z=yB true:=fun z k=>by
     simp only[mxZ];cases K:ieq g 0 with
     | false=>
      rcases k (.inl (zBq K))with e | e
      ·rw[e];rfl
      ·rw[zHi e];cases z<;>rfl
     | true=>cases M:ieq f 0 with
      | false=>
       rcases k (.inr (zBq M))with e | e
       ·rw[e];rfl
       ·rw[zHi e];cases z<;>rfl
      | true=>
       obtain⟨k1,q,y,k4,k5⟩:=hB E J n3 (zV.1 K) (zV.1 M);have l1:ieq (.ofNat A.length) (.ofNat X.length)=true:=yS (by rw[q])
       have l2:ieq (.ofNat B.length) (.ofNat X.length)=true:=yS (by rw[y])
       rw[yS k1,l1,l2,q,y,jL,zP k4];rcases k5 with k5 | k5<;>rw[k5]<;>rfl
    cases k:ieq (.ofNat w.ln.length) 0 with
    | true=>exact j true fun _=> .inl rfl
    | false=>exact j _ fun H=>by have:=W E J n3 H;rwa[k,dz]at this
def eI(h o t:List Int)(G:List Bd)(P D S:Int)(O U:List Nz)(C st V:Raw)(Z:Int)(F I:List (List Int))(L:Int)(l:List Wt)(Y:Int):Int:=bif xpO h o t G P D S O U C st V Z F I L l Y then 0 else .ofNat (xpP h o t G P D S O U C st V Z F I L l Y+1)
def vI(h o t:List Int)(G:List Bd)(P D S:Int)(O U:List Nz)(C st V:Raw)(Z:Int)(F I:List (List Int))(L:Int)(l:List Wt)(Y:Int):List Rt:=bif xpO h o t G P D S O U C st V Z F I L l Y then xpV h o t G P D S O U C st V Z F I L l Y else[]
theorem zUz(h o t:List Int)(G:List Bd)(P D S:Int)(O U:List Nz)(C st V:Raw)(Z:Int)(F I:List (List Int))(L Y:Int)(l:List Wt)(K:Int→List Rt→Option (T×Bool))(e:F.length<9223372036854775807):exK xpO xpV xpP h o t G P D S O U C st V Z F I L Y l K=K (eI h o t G P D S O U C st V Z F I L l Y) (vI h o t G P D S O U C st V Z F I L l Y):=by
 simp only[exK,eI,vI];rw[zP e];cases xpO h o t G P D S O U C st V Z F I L l Y<;>rfl
theorem qOc(h o t:List Int)(G:List Bd)(P D S:Int)(O U:List Nz)(C st V:Raw)(Z:Int)(F I:List (List Int)){L:Int}{l:List Wt}{Y:Int}(hh:eI h o t G P D S O U C st V Z F I L l Y=0):xpO h o t G P D S O U C st V Z F I L l Y=true:=by
 unfold eI at hh;cases e:xpO h o t G P D S O U C st V Z F I L l Y with
 | true=>rfl
 | false=>rw[e]at hh;cases hh
theorem qGe(h o t:List Int)(G:List Bd)(P D S:Int)(O U:List Nz)(C st V:Raw)(Z:Int)(F I:List (List Int)){L:Int}{l:List Wt}{Y:Int}(hh:xpO h o t G P D S O U C st V Z F I L l Y=true∨xpP h o t G P D S O U C st V Z F I L l Y+1=4)(f:eI h o t G P D S O U C st V Z F I L l Y≠4):eI h o t G P D S O U C st V Z F I L l Y=0:=by
 cases e:xpO h o t G P D S O U C st V Z F I L l Y with
 | true=>unfold eI;rw[e];rfl
 | false=>
  rcases hh with hh | hh
  ·rw[e]at hh;cases hh
  ·exact absurd (by unfold eI;rw[e,hh];rfl) f
theorem jFi(h o t:List Int)(G:List Bd)(P D S:Int)(O U:List Nz)(C st V:Raw)(Z:Int)(F I:List (List Int)){L:Int}{l:List Wt}{Y:Int}(hh:xpO h o t G P D S O U C st V Z F I L l Y=true):vI h o t G P D S O U C st V Z F I L l Y=xpV h o t G P D S O U C st V Z F I L l Y:=by unfold vI;rw[hh];rfl
theorem w_in{w:Raw}(A:w.chk=0)(f:∀y∈w.ln,y<4294967296)(j:∀y∈w.ld,y<4294967296)(H:0≤w.rat)(w1:w.rat≤1)(q:(ieq (.ofNat w.ln.length) 0||eqA w (frA 1))=false):0<w.rat∧w.rat<1:=by
 simp only[xr]at q;obtain⟨z,B⟩:=q;have k:=(qIy A f j).1;have n0:w.rat≠0:=fun e=>by
  rw[e]at k;have:(Raw.of 0).ln=[]:=rfl;rw[←k,this]at z;cases z
 have E:w.rat≠1:=fun e=>by
  rw[e,←fr1]at k;exact(kh B) k.symm
 grind
theorem mx22(h o t:List Int)(G:List Bd)(P D S:Int)(O U:List Nz)(C st V:Raw)(Z:Int)(F I:List (List Int))(L Y:Int){f j:List Wt}{w:Raw}(wa:okW f)(wb:okW j)(Q:∀y∈w.ln,y<4294967296)(R:∀y∈w.ld,y<4294967296)(h0:f.length≤100000)(h1:j.length≤100000)(N:F.length<9223372036854775807):qIm qIg qIf bE frA suA seA xpO xpV xpP adA muA aeA meA eqA h o t G P D S O U C st V Z F I L Y f j w=yB true:=by
 simp only[qIm,gd,yJ h0,yJ h1,q9,ze];cases H:mxA f j w with
 | inr e=>
  have E:qIf f j w=e:=by show erS (mxA f j w)=e;rw[H];rfl
  have J:qIg f j w=[]:=by show lsS (mxA f j w)=[];rw[H];rfl
  rw[E,J,zHi (jGy H)];rfl
 | inl r=>
  have hm:=jBy wa wb H;have E:qIf f j w=0:=by show erS (mxA f j w)=0;rw[H];rfl
  have J:qIg f j w=r.reverse:=by show lsS (mxA f j w)=r.reverse;rw[H];rfl
  rw[E,J];rcases hm.be with hb | hb
  ·rw[hb];simp only[mxM];rw[zUz h o t G P D S O U C st V Z F I L Y f _ N,zUz h o t G P D S O U C st V Z F I L Y j _ N,zUz h o t G P D S O U C st V Z F I L Y r.reverse _ N,hm.ve];refine jBz (fun n1 n2 n3 z=>?_) (fun n1 n2 n3 g1 g2=>?_)
   ·refine ko fun T=>?_;have hz:(ieq (.ofNat w.ln.length) 0||eqA w (frA 1))=false:=by
     cases e:(ieq (.ofNat w.ln.length) 0||eqA w (frA 1))with
     | false=>rfl
     | true=>exact absurd (.inl e) T
    have A:eI h o t G P D S O U C st V Z F I L r.reverse Y=0:=ko fun k=>T (.inr k);have q:=qOc h o t G P D S O U C st V Z F I A;obtain⟨p0,p1⟩:=w_in hm.wc Q R hm.w0 hm.w1 hz;have q1:=qGe h o t G P D S O U C st V Z F I (qQf h o t G P D S O U C st V Z F I hm p0 q) n1;have q2:=qGe h o t G P D S O U C st V Z F I (qQg h o t G P D S O U C st V Z F I hm p1 q) n2;rcases z with z | z
    ·exact z q1
    ·exact z q2
   ·have K:=qOc h o t G P D S O U C st V Z F I g1;have M:=qOc h o t G P D S O U C st V Z F I g2;have A:=qGe h o t G P D S O U C st V Z F I (qQh h o t G P D S O U C st V Z F I hm hb K M) n3;have q:=qOc h o t G P D S O U C st V Z F I A;have B:=qAw h o t G P D S O U C st V Z F I K;have W:=qAw h o t G P D S O U C st V Z F I M;have X:=qAw h o t G P D S O U C st V Z F I q;have hT:Tab h o t G S Z F I:=qLo (B.pt 0 (zGl B.be).1);have a6:=hT.mod.av6;rw[jFi h o t G P D S O U C st V Z F I K,jFi h o t G P D S O U C st V Z F I M,jFi h o t G P D S O U C st V Z F I q,B.len,W.len,X.len];exact⟨A,rfl,rfl,by omega,jCa h o t G P D S O U C st V Z F I hm B W X⟩
  ·rw[hb];rfl
theorem qPx{l:List Wt}(hh:lgZ l=false):l.length≤5000:=by
 unfold lgZ at hh;cases f:lgF l with
 | none=>rw[f]at hh;cases hh
 | some c=>
  rw[f]at hh;have hh:lgB l.length c=false:=hh;unfold lgB at hh;cases e:ilt 5000 (.ofNat l.length)with
  | false=>
   rcases qi 5000 l.length with g | g
   ·rw[mZ (show(5000:Int)<.ofNat l.length by show(5000:Int)<(l.length:Int);omega)]at e;cases e
   ·exact g
  | true=>
   rw[e]at hh;cases j:ilt 110 (.ofNat l.length)<;>cases k:ilt 4096 (.ofNat l.length)<;>rw[j]at hh<;>(try rw[k]at hh)<;>cases hh
theorem qLh{l:List Wt}{K:Option (T×Bool)}(f:l.length<9223372036854775807)(j:l.length≤5000→K=yB true):smK lgZ l K=yB true:=by
 simp only[smK];rw[zP f];cases e:lgZ l with
 | true=>rfl
 | false=>
  rw[j (qPx e)];cases ilt 12 (.ofNat l.length)<;>cases ilt 4096 (.ofNat l.length)<;>rfl
theorem qBv(h o t:List Int)(G:List Bd)(P D S:Int)(O U:List Nz)(C st V:Raw)(Z:Int)(F I:List (List Int))(L Y:Int)(f j k:Raw)(hd:Int){e A:List Wt}{w:Raw}(K:okW e)(M:okW A)(q:∀y∈w.ln,y<4294967296)(z:∀y∈w.ld,y<4294967296)(E:e.length<9223372036854775807)(H:A.length<9223372036854775807)(B:F.length<9223372036854775807)(J:I.length<9223372036854775807):((qF Tryz.prog (evD Tryz.prog (odT [(13,odR [tbT] (qIv lgT)),(38,odR [.list wT] (oLg lgZ)),(65,odR [.list zL] (oWd wdZ)),(16,oAw),(41,odR [.list wT,.list wT,zL] (oMx qIg qIf)),(46,odR [.list wT] (oBc bE)),(47,kcD (pI frA) true),(48,kcD (pRR fun a b=>some (suA a b,seA a b)) true),(22,odR [tbT,nT,.list wT,nT] (oEx xpO xpV xpP)),(37,kcD (pB eqA) true)]) (LMx adA muA aeA meA eqA) 60) 9 [.ag [.ls .a nT h,.ls .a nT o,.ls .a nT t,.ls .a bT G,vi P,vi D,vi S,.ls .a nzT O,.ls .a nzT U,.v (.bool C.1),.ls .a .lim C.2,.ls .a .lim C.3,.v (.bool st.1),.ls .a .lim st.2,.ls .a .lim st.3,.v (.bool V.1),.ls .a .lim V.2,.ls .a .lim V.3,vi Z,.ls .a (.list nT) F,.ls .a (.list nT) I,vi L,vi Y,.v (.bool f.1),.ls .a .lim f.2,.ls .a .lim f.3,.v (.bool j.1),.ls .a .lim j.2,.ls .a .lim j.3,.v (.bool k.1),.ls .a .lim k.2,.ls .a .lim k.3,.v (.int .u8 hd)],.ag [.ls .a wT e,.ls .a wT A],.ag (rC w)] []).bind qJ).run=yB true:=by
 rw[qXw,zP B,zP J];cases lgT h o t G P D S O U C st V Z F I with
 | true=>rfl
 | false=>
  show smK lgZ e _=_;refine qLh E fun N=>qLh H fun Q=>?_;cases wdZ [toT w]with
  | true=>rfl
  | false=>exact mx22 h o t G P D S O U C st V Z F I L Y K M q z (by omega) (by omega) B
theorem qQq(ha:KnP Tryz.prog 0 16 [] (.v (.bool true)) true):wC Tryz.prog (odT [(13,odR [tbT] (qIv lgT)),(38,odR [.list wT] (oLg lgZ)),(65,odR [.list zL] (oWd wdZ)),(16,oAw),(41,odR [.list wT,.list wT,zL] (oMx qIg qIf)),(46,odR [.list wT] (oBc bE)),(47,kcD (pI frA) true),(48,kcD (pRR fun a b=>some (suA a b,seA a b)) true),(22,odR [tbT,nT,.list wT,nT] (oEx xpO xpV xpP)),(37,kcD (pB eqA) true)]):=
 zS (zS (zS (zS (zS (zS (zS (zS (zS (zS jZ fun e f j h k=>xK kEq e f h k) (jI kEx)) fun e f j h k=>xK jAu e f h k) fun e f j h k=>xK zRl e f h k) (jI kBc)) (jI kMx)) (fun e f j h k=>by
  unfold oAw at h;split at h
  ·cases h;exact ha.clean rfl rfl k
  ·cases h)) (jI kWd)) (jI kLg)) (jI kLgT)
theorem jBm:vJ Tryz.prog (LMx adA muA aeA meA eqA):=jP qA (kM yL (zS (zS (zS jZ fun e f j h k=>xK kEq e f h k) fun e f j h k=>xK qHp e f h k) fun e f j h k=>xK qPh e f h k) qA 60) qWc (qZy adA muA aeA meA eqA)
abbrev tbN:Ty:= .prod mdT (.prod nT (.prod (.list (.list nT)) (.list (.list nT))))
abbrev zEr:Ty:= .prod tbN (.prod nT (.prod nT (.prod (.prod zL (.prod zL zL)) (.int .u8))))
abbrev arW:Ty:= .prod (.list wT) (.list wT)
theorem qUo{l:List Wt}(hh:zAr (.list wT) l):okW l∧l.length<9223372036854775807:=by
 refine⟨fun x j=>?_,?_⟩
 ·obtain⟨_,_,⟨_,e⟩,_,f⟩:=hh.2 x j;exact⟨e,f⟩
 ·have e:l.length*Ty.bts wT≤140737488351232:=hh.1;have f:1≤Ty.bts wT:=by decide
  have:=qx (vj l.length f) e;omega
theorem qPl(ha:KnP Tryz.prog 0 16 [] (.v (.bool true)) true)(e:zEr.den)(f:arW.den)(j:zL.den)(w0:zAr zEr e)(w1:zAr arW f)(w2:zAr zL j):KnP Tryz.prog 0 9 [.ag (zZ .a zEr e),.ag (zZ .a arW f),.ag (zZ .a zL j)] (.v (.bool true)) true:=by
 obtain⟨⟨⟨h,o,t,G,P,D,S,O,U,⟨k,C,q⟩,⟨W,sl,X⟩,⟨Q,R,T⟩⟩,Z,F,I⟩,L,Y,⟨⟨y,E,H⟩,⟨z,J,K⟩,⟨A,M,N⟩⟩,hd⟩:=e;obtain⟨y0,y1⟩:=f;obtain⟨wb,wl,wm⟩:=j;have q1:F.length*Ty.bts (.list nT)≤140737488351232:=w0.1.2.2.1.1;have q2:I.length*Ty.bts (.list nT)≤140737488351232:=w0.1.2.2.2.1;have B:1≤Ty.bts (.list nT):=by decide
 have r1:=qx (vj F.length B) q1;have r2:=qx (vj I.length B) q2;obtain⟨a1,a2⟩:=qUo w1.1;obtain⟨a3,a4⟩:=qUo w1.2;exact yN (cz:=[.ag (zZ .a zEr (((h,o,t,G,P,D,S,O,U,(k,C,q),(W,sl,X),(Q,R,T)),Z,F,I),L,Y,((y,E,H),(z,J,K),(A,M,N)),hd)),.ag (zZ .a arW (y0,y1)),.ag (zZ .a zL (wb,wl,wm))]) yL (qQq ha) jBm (qBv h o t G P D S O U ⟨k,C,q⟩ ⟨W,sl,X⟩ ⟨Q,R,T⟩ Z F I L Y ⟨y,E,H⟩ ⟨z,J,K⟩ ⟨A,M,N⟩ hd (w:=⟨wb,wl,wm⟩) a1 a3 w2.2.1.2 w2.2.2.2 a2 a4 (by omega) (by omega)) rfl 0
theorem qPm(e:zEr.den)(f:arW.den)(j:zL.den)(k:zAr zEr e)(w1:zAr arW f)(q:zAr zL j):KnP Tryz.prog 0 9 [.ag (zZ .a zEr e),.ag (zZ .a arW f),.ag (zZ .a zL j)] (.v (.bool true)) true:=qPl jGp e f j k w1 q
end
end Go.Proofs.YtdfmdiakjdggbaaGreatDoor

import Derived.OpenShut
import Derived.WideShapes
import Derived.Shelf.Strings.Builder1
import Derived.Shelf.Strconv.Itoa3
import Derived.LaidSub
import Derived.Lib.LaidTab
import Derived.LaidMore
import Derived.Lay
import Derived.Test.YtdfmdiakjdggbaaGreatDoorRows
import Derived.WalkKit
import Derived.BigCall
import Derived.LoopTactic
import Derived.Lib.AppendIntMem
import Derived.Lib.ItoaLen
import Derived.Test.YtdfmdiakjdggbaaGreatDoorBaseA
import Derived.Test.YtdfmdiakjdggbaaGreatDoorBaseB
import Derived.Test.YtdfmdiakjdggbaaGreatDoorBaseC
import Derived.Test.YtdfmdiakjdggbaaGreatDoorBaseD
import Derived.Test.YtdfmdiakjdggbaaGreatDoorBaseE
set_option linter.unusedVariables false
set_option linter.unusedSimpArgs false
set_option linter.unnecessarySimpa false
namespace Go.Ev
open Go Go.Gv Go.RowKit IntKind
noncomputable def us':Nat→List Sl
 | 0=>[]
 | n+1=> .u::us' n
noncomputable def lpc(P:Program)(f:Nat)(p:List Bool):Code:=match cAt P f p with
 | some (.loop x)=>x
 | _=> .skip
def fol{α γ:Type}(g:Nat→α→α⊕γ)(d:α→γ):Nat→Nat→α→γ
 | 0,_,a=>d a
 | k+1,i,a=>match g i a with
  | .inl b=>fol g d k (i+1) b
  | .inr y=>y
section
variable {P:Program}{f:Nat}
noncomputable def kcT(p:List Ar→DT Rs)(nw:Bool)(az:List T):DT (T×Bool):=match zSg az with
 | some az=>(p az).bind fun y=> .ret (jAo y,nw)
 | none=> .no
theorem zTh{p:List Ar→DT Rs}{nw:Bool}(F:KC P f (fun az=>(p az).run) nw):∀az tv j,(kcT p nw az).run=some (tv,j)→∀k,KnP P k f az tv j:=by
 intro az tv j h k;unfold kcT at h;split at h
 ·rename_i q z;obtain⟨y,A,C⟩:=zM h;cases C;intro B w X qO R _ _ E D G;refine(F w X E q qO (zLq z D) y A).mono ?_;rintro e w' ⟨I,v,rfl,hv⟩;exact G v w' I (zXy hv)
 ·cases h
end
theorem zP{a b:Nat}(h:a<b):Nat.blt a b=true:=by rw[Nat.blt_eq];exact h
theorem yL{a b:Nat}(h:b≤a):Nat.blt a b=false:=by
 cases e:Nat.blt a b with
 | false=>rfl
 | true=>rw[Nat.blt_eq]at e;omega
theorem kZ{a b:Nat}(h:a≤b):Nat.ble a b=true:=by rw[Nat.ble_eq];exact h
theorem kG(a:Nat):Nat.beq a a=true:=Nat.beq_refl a
end Go.Ev
namespace Go.Ev
open Go Go.Gv Go.RowKit Go.ChangeShapes IntKind
def Ty.bts:Ty→Nat
 | .lim=>4
 | .int .i64=>8
 | .int .u64=>8
 | .int .i32=>4
 | .int .u32=>4
 | .int .i16=>2
 | .int .u16=>2
 | .int _=>1
 | .bool=>1
 | .str=>1
 | .list _=>24
 | .prod A B=>A.bts+B.bts
def zDv:(A:Ty)→A.den→Prop
 | .lim,a=>a<4294967296
 | .int .i64,a=> -9223372036854775808≤a∧a≤9223372036854775807
 | .int _,_=>True
 | .bool,_=>True
 | .str,_=>True
 | .list A,l=>l.length*A.bts≤140737488351232∧∀x∈l,zDv A x
 | .prod A B,x=>zDv A x.1∧zDv B x.2
mutual
inductive TyF (P:Program):Ty→TypeId→Prop
  | lim {t:TypeId} (h:P.underlying t=some (.int .u32)):TyF P .lim t
  | int {t:TypeId} {k:IntKind} (h:P.underlying t=some (.int k)):TyF P (.int k) t
  | bool {t:TypeId} (h:P.underlying t=some .bool):TyF P .bool t
  | list {t e:TypeId} {A:Ty} (h:P.underlying t=some (.slice e)) (hs:P.cellsOf e=A.size) (hb:A.bts≤P.bytesOf e) (he:TyF P A e):TyF P (.list A) t
  | arr {t e:TypeId} {n:Nat} {A:Ty} (h:P.underlying t=some (.array n e)) (hs:P.cellsOf t=A.size) (hf:ArF P A e n):TyF P A t
  | struct {t:TypeId} {A:Ty} {fs:Array Field} (h:P.underlying t=some (.struct fs)) (hs:P.cellsOf t=A.size) (hf:FsF P A 0 fs.toList):TyF P A t
inductive ArF (P:Program):Ty→TypeId→Nat→Prop
  | one {A:Ty} {e:TypeId} (hs:P.cellsOf e=A.size) (h:TyF P A e):ArF P A e 1
  | cons {A B:Ty} {e:TypeId} {n:Nat} (hs:P.cellsOf e=A.size) (h:TyF P A e) (hl:ArF P B e n):ArF P (.prod A B) e (n+1)
inductive FsF (P:Program):Ty→Nat→List Field→Prop
  | one {A:Ty} {off:Nat} {f:Field} (ho:f.offset=off) (hs:P.cellsOf f.type=A.size) (h:TyF P A f.type):FsF P A off [f]
  | cons {A B:Ty} {off:Nat} {f:Field} {l:List Field} (ho:f.offset=off) (hs:P.cellsOf f.type=A.size) (h:TyF P A f.type) (hl:FsF P B (off+A.size) l):FsF P (.prod A B) off (f::l)
end
section
variable {H:Type}{enc:TypeId×Value→H}{P:Program}{w:World}{spare:Nat→Bool}{held:Bool}
def Opn(enc:TypeId×Value→H)(P:Program)(w:World)(spare:Nat→Bool)(held:Bool)(A:Ty)(t:TypeId):Prop:=∀(n:Nat)(cs:List Value)(y:DataW H×List MemPlace),nW enc P w spare held n t cs y→∃x:A.den,zDv A x∧jG (rd w X0) (fun _=>True) A x cs
def qBg(enc:TypeId×Value→H)(P:Program)(w:World)(spare:Nat→Bool)(held:Bool)(A:Ty)(off:Nat)(l:List Field):Prop:=∀(cs:List Value),cs.length=off+A.size→(∀f∈l,∃n y,nW enc P w spare held n f.type ((cs.drop f.offset).take (P.cellsOf f.type)) y)→∃x:A.den,zDv A x∧jG (rd w X0) (fun _=>True) A x (cs.drop off)
theorem qNk{t:TypeId}(h:P.underlying t=some (.int .u32)):Opn enc P w spare held .lim t:=by
 intro n cs y k;obtain⟨z,rfl,_,e⟩:=DataW.trod_int h k.1;have j:0≤z∧z<4294967296:=by
  simp[Lit.wf,IntKind.min,IntKind.max,IntKind.signed,IntKind.bits]at e;omega
 refine⟨z.toNat,show z.toNat<4294967296 by omega,?_,show z.toNat<4294967296 by omega⟩
 rw[Int.ofNat_eq_natCast,Int.toNat_of_nonneg j.1]
theorem qNj{t:TypeId}{kk:IntKind}(h:P.underlying t=some (.int kk)):Opn enc P w spare held (.int kk) t:=by
 intro n cs y j;obtain⟨z,rfl,_,e⟩:=DataW.trod_int h j.1;refine⟨z,?_,rfl⟩;cases kk<;>first | trivial | skip
 simp[Lit.wf,IntKind.min,IntKind.max,IntKind.signed,IntKind.bits]at e;exact⟨show -9223372036854775808≤z by omega,show z≤9223372036854775807 by omega⟩
theorem qGb{t:TypeId}(h:P.underlying t=some .bool):Opn enc P w spare held .bool t:=by
 intro n cs y k;obtain⟨b,rfl,_⟩:=DataW.trod_bool h k.1;exact⟨b,trivial,rfl⟩
theorem qGd{t e:TypeId}{A:Ty}(h:P.underlying t=some (.slice e))(hs:P.cellsOf e=A.size)(hb:A.bts≤P.bytesOf e)(J:Opn enc P w spare held A e):Opn enc P w spare held (.list A) t:=by
 intro n cs y k;obtain⟨ad,len,cap,xs,rfl,q,K⟩:=qNh (α:=A.den) (El:=fun r a x=>zDv A x∧∃us,us.length=A.size∧jG r (fun _=>True) A x us∧At r a us) (bts:=P.bytesOf e) h hs A.size_pos rfl (fun n cs y b off I B hat=>by
  obtain⟨x,hv,G⟩:=J n cs y I;exact⟨x,hv,cs,B,G,hat⟩) k
 refine⟨xs,⟨?_,?_⟩,ad,cap,?_,?_⟩
 ·have:xs.length*A.bts≤xs.length*P.bytesOf e:=Nat.mul_le_mul_left _ hb;omega
 ·intro x z;rcases q.hat with rfl | ⟨b,off,_,ha⟩
  ·cases z
  ·obtain⟨i,C⟩:=List.getElem?_of_mem z;exact(ha i x C).1
 ·rw[q.hlen]
 ·refine⟨by rw[←q.hlen];exact q.hcap,q.hbig,q.hat.imp id fun⟨b,off,e,ha⟩=>⟨b,off,e,trivial,fun i x C=>?_⟩⟩
  obtain⟨_,us,D,E,F⟩:=ha i x C;refine⟨us,D,E,fun j v hv=>?_⟩;have:=F j v hv;rwa[jO,Nat.add_assoc]at this
theorem zTx{t:TypeId}{A:Ty}{e:Array Field}(h:P.underlying t=some (.struct e))(hs:P.cellsOf t=A.size)(C:qBg enc P w spare held A 0 e.toList):Opn enc P w spare held A t:=by
 intro n cs y k;have B:=flen h k hs;obtain⟨x,hv,j⟩:=C cs (by rw[B,Nat.zero_add]) fun f q=>by
  obtain⟨i,z⟩:=List.getElem?_of_mem q;exact fld h k i (by simpa using z) rfl
 exact⟨x,hv,by simpa using j⟩
theorem qSw{t e:TypeId}{n fuel:Nat}{cs:List Value}{x:DataW H×List MemPlace}(ht:P.underlying t=some (.array n e))(h:nW enc P w spare held fuel t cs x)(i:Nat)(z:i<n):
  ∃m y,nW enc P w spare held m e ((cs.drop (i*P.cellsOf e)).take (P.cellsOf e)) y:=by
 obtain⟨xs,m,_,j,_,C,q⟩:=DataW.trod_array ht h.1;have:=q i z;refine⟨m,xs[i]'(by omega),this.trans (List.getElem?_eq_getElem _),fun b off B=>h.2.1 b off ?_,fun k A=>h.2.2 k ?_⟩
 ·rw[j];exact List.mem_flatMap.2 ⟨_,List.getElem_mem _,B⟩
 ·rw[j];simp only[DataW.weights,ht];exact jAs (d:=(xs[i]'(by omega)).1) A (List.mem_map.2 ⟨_,List.getElem_mem _,rfl⟩)
def qBf(enc:TypeId×Value→H)(P:Program)(w:World)(spare:Nat→Bool)(held:Bool)(A:Ty)(e:TypeId)(n:Nat):Prop:=∀(cs:List Value),cs.length=A.size→(∀i,i<n→∃m y,nW enc P w spare held m e ((cs.drop (i*P.cellsOf e)).take (P.cellsOf e)) y)→∃x:A.den,zDv A x∧jG (rd w X0) (fun _=>True) A x cs
theorem qNi{t e:TypeId}{n:Nat}{A:Ty}(h:P.underlying t=some (.array n e))(hs:P.cellsOf t=A.size)(z:qBf enc P w spare held A e n):Opn enc P w spare held A t:=by
 intro m cs y k;obtain⟨_,_,_,_,q,_⟩:=DataW.trod_array h k.1;exact z cs (q.trans hs) fun i j=>qSw h k i j
theorem qGa{A:Ty}{e:TypeId}(hs:P.cellsOf e=A.size)(q:Opn enc P w spare held A e):qBf enc P w spare held A e 1:=by
 intro cs z j;obtain⟨m,y,k⟩:=j 0 Nat.one_pos;rw[Nat.zero_mul,List.drop_zero,hs,List.take_of_length_le (by omega)]at k
 exact q m _ y k
theorem zZm{j q:Ty}{e:TypeId}{n:Nat}(hs:P.cellsOf e=j.size)(I:Opn enc P w spare held j e)(B:qBf enc P w spare held q e n):qBf enc P w spare held (.prod j q) e (n+1):=by
 intro cs F C;obtain⟨m,y,k⟩:=C 0 (Nat.succ_pos n);rw[Nat.zero_mul,List.drop_zero,hs]at k;obtain⟨x,hv,D⟩:=I m _ y k;have G:cs.length=j.size+q.size:=F;obtain⟨x2,A,z⟩:=B (cs.drop j.size) (by rw[List.length_drop];omega) fun i E=>by
  obtain⟨m,y,k⟩:=C (i+1) (Nat.succ_lt_succ E);rw[hs,Nat.add_mul,Nat.one_mul,Nat.add_comm]at k;exact⟨m,y,by rw[hs,List.drop_drop];exact k⟩
 exact⟨(x,x2),⟨hv,A⟩,cs.take j.size,cs.drop j.size,(List.take_append_drop _ _).symm,D,z⟩
theorem qNl{A:Ty}{off:Nat}{f:Field}(ho:f.offset=off)(hs:P.cellsOf f.type=A.size)(q:Opn enc P w spare held A f.type):qBg enc P w spare held A off [f]:=by
 intro cs z j;obtain⟨n,y,k⟩:=j _ List.mem_cons_self;obtain⟨x,hv,e⟩:=q n _ y k;refine⟨x,hv,?_⟩;rw[ho,hs,List.take_of_length_le (by rw[List.length_drop];omega)]at e
 exact e
theorem qGc{e j:Ty}{off:Nat}{f:Field}{l:List Field}(ho:f.offset=off)(hs:P.cellsOf f.type=e.size)(F:Opn enc P w spare held e f.type)(B:qBg enc P w spare held j (off+e.size) l):qBg enc P w spare held (.prod e j) off (f::l):=by
 intro cs E D;obtain⟨n,y,k⟩:=D _ List.mem_cons_self;obtain⟨x,hv,C⟩:=F n _ y k;obtain⟨x2,A,q⟩:=B cs (by rw[E];show off+(e.size+j.size)=_;omega) fun f z=>D f (List.mem_cons_of_mem _ z)
 refine⟨(x,x2),⟨hv,A⟩,(cs.drop off).take e.size,(cs.drop off).drop e.size,(List.take_append_drop _ _).symm,?_,?_⟩
 ·rw[ho,hs]at C;exact C
 ·rw[List.drop_drop];exact q
theorem TyF.open{A:Ty}{t:TypeId}(h:TyF P A t):Opn enc P w spare held A t:=
 TyF.rec (motive_1:=fun A t _=>Opn enc P w spare held A t) (motive_2:=fun A e n _=>qBf enc P w spare held A e n) (motive_3:=fun A off l _=>qBg enc P w spare held A off l) (fun h=>qNk h) (fun h=>qNj h) (fun h=>qGb h) (fun h hs hb _ j=>qGd h hs hb j) (fun h hs _ j=>qNi h hs j) (fun h hs _ j=>zTx h hs j) (fun hs _ j=>qGa hs j) (fun hs _ _ j q=>zZm hs j q) (fun ho hs _ j=>qNl ho hs j) (fun ho hs _ _ j q=>qGc ho hs j q) h
end
section
variable {H:Type}{enc:TypeId×Value→H}{P:Program}{w:World}{spare:Nat→Bool}{held:Bool}
theorem qNg{t e:TypeId}{A:Ty}{v:Value}{d:DataW H}{ps:List MemPlace}{r:Reach}{base:Nat}(ht:P.underlying t=some (.slice e))(q:TyF P (.list A) t)(j:Value.okWide P w r base t v)(h:DataW.Trod enc P w 0 spare held t v d ps)(C:w.noneFrozen ps)(z:∀n∈d.weights P t,n≤140737488351232)(B:Bm):
  ∃x:List A.den,zDv (.list A) x∧Rep B (rd w X0) (.ls .a A x) v:=by
 obtain⟨a,len,cap,rfl⟩:=Go.WideShapes.okWide_slice ht j;obtain⟨n,h⟩:=h;have h:nW enc P w spare held n t _ _:=⟨h,C,z⟩;simp only[Value.cells]at h;obtain⟨x,hv,y⟩:=TyF.open q n _ _ h;exact⟨x,hv,.ls (jG.mono (Le.refl _) (fun _ _=>Bm.In.any) _ _ _ y)⟩
theorem qNf{t:TypeId}{A:Ty}{v:Value}{d:DataW H}{ps:List MemPlace}{r:Reach}{base:Nat}(ht:(∃q,P.underlying t=some (.struct q))∨∃n e,P.underlying t=some (.array n e))(z:TyF P A t)(j:Value.okWide P w r base t v)(h:DataW.Trod enc P w 0 spare held t v d ps)(E:w.noneFrozen ps)(D:∀n∈d.weights P t,n≤140737488351232)(B:Bm):
  ∃x:A.den,zDv A x∧Rep B (rd w X0) (.ag (qD .a A x)) v:=by
 have hv:∃cs,v= .agg cs:=by
  rcases ht with⟨q,ht⟩ | ⟨n,e,ht⟩<;>(simp only[Value.okWide,ht]at j;obtain⟨cs,y,_⟩:=j;exact⟨cs,y⟩)
 obtain⟨cs,rfl⟩:=hv;obtain⟨n,h⟩:=h;have h:nW enc P w spare held n t _ _:=⟨h,E,D⟩;simp only[Value.cells]at h;obtain⟨x,hv,C⟩:=TyF.open z n _ _ h;refine⟨x,hv,?_⟩;have:=Rep.mkAg (B:=B) (r:=rd w X0) (jG.reps (g:= .a) A x cs.toList (jG.mono (Le.refl _) (fun _ _=>Bm.In.any) _ _ _ C));simpa using this
end
end Go.Ev
namespace Go.Proofs.YtdfmdiakjdggbaaGreatDoor
open Go Go.Gv Go.Ev Go.RowKit IntKind
theorem qWv:KC Tryz.prog 34 (pRR fun a b=>some (opR a b (a.rat+b.rat),opE a b (a.rat+b.rat))) true:=zVz fun w X A a C ha b D hb y B=>by
 obtain⟨_,_,_,_,_,_,rfl,e,j⟩:=ha;obtain⟨_,_,_,_,_,_,rfl,q,z⟩:=hb;cases B;exact qZj w X A a _ _ _ e _ _ _ j b _ _ _ q _ _ _ z
theorem qLv:KC Tryz.prog 49 (pRR fun a b=>some (opR a b (a.rat*b.rat),opE a b (a.rat*b.rat))) true:=zVz fun w X A a C ha b D hb y B=>by
 obtain⟨_,_,_,_,_,_,rfl,e,j⟩:=ha;obtain⟨_,_,_,_,_,_,rfl,q,z⟩:=hb;cases B;exact qZm w X A a _ _ _ e _ _ _ j b _ _ _ q _ _ _ z
theorem kSub:KC Tryz.prog 48 (pRR fun a b=>some (opR a b (a.rat-b.rat),opE a b (a.rat-b.rat))) true:=zVz fun w X A a C ha b D hb y B=>by
 obtain⟨_,_,_,_,_,_,rfl,e,j⟩:=ha;obtain⟨_,_,_,_,_,_,rfl,q,z⟩:=hb;cases B;exact qZo w X A a _ _ _ e _ _ _ j b _ _ _ q _ _ _ z
theorem kDiv:KC Tryz.prog 80 (pRR fun a b=>bif Nat.beq (val b.ln) 0 then none else some (opR a b (a.rat / b.rat),opE a b (a.rat / b.rat))) true:=zVz fun w X D a E ha b F hb y q=>by
 obtain⟨_,_,_,_,_,_,rfl,z,A⟩:=ha;obtain⟨_,_,_,_,_,_,rfl,B,C⟩:=hb;cases j:Nat.beq (val b.ln) 0 with
 | true=>simp[j]at q
 | false=>
  simp only[j,zf]at q;cases q;exact qZl w X D a _ _ _ z _ _ _ A b _ _ _ B _ _ _ C (fun e=>by rw[e]at j;cases j)
theorem qWw:KC Tryz.prog 33 (pRI fun a b=>(yE a b,xB a b)) true:=jBw fun w X z a A ha b B hb=>by
 obtain⟨_,_,_,_,_,_,rfl,e,j⟩:=ha;obtain⟨_,_,_,_,_,_,rfl,q,y⟩:=hb;exact qZk w X z a _ _ _ e _ _ _ j b _ _ _ q _ _ _ y
theorem kChk:KC Tryz.prog 75 (pR Raw.chk) true:=kc_r fun w X q a y ha=>by
 obtain⟨_,_,_,_,_,_,rfl,e,j⟩:=ha;exact wM w X q a _ _ _ e _ _ _ j
theorem jBu:KC Tryz.prog 73 (pR Raw.chk) true:=kc_r fun w X q a y ha=>by
 obtain⟨_,_,_,_,_,_,rfl,e,j⟩:=ha;exact zZx w X q a _ _ _ e _ _ _ j
theorem zVx:KC Tryz.prog 47 (pI fun n=>Raw.of (n:Rat)) true:=kc_i fun w n e j=>qOa w (old w) (fun k _ h=>h) n e j
theorem qWx:KC Tryz.prog 51 (pI fun n=>Raw.of (n:Rat)) true:=kc_i fun w n e j=>qHj w (old w) (fun k _ h=>h) n e j
theorem kOf:KC Tryz.prog 126 (pII fun n m=>Raw.of (mkRat (sgn (!(decide (n<0)==decide (m<0))) n.natAbs) m.natAbs)) true:=qQp fun w n m e j q y z=>jCl w (old w) (fun k _ h=>h) n m e j q y z
theorem kOf6:KC Tryz.prog 53 (pII fun n m=>Raw.of (mkRat (sgn (decide (n<0)!=decide (m<0)) n.natAbs) m.natAbs)) true:=qQp fun w n m e j q y z=>qZn w (old w) (fun k _ h=>h) n m e j q y z
theorem kEq:KC Tryz.prog 37 (pB fun a b=>decide (a=b)) true:=kc_b fun w X z a A ha b B hb=>by
 obtain⟨_,_,_,_,_,_,rfl,e,j⟩:=ha;obtain⟨_,_,_,_,_,_,rfl,q,y⟩:=hb;exact zRu w X z a _ _ _ e _ _ _ j b _ _ _ q _ _ _ y
noncomputable def zTr:List (Nat×(List T→Option (T×Bool))):=[(34,kcE (pRR fun a b=>some (opR a b (a.rat+b.rat),opE a b (a.rat+b.rat))) true),(49,kcE (pRR fun a b=>some (opR a b (a.rat*b.rat),opE a b (a.rat*b.rat))) true),(48,kcE (pRR fun a b=>some (opR a b (a.rat-b.rat),opE a b (a.rat-b.rat))) true),(80,kcE (pRR fun a b=>bif Nat.beq (val b.ln) 0 then none else some (opR a b (a.rat / b.rat),opE a b (a.rat / b.rat))) true),(33,kcE (pRI fun a b=>(yE a b,xB a b)) true),(75,kcE (pR Raw.chk) true),(73,kcE (pR Raw.chk) true),(47,kcE (pI fun n=>Raw.of (n:Rat)) true),(51,kcE (pI fun n=>Raw.of (n:Rat)) true),(126,kcE (pII fun n m=>Raw.of (mkRat (sgn (!(decide (n<0)==decide (m<0))) n.natAbs) m.natAbs)) true),(53,kcE (pII fun n m=>Raw.of (mkRat (sgn (decide (n<0)!=decide (m<0)) n.natAbs) m.natAbs)) true),(37,kcE (pB fun a b=>decide (a=b)) true)]
theorem qXz:qR Tryz.prog (xS zTr):=qIf fun g p e ts tv nw h k=>by
 simp only[zTr,List.mem_cons,List.not_mem_nil,or_false,Prod.mk.injEq]at e;rcases e with⟨rfl,rfl⟩ | ⟨rfl,rfl⟩ | ⟨rfl,rfl⟩ | ⟨rfl,rfl⟩ | ⟨rfl,rfl⟩ | ⟨rfl,rfl⟩ | ⟨rfl,rfl⟩ | ⟨rfl,rfl⟩ | ⟨rfl,rfl⟩ | ⟨rfl,rfl⟩ | ⟨rfl,rfl⟩ | ⟨rfl,rfl⟩
 ·exact gJ qWv h k
 ·exact gJ qLv h k
 ·exact gJ kSub h k
 ·exact gJ kDiv h k
 ·exact gJ qWw h k
 ·exact gJ kChk h k
 ·exact gJ jBu h k
 ·exact gJ zVx h k
 ·exact gJ qWx h k
 ·exact gJ kOf h k
 ·exact gJ kOf6 h k
 ·exact gJ kEq h k
end Go.Proofs.YtdfmdiakjdggbaaGreatDoor
namespace Go.Proofs.YtdfmdiakjdggbaaGreatDoor
open Go Go.RowKit Go.Shelf IntKind
set_option maxRecDepth 100000
set_option maxHeartbeats 1000000
def qPy:Go.Shelf.Ren:=⟨fun | 166=>201 | 240=>257 | 276=>276 | n=>n,fun | 0=>0 | 3=>3 | 4=>4 | 5=>5 | 9=>9 | 20=>20 | 37=>99 | 70=>257 | 72=>259 | 75=>261 | 80=>266 | 164=>329 | n=>n,fun n=>n⟩
theorem qSz:Go.Proofs.Lays.n166 Tryz.prog qPy:={mixed:=by kernel_rfl,f166:=Tryz.func201.trans (congrArg some (by kernel_rfl)),f240:=Tryz.func257.trans (congrArg some (by kernel_rfl)),f276:=Tryz.func276.trans (congrArg some (by kernel_rfl)),t0:=Tryz.underlying0,a0:=Tryz.isAgg0,z0:=Tryz.sizeOf0,v0:=Tryz.zeroValue0,t3:=Tryz.underlying3,a3:=Tryz.isAgg3,z3:=Tryz.sizeOf3,v3:=Tryz.zeroValue3,t4:=Tryz.underlying4,a4:=Tryz.isAgg4,z4:=Tryz.sizeOf4,v4:=Tryz.zeroValue4,t9:=Tryz.underlying9,a9:=Tryz.isAgg9,z9:=Tryz.sizeOf9,v9:=Tryz.zeroValue9,t20:=Tryz.underlying20,a20:=Tryz.isAgg20,z20:=Tryz.sizeOf20,v20:=Tryz.zeroValue20,t37:=Tryz.underlying99,a37:=Tryz.isAgg99,z37:=Tryz.sizeOf99,v37:=Tryz.zeroValue99,t70:=Tryz.underlying257,a70:=Tryz.isAgg257,z70:=Tryz.sizeOf257,v70:=Tryz.zeroValue257,t72:=Tryz.underlying259,a72:=Tryz.isAgg259,z72:=Tryz.sizeOf259,v72:=Tryz.zeroValue259,t75:=Tryz.underlying261,a75:=Tryz.isAgg261,z75:=Tryz.sizeOf261,v75:=Tryz.zeroValue261,t164:=Tryz.underlying329,a164:=Tryz.isAgg329,z164:=Tryz.sizeOf329,v164:=Tryz.zeroValue329}
def qPx:Go.Shelf.Ren:=⟨fun | 167=>203 | 240=>257 | 276=>276 | n=>n,fun | 0=>0 | 3=>3 | 4=>4 | 5=>5 | 9=>9 | 20=>20 | 37=>99 | 70=>257 | 72=>259 | 75=>261 | 80=>266 | 164=>329 | n=>n,fun n=>n⟩
theorem qSx:Go.Proofs.Lays.n167 Tryz.prog qPx:={mixed:=by kernel_rfl,f167:=Tryz.func203.trans (congrArg some (by kernel_rfl)),f240:=Tryz.func257.trans (congrArg some (by kernel_rfl)),f276:=Tryz.func276.trans (congrArg some (by kernel_rfl)),t0:=Tryz.underlying0,a0:=Tryz.isAgg0,z0:=Tryz.sizeOf0,v0:=Tryz.zeroValue0,t4:=Tryz.underlying4,a4:=Tryz.isAgg4,z4:=Tryz.sizeOf4,v4:=Tryz.zeroValue4,t5:=Tryz.underlying5,a5:=Tryz.isAgg5,z5:=Tryz.sizeOf5,v5:=Tryz.zeroValue5,t9:=Tryz.underlying9,a9:=Tryz.isAgg9,z9:=Tryz.sizeOf9,v9:=Tryz.zeroValue9,t20:=Tryz.underlying20,a20:=Tryz.isAgg20,z20:=Tryz.sizeOf20,v20:=Tryz.zeroValue20,t37:=Tryz.underlying99,a37:=Tryz.isAgg99,z37:=Tryz.sizeOf99,v37:=Tryz.zeroValue99,t70:=Tryz.underlying257,a70:=Tryz.isAgg257,z70:=Tryz.sizeOf257,v70:=Tryz.zeroValue257,t72:=Tryz.underlying259,a72:=Tryz.isAgg259,z72:=Tryz.sizeOf259,v72:=Tryz.zeroValue259,t75:=Tryz.underlying261,a75:=Tryz.isAgg261,z75:=Tryz.sizeOf261,v75:=Tryz.zeroValue261,t164:=Tryz.underlying329,a164:=Tryz.isAgg329,z164:=Tryz.sizeOf329,v164:=Tryz.zeroValue329}
def qPz:Go.Shelf.Ren:=⟨fun | 169=>204 | n=>n,fun | 70=>257 | 9=>9 | 0=>0 | 72=>259 | 37=>99 | 127=>313 | 3=>3 | 5=>5 | n=>n,fun n=>n⟩
theorem qTa:Go.Proofs.Lays.n169 Tryz.prog qPz:={mixed:=by kernel_rfl,f169:=Tryz.func204.trans (congrArg some (by kernel_rfl)),t0:=Tryz.underlying0,a0:=Tryz.isAgg0,z0:=Tryz.sizeOf0,v0:=Tryz.zeroValue0,t3:=Tryz.underlying3,a3:=Tryz.isAgg3,z3:=Tryz.sizeOf3,v3:=Tryz.zeroValue3,t9:=Tryz.underlying9,a9:=Tryz.isAgg9,z9:=Tryz.sizeOf9,v9:=Tryz.zeroValue9,t37:=Tryz.underlying99,a37:=Tryz.isAgg99,z37:=Tryz.sizeOf99,v37:=Tryz.zeroValue99,t70:=Tryz.underlying257,a70:=Tryz.isAgg257,z70:=Tryz.sizeOf257,v70:=Tryz.zeroValue257,t72:=Tryz.underlying259,a72:=Tryz.isAgg259,z72:=Tryz.sizeOf259,v72:=Tryz.zeroValue259,t127:=Tryz.underlying313,a127:=Tryz.isAgg313,z127:=Tryz.sizeOf313,v127:=Tryz.zeroValue313}
def jBl:Go.Shelf.Ren:=⟨fun | 171=>202 | 243=>258 | 246=>277 | 283=>290 | 284=>291 | 285=>292 | 286=>293 | 129=>310 | 317=>311 | 318=>312 | 319=>313 | 320=>314 | 337=>320 | 338=>321 | n=>n,fun | 3=>3 | 9=>9 | 2=>2 | 4=>4 | 171=>341 | 0=>0 | 53=>226 | 37=>99 | 5=>5 | 173=>344 | 212=>358 | 51=>214 | 20=>20 | 213=>359 | 46=>185 | 232=>369 | 233=>370 | n=>n,fun | 17=>0 | 18=>1 | 19=>2 | n=>n⟩
theorem qSy:Go.Proofs.LaysM.n171 Tryz.prog jBl:={mixed:=by kernel_rfl,f129:=Tryz.func310.trans (congrArg some (by kernel_rfl)),f171:=Tryz.func202.trans (congrArg some (by kernel_rfl)),f243:=Tryz.func258.trans (congrArg some (by kernel_rfl)),f246:=Tryz.func277.trans (congrArg some (by kernel_rfl)),f283:=Tryz.func290.trans (congrArg some (by kernel_rfl)),f284:=Tryz.func291.trans (congrArg some (by kernel_rfl)),f285:=Tryz.func292.trans (congrArg some (by kernel_rfl)),f286:=Tryz.func293.trans (congrArg some (by kernel_rfl)),f317:=Tryz.func311.trans (congrArg some (by kernel_rfl)),f318:=Tryz.func312.trans (congrArg some (by kernel_rfl)),f319:=Tryz.func313.trans (congrArg some (by kernel_rfl)),f320:=Tryz.func314.trans (congrArg some (by kernel_rfl)),f337:=Tryz.func320.trans (congrArg some (by kernel_rfl)),f338:=Tryz.func321.trans (congrArg some (by kernel_rfl)),t0:=Tryz.underlying0,a0:=Tryz.isAgg0,z0:=Tryz.sizeOf0,v0:=Tryz.zeroValue0,t2:=Tryz.underlying2,a2:=Tryz.isAgg2,z2:=Tryz.sizeOf2,v2:=Tryz.zeroValue2,t3:=Tryz.underlying3,a3:=Tryz.isAgg3,z3:=Tryz.sizeOf3,v3:=Tryz.zeroValue3,t4:=Tryz.underlying4,a4:=Tryz.isAgg4,z4:=Tryz.sizeOf4,v4:=Tryz.zeroValue4,t5:=Tryz.underlying5,a5:=Tryz.isAgg5,z5:=Tryz.sizeOf5,v5:=Tryz.zeroValue5,t9:=Tryz.underlying9,a9:=Tryz.isAgg9,z9:=Tryz.sizeOf9,v9:=Tryz.zeroValue9,t20:=Tryz.underlying20,a20:=Tryz.isAgg20,z20:=Tryz.sizeOf20,v20:=Tryz.zeroValue20,t37:=Tryz.underlying99,a37:=Tryz.isAgg99,z37:=Tryz.sizeOf99,v37:=Tryz.zeroValue99,t46:=Tryz.underlying185,a46:=Tryz.isAgg185,z46:=Tryz.sizeOf185,v46:=Tryz.zeroValue185,t51:=Tryz.underlying214,a51:=Tryz.isAgg214,z51:=Tryz.sizeOf214,v51:=Tryz.zeroValue214,t53:=Tryz.underlying226,a53:=Tryz.isAgg226,z53:=Tryz.sizeOf226,v53:=Tryz.zeroValue226,t171:=Tryz.underlying341,a171:=Tryz.isAgg341,z171:=Tryz.sizeOf341,v171:=Tryz.zeroValue341,t173:=Tryz.underlying344,a173:=Tryz.isAgg344,z173:=Tryz.sizeOf344,v173:=Tryz.zeroValue344,t212:=Tryz.underlying358,a212:=Tryz.isAgg358,z212:=Tryz.sizeOf358,v212:=Tryz.zeroValue358,t213:=Tryz.underlying359,a213:=Tryz.isAgg359,z213:=Tryz.sizeOf359,t232:=Tryz.underlying369,a232:=Tryz.isAgg369,z232:=Tryz.sizeOf369,v232:=Tryz.zeroValue369,t233:=Tryz.underlying370,a233:=Tryz.isAgg370,z233:=Tryz.sizeOf370,v233:=Tryz.zeroValue370,g17:=by kernel_rfl,g18:=by kernel_rfl,g19:=by kernel_rfl,i0:=by kernel_rfl,i2:=by kernel_rfl,i3:=by kernel_rfl,i4:=by kernel_rfl,i5:=by kernel_rfl,i9:=by kernel_rfl,i20:=by kernel_rfl,i37:=by kernel_rfl,i46:=by kernel_rfl,i51:=by kernel_rfl,i53:=by kernel_rfl,i171:=by kernel_rfl,i173:=by kernel_rfl,i212:=by kernel_rfl,i232:=by kernel_rfl,i233:=by kernel_rfl,m17:=by kernel_rfl,m18:=by kernel_rfl,m19:=by kernel_rfl}
theorem bSX:Builder.Extra Tryz.prog qPy:={sizeBuilder:=by kernel_rfl,liesBuilder:=by kernel_rfl,t5:=Tryz.underlying5,a5:=Tryz.isAgg5,z5:=Tryz.sizeOf5,v5:=Tryz.zeroValue5,infoByte:=by kernel_rfl,cellsByte:=by kernel_rfl,sizeByte:=by kernel_rfl,neB5:=by decide}
theorem bBX:Builder.Extra Tryz.prog qPx:={sizeBuilder:=by kernel_rfl,liesBuilder:=by kernel_rfl,t5:=Tryz.underlying5,a5:=Tryz.isAgg5,z5:=Tryz.sizeOf5,v5:=Tryz.zeroValue5,infoByte:=by kernel_rfl,cellsByte:=by kernel_rfl,sizeByte:=by kernel_rfl,neB5:=by decide}
theorem bTX:Builder.Extra Tryz.prog qPz:={sizeBuilder:=by kernel_rfl,liesBuilder:=by kernel_rfl,t5:=Tryz.underlying5,a5:=Tryz.isAgg5,z5:=Tryz.sizeOf5,v5:=Tryz.zeroValue5,infoByte:=by kernel_rfl,cellsByte:=by kernel_rfl,sizeByte:=by kernel_rfl,neB5:=by decide}
theorem zJl(B b:Nat)(bs:List Value)(s:ByteArray)(w:World)(h:Lib.IsBuilder 259 5 B b bs w)(hlen:bs.length+s.size≤140737488355328)(j:B≤w.heap.size):
  Calls Tryz.prog 201 #[.pointer (some ⟨b,0,none⟩),.string s] w fun e w'=>e= .returned (.tuple #[.int .i64 s.size,.nilIface])∧(Lib.BuilderAt 259 5 B b (.pointer (some ⟨b,0,none⟩)) (bs++Lib.strCells s) w'∧Below B w w'):=Any.Builder_WriteString qSz bSX B b bs s w h hlen j
theorem zRq(B b:Nat)(bs:List Value)(c:Int)(w:World)(h:Lib.IsBuilder 259 5 B b bs w)(hlen:bs.length+1≤140737488355328)(j:B≤w.heap.size):
  Calls Tryz.prog 203 #[.pointer (some ⟨b,0,none⟩),.int .u8 c] w fun e w'=>e= .returned .nilIface∧(Lib.BuilderAt 259 5 B b (.pointer (some ⟨b,0,none⟩)) (bs++[.int .u8 c]) w'∧Below B w w'):=Any.Builder_WriteByte qSx bBX B b bs c w h hlen j
theorem qHx(B b:Nat)(l:List UInt8)(w:World)(h:Lib.IsBuilder 259 5 B b (Lib.byteCells l) w)(j:B≤w.heap.size):
  Calls Tryz.prog 204 #[.pointer (some ⟨b,0,none⟩)] w fun e w'=>e= .returned (.string ⟨l.toArray⟩)∧Below B w w':=Any.Builder_String_any qTa bTX B b l w h j
theorem qWq(i:Int)(j: -9223372036854775808≤i)(q:i≤9223372036854775807)(w:World)(ht:Lib.TabIs Tryz.prog w "internal/strconv.uint64pow10" .u64 Lib.pow10Tab):Calls Tryz.prog 202 #[.int .i64 i] w fun e w'=>e= .returned (.string ⟨(Lib.itoa i).toArray⟩)∧∃k os,w'=Sort.grow (w.drewN k) os:=Any.strconv_Itoa qSy i j q w ht
theorem qHh:Tryz.prog.globalNamed "internal/strconv.uint64pow10" =some 0:=by kernel_rfl
theorem qNx{l:List (String×DataW Unit)}{W:World}(h:laidMetH Tryz.prog l W)(j:l.filter (fun x=>x.1== "internal/strconv.uint64pow10")=[("internal/strconv.uint64pow10",Lib.tabData .u64 Lib.pow10Tab)]):Lib.TabIs Tryz.prog W "internal/strconv.uint64pow10" .u64 Lib.pow10Tab:=by
 have e:=h.filter fun x=>x.1== "internal/strconv.uint64pow10";rw[j,MakeChecks.laidMetH_plain _ _ _ (by kernel_rfl)]at e
 exact Lib.tabIs_of_head (rest:=[]) qHh (by kernel_rfl) Tryz.underlying358 Tryz.underlying185 (by kernel_rfl) (by kernel_rfl) e
end Go.Proofs.YtdfmdiakjdggbaaGreatDoor
namespace Go.Proofs.YtdfmdiakjdggbaaGreatDoor
open Go Go.RowKit IntKind
def qKf:Nat→Nat→List UInt8
 | 0,_=>[]
 | n+1,x=>bif Nat.blt x 10 then[UInt8.ofNat (48+x)]else qKf n (x / 10)++[UInt8.ofNat (48+x % 10)]
theorem zVl:∀{n x:Nat},x<10^n→0<n→qKf n x=Lib.decDigits x
 | 0,_,_,h=>absurd h (by omega)
 | n+1,x,h,_=>by
  rw[Lib.decDigits,qKf];by_cases e:x<10
  ·have:Nat.blt x 10=true:=by simpa[Nat.blt_eq]using e
   simp[e,this]
  ·have:Nat.blt x 10=false:=by
    cases hb:Nat.blt x 10
    ·rfl
    ·rw[Nat.blt_eq]at hb;exact absurd hb e
   rw[Nat.pow_succ]at h;have hn:0<n:=by
    rcases Nat.eq_zero_or_pos n with rfl | h'
    ·simp at h;omega
    ·exact h'
   rw[zVl (n:=n) (x:=x / 10) (by omega) hn]
   simp[e,this]
def zYv(x:Nat):List UInt8:=qKf 20 x
theorem zVm{x:Nat}(h:x≤9223372036854775807):Lib.itoa (x:Int)=zYv x:=by
 rw[Lib.itoa_nonneg];exact(zVl (by omega) (by omega)).symm
theorem qDa{x:Nat}(h:x≤9223372036854775807):(zYv x).length≤21:=by
 rw[←zVm h];exact Lib.itoa_length_le _ (by omega) (by omega)
def zCs:List Nat→List UInt8
 | []=>[]
 | x::l=>zYv x++(32::zCs l)
theorem zCt:∀(l:List Nat)(x:Nat),zCs (l++[x])=(zCs l++zYv x)++[32]
 | [],x=>by simp[zCs]
 | y::l,x=>by simp[zCs,zCt l x,List.append_assoc]
theorem qWy{T e:TypeId}{B b:Nat}{bs:List Value}{w:World}(h:Lib.IsBuilder T e B b bs w)(k:Nat)(os:Array Obj):Lib.IsBuilder T e B b bs (Sort.grow (w.drewN k) os):=by
 have q:∀p,Lib.BuilderAt T e B b p bs w→Lib.BuilderAt T e B b p bs (Sort.grow (w.drewN k) os):=fun p h=>by
  have C:=h.lt;obtain⟨j,v,y,z,A⟩:=h;exact⟨j,v,by rw[Lib.heap_grow_old w k os b C];exact y,Lib.ownsRow_grow z k os,A⟩
 exact h.elim (fun h=> .inl (q _ h)) fun h=> .inr (q _ h)
set_option maxHeartbeats 4000000 in
set_option maxRecDepth 1000000 in
theorem zPp(b off c:Nat)(l:List Nat)(w:World)(hl:l.length*22≤140737488355328)(hx:∀x∈l,x≤9223372036854775807)(ht:Lib.TabIs Tryz.prog w "internal/strconv.uint64pow10" .u64 Lib.pow10Tab)(hc:∀(k x:Nat),l[k]?=some x→w.cell? ⟨b,off+k,none⟩=some (.int .i64 x)):
  Calls Tryz.prog 130 #[.slice (some ⟨b,off,none⟩) l.length c] w fun e w'=>e= .returned (.string ⟨(zCs l).toArray⟩)∧Below w.heap.size w w':=by
 go_enter Tryz.func130,Tryz.ntmps130
 go_wp2
 go_loopw [8] (fun i wr=>∃k:Nat,k≤l.length∧i= .int .i64 k∧Lib.IsBuilder 259 5 w.heap.size w.heap.size (Lib.byteCells (zCs (l.take k))) wr∧Below w.heap.size w wr∧(zCs (l.take k)).length≤22*k) (fun i _=>l.length-(intOf i).toNat)
 case atStart=>exact⟨0,Nat.zero_le _,rfl,Lib.fresh_isBuilder 259 5 w,(Below.refl _ w).alloc (Nat.le_refl _) _,by simp[zCs]⟩
 case round=>
  obtain⟨k,hk,rfl,hI,hbw,hle⟩:=hrel;have hsz:=hbw.size;by_cases hlt:k<l.length
  ·obtain⟨x,hx1⟩:∃x,l[k]?=some x:=⟨l[k],by simp[hlt]⟩
   have hxl:=hx x (List.mem_of_getElem? hx1);have hcw:=hc k x hx1;have hcx:wr.cell? ⟨b,off+k,none⟩=some (.int .i64 x):=(hbw.cell (p:=⟨b,off+k,none⟩) (World.block_lt_of_cell? _ _ hcw)).trans hcw
   go_wp2_with (go_at_call 202;refine(qWq x (by omega) (by omega) _ (Lib.tabBelow_of_tabIs ht _ hbw)).mono ?_;rintro e w1 ⟨rfl,kk,os,rfl⟩)
   rw[zVm hxl];have hI':=qWy hI kk os;have hbw':=hbw.trans (Lib.below_grow w.heap.size _ hsz kk os);have hsz':=hbw'.size;have hdl:=qDa hxl
   go_wp2_with (go_at_call 201;refine(zJl w.heap.size w.heap.size _ _ _ hI' (by rw[Lib.byteCells_length];show _+(zYv x).toArray.size≤_;simp;omega) hsz').mono ?_)
   rintro e w2 ⟨rfl,h2,b2⟩;have hI2:Lib.IsBuilder 259 5 w.heap.size w.heap.size (Lib.byteCells (zCs (l.take k)++zYv x)) w2:=by
    rw[Lib.byteCells_append];exact Or.inr h2
   have hsz2:w.heap.size≤w2.heap.size:=Nat.le_trans hsz' b2.size
   go_wp2_with (go_at_call 203;refine(zRq w.heap.size w.heap.size _ 32 _ hI2 (by rw[Lib.byteCells_length];simp;omega) hsz2).mono ?_)
   rintro e w3 ⟨rfl,h3,b3⟩
   go_wp2
   go_roundw
   case rel=>
    have ht:l.take (k+1)=l.take k++[x]:=by rw[List.take_add_one,hx1];rfl
    refine⟨k+1,by omega,by go_num,?_,(hbw'.trans b2).trans b3,?_⟩
    ·rw[ht,zCt,Lib.byteCells_append];exact Or.inr h3
    ·rw[ht,zCt];simp only[List.length_append,List.length_cons,List.length_nil];omega
   case measure=>simp[intOf];omega
  ·have:k=l.length:=by omega
   subst this;rw[List.take_length]at hI
   go_wp2_with (go_at_call 204;refine(qHx w.heap.size w.heap.size (zCs l) _ hI hsz).mono ?_)
   rintro e w1 ⟨rfl,b1⟩
   go_wp2
   go_ret
   exact⟨rfl,hbw.trans b1⟩
end Go.Proofs.YtdfmdiakjdggbaaGreatDoor
namespace Go.Proofs.YtdfmdiakjdggbaaGreatDoor
open Go Go.Gv Go.Ev IntKind
noncomputable def zTi:List T→Option (List Nat)
 | []=>some []
 | t::l=>match t with
  | .v (.int .i64 (.ofNat x))=>bif Nat.blt x 9223372036854775808 then(match zTi l with | some r=>some (x::r) | none=>none)else none
  | _=>none
noncomputable def qXa:List T→Option (T×Bool)
 | [.sl (t::cs) n]=>bif Nat.beq (ln (t::cs)) n&&Nat.blt n 1000 then(match zTi (t::cs)with | some l=>some (.v (.string ⟨(zCs l).toArray⟩),true) | none=>none)else none
 | _=>none
theorem zWb{B:Bm}{r:Rd}:∀{cs:List T}{l:List Nat},zTi cs=some l→l.length=cs.length∧(∀x∈l,x≤9223372036854775807)∧∀(k x:Nat),l[k]?=some x→∃t,cs[k]?=some t∧∀v,Rep B r t v→v= .int .i64 x
 | [],l,h=>by simp only[zTi,za]at h;subst h;simp
 | t::cs,l,h=>by
  simp only[zTi]at h;split at h
  ·rename_i x;cases hb:Nat.blt x 9223372036854775808 with
   | false=>simp[hb]at h
   | true=>
    simp only[hb,ze]at h;cases hr:zTi cs with
    | none=>simp[hr]at h
    | some q=>
     simp only[hr,za]at h;subst h;obtain⟨z,A,C⟩:=zWb (B:=B) (r:=r) hr;rw[Nat.blt_eq]at hb;have hb:=Nat.le_of_lt_succ hb;refine⟨by simp[z],fun y j=>?_,fun k y e=>?_⟩
     ·rcases List.mem_cons.1 j with rfl | j
      ·exact hb
      ·exact A y j
     ·cases k with
      | zero=>simp at e;subst e;exact⟨_,rfl,fun v hv=>hv.vI.1⟩
      | succ k=>simpa using C k y (by simpa using e)
  ·cases h
theorem qXb{ts:List T}{tv:T}{nw:Bool}(h:qXa ts=some (tv,nw))(k:Nat):KnP Tryz.prog k 130 ts tv nw:=by
 unfold qXa at h;split at h
 ·rename_i t cs n;cases hb:Nat.beq (ln (t::cs)) n&&Nat.blt n 1000 with
  | false=>simp[hb]at h
  | true=>
   simp only[hb,ze]at h;simp only[zd,Nat.blt_eq]at hb;have hn:=zY hb.1;rw[qU]at hn;cases q:zTi (t::cs)with
   | none=>simp[q]at h
   | some l=>
    simp only[q,za,Prod.mk.injEq]at h;obtain⟨rfl,rfl⟩:=h;intro B w X qO R D _ L F E;obtain⟨z,A,C⟩:=zWb (B:=B) (r:=rd w X) q;match qO,F with
    | [v],⟨hv,_⟩=>
     cases hv with
     | @sl _ _ b o c K f G I M=>
      have hlen:l.length=n:=by rw[z,←hn]
      subst hlen;refine(zPp b o c l w (by omega) A (D (by rw[qHh];exact fun h=>by cases h)) fun j x J=>?_).mono ?_
      ·obtain⟨y,ht,hv⟩:=C j x J;rw[←hv _ (I j y ht)];exact yK (G j y ht)
      ·rintro e w' ⟨rfl,hb⟩;exact E _ w' (Upd.of_below hb) (.v rfl)
 ·cases h
noncomputable def tb0:List (Nat×(List T→Option (T×Bool))):=(130,qXa)::zTr
theorem qIh:qR Tryz.prog (xS tb0):=zIk (fun _ _ _ h k=>qXb h k) qXz
end Go.Proofs.YtdfmdiakjdggbaaGreatDoor
namespace Go.Ev
open Go Go.Gv Go.RowKit IntKind
theorem xN{a b:Int}:ilt a b=true↔a<b:=by
 cases a with
 | ofNat a=>cases b with
  | ofNat b=>simp only[ilt,Nat.blt_eq,Int.ofNat_eq_natCast];omega
  | negSucc b=>simp only[ilt,Int.ofNat_eq_natCast,Int.negSucc_eq];constructor<;>intro h<;>first | cases h;done | omega
 | negSucc a=>cases b with
  | ofNat b=>simp only[ilt,Int.ofNat_eq_natCast,Int.negSucc_eq];constructor<;>intro h<;>first | omega | trivial
  | negSucc b=>simp only[ilt,Nat.blt_eq,Int.negSucc_eq];omega
theorem qRr{a:Int}(h:inW a=true):wq a=a:=by unfold wq;rw[h];rfl
theorem zPk{a b:Int}(h:b≤a):ilt a b=false:=by
 cases e:ilt a b with
 | false=>rfl
 | true=>rw[xN]at e;omega
theorem zEi{a b:Int}(h:a<b):ilt a b=true:=xN.2 h
theorem qL{a b:Int}:ieq a b=true↔a=b:=by
 cases a with
 | ofNat a=>cases b with
  | ofNat b=>simp only[ieq,Nat.beq_eq,Int.ofNat_eq_natCast];omega
  | negSucc b=>simp only[ieq,Int.ofNat_eq_natCast,Int.negSucc_eq];constructor<;>intro h<;>first | (cases h;done) | omega
 | negSucc a=>cases b with
  | ofNat b=>simp only[ieq,Int.ofNat_eq_natCast,Int.negSucc_eq];constructor<;>intro h<;>first | (cases h;done) | omega
  | negSucc b=>simp only[ieq,Nat.beq_eq,Int.negSucc_eq];omega
theorem xU{a b:Int}(h:a=b):ieq a b=true:=qL.2 h
theorem qQm{a b:Int}(h:a≠b):ieq a b=false:=by
 cases e:ieq a b with
 | false=>rfl
 | true=>exact absurd (qL.1 e) h
theorem qTc{a b:Nat}(h:a≠b):Nat.beq a b=false:=by
 cases e:Nat.beq a b with
 | false=>rfl
 | true=>exact absurd (zY e) h
theorem qKm{α:Type}{l:List α}:emp l=true↔l=[]:=by cases l<;>simp[emp]
section
variable {P:Program}{f k:Nat}{az:List T}{tv tv':T}{nw:Bool}
theorem KnP.res(h:KnP P k f az tv nw)(ht:∀(B:Bm)(r:Rd)(v:Value),Rep B r tv v→Rep B r tv' v):KnP P k f az tv' nw:=fun B w X qO R e z y q j=>h B w X qO R e z y q fun v w' A hv=>j v w' A (ht B _ v hv)
theorem KnP.old(h:KnP P k f az tv true):KnP P k f az tv false:=fun B w X qO R j z e y q=>h B w X qO R j z e y fun v w' A hv=>q v w' A (hv.mono (BLe.refl B) (Le.new e))
theorem zHl{B:Bm}{r:Rd}{A:Ty}{v:Value}(h:Rep B r (.v (.slice none 0 0)) v):Rep B r (.ls .a A []) v:=by
 obtain⟨rfl,_⟩:=h.vI;exact .ls ⟨none,0,rfl,Nat.le_refl _,Nat.zero_le _,.inl rfl⟩
end
noncomputable def lpF(st:Hs→Option (Hs⊕(Ex×Hs))):Nat→Hs→Option (Ex×Hs)
 | 0,q=>match st q with
  | some (.inr y)=>some y
  | _=>none
 | n+1,q=>match st q with
  | some (.inl e)=>lpF st n e
  | some (.inr y)=>some y
  | none=>none
theorem kT{st:Hs→Option (Hs⊕(Ex×Hs))}:∀(n:Nat)(q:Hs){y:Ex×Hs},lpF st n q=some y→∃m,It st m q y
 | 0,q,y,h=>by
  simp only[lpF]at h;split at h
  ·rename_i z e;cases h;exact⟨0,.out e⟩
  ·cases h
 | n+1,q,y,h=>by
  simp only[lpF]at h;split at h
  ·rename_i B A;obtain⟨m,j⟩:=kT n B h;exact⟨m+1,.go A j⟩
  ·rename_i z e;cases h;exact⟨0,.out e⟩
  ·cases h
inductive Sk where
  | i (k:IntKind)
  | b
  | l (g:Tg) (A:Ty)
  | p (g:Tg) (A:Ty) (g2:Tg) (A2:Ty)
  | c (t:T)
structure Sh where
 e:Ex
 hs:List Sk
 az:List (Tg×Ty)
 ks:List (List Sk)
noncomputable def iOf:T→Int
 | .v (.int _ a)=>a
 | _=>0
noncomputable def bOf:T→Bool
 | .v (.bool b)=>b
 | _=>false
noncomputable def lOf(A:Ty):T→List A.den
 | .ls _ B l=>(tV B A l).getD []
 | _=>[]
noncomputable def lnO:T→Nat
 | .ls _ _ l=>l.length
 | .v (.int _ (.ofNat n))=>n
 | _=>0
noncomputable def Tg.beq:Tg→Tg→Bool
 | .a,.a=>true
 | .n,.n=>true
 | .o,.o=>true
 | _,_=>false
noncomputable def fstT:T→T
 | .ag (t::_)=>t
 | _=> .u
noncomputable def sndT:T→T
 | .ag (_::t::_)=>t
 | _=> .u
noncomputable def skG:Sk→T→T
 | .i k,t=> .v (.int k (iOf t))
 | .b,t=> .v (.bool (bOf t))
 | .l g A,t=> .ls g A (lOf A t)
 | .p g A j e,t=> .ag [.ls g A (lOf A (fstT t)),.ls j e (lOf e (sndT t))]
 | .c x,_=>x
noncomputable def skT:Sk→T→Bool
 | .i k,.v (.int z _)=>Nat.beq (kind k) (kind z)
 | .b,.v (.bool _)=>true
 | .l g A,.ls j B _=>g.beq j&&B.beq A
 | .p g A q e,.ag [.ls h B _,.ls y B2 _]=>(g.beq h&&B.beq A)&&(q.beq y&&B2.beq e)
 | .c x,t=>eqU 12 x t
 | _,_=>false
theorem zTj{g:Tg}{A B:Ty}{l:List B.den}(h:B.beq A=true):T.ls g A (lOf A (.ls g B l))= .ls g B l:=by
 obtain rfl:=Ty.beq_eq h;have e:tV B B l=some l:=by unfold tV;rw[dif_pos h]
 show T.ls g B ((tV B B l).getD [])=_;rw[e];rfl
theorem Tg.beq_eq{g e:Tg}(h:g.beq e=true):g=e:=by cases g<;>cases e<;>first | rfl | cases h
theorem qHu:∀{s:Sk}{t:T},skT s t=true→skG s t=t:=by
 intro s t h;unfold skT at h;split at h
 ·rename_i k z a;obtain rfl:=sD h;rfl
 ·rfl
 ·rename_i g A j B l;simp only[zd]at h;obtain rfl:=Tg.beq_eq h.1;exact zTj h.2
 ·rename_i g A q e h' B l y B2 l2;simp only[zd]at h;obtain rfl:=Tg.beq_eq h.1.1;obtain rfl:=Tg.beq_eq h.2.1;simp only[skG,fstT,sndT,zTj h.1.2,zTj h.2.2]
 ·exact lI 12 _ _ h
 ·cases h
noncomputable def hdT:List T→T
 | t::_=>t
 | []=> .u
noncomputable def qHv:List Sk→List T→List T
 | [],_=>[]
 | s::ss,ts=>skG s (hdT ts)::qHv ss ts.tail
noncomputable def qHw:List Sk→List T→Bool
 | [],[]=>true
 | s::ss,t::ts=>skT s t&&qHw ss ts
 | _,_=>false
theorem zNq:∀{ss:List Sk}{ts:List T},qHw ss ts=true→qHv ss ts=ts
 | [],[],_=>rfl
 | s::ss,t::ts,h=>by
  simp only[qHw,zd]at h;simp only[qHv,hdT,List.tail_cons,qHu h.1,zNq h.2]
 | [],_::_,h=>by cases h
 | _::_,[],h=>by cases h
noncomputable def qLw:List (List Sk)→List (List T)→List (List T)
 | [],_=>[]
 | s::ss,ts=>qHv s (ts.headD [])::qLw ss ts.tail
noncomputable def qLx:List (List Sk)→List (List T)→Bool
 | [],[]=>true
 | s::ss,t::ts=>qHw s t&&qLx ss ts
 | _,_=>false
theorem zWd:∀{ss:List (List Sk)}{ts:List (List T)},qLx ss ts=true→qLw ss ts=ts
 | [],[],_=>rfl
 | s::ss,t::ts,h=>by
  simp only[qLx,zd]at h;simp only[qLw,List.headD_cons,List.tail_cons,zNq h.1,zWd h.2]
 | [],_::_,h=>by cases h
 | _::_,[],h=>by cases h
noncomputable def azT:List (Tg×Ty)→List T→Bool
 | [],[]=>true
 | s::ss,t::ts=>skT (.l s.1 s.2) t&&azT ss ts
 | _,_=>false
noncomputable def azD{α:Type}(k:List T→DT α):List (Tg×Ty)→List T→List T→DT α
 | [],_,u=>k u.reverse
 | s::ss,ts,u=> .ite (emp (lOf s.2 (hdT ts))) (azD k ss ts.tail (.ls s.1 s.2 []::u)) (azD k ss ts.tail (.ls s.1 s.2 ((lOf s.2 (hdT ts)).headD s.2.zero::(lOf s.2 (hdT ts)).tail)::u))
theorem zSh{α:Type}{k:List T→DT α}{z:α}:∀{ss:List (Tg×Ty)}{ts u:List T},azT ss ts=true→(azD k ss ts u).run=some z→(k (u.reverse++ts)).run=some z
 | [],[],u,_,h=>by simpa[azD]using h
 | s::ss,t::ts,u,h,j=>by
  simp only[azT,zd]at h;have e:T.ls s.1 s.2 (lOf s.2 t)=t:=qHu (s:= .l s.1 s.2) h.1;simp only[azD,hdT,List.tail_cons,DT.run]at j;cases q:emp (lOf s.2 t)with
  | true=>
   rw[q,ze]at j;have y:lOf s.2 t=[]:=qKm.1 q;rw[y]at e;rw[e]at j;have:=zSh h.2 j;simpa using this
  | false=>
   rw[q,zf]at j;have y:(lOf s.2 t).headD s.2.zero::(lOf s.2 t).tail=lOf s.2 t:=by
    cases A:lOf s.2 t with
    | nil=>rw[A]at q;cases q
    | cons a l=>rfl
   rw[y,e]at j;have:=zSh h.2 j;simpa using this
 | [],_::_,_,h,_=>by cases h
 | _::_,[],_,h,_=>by cases h
noncomputable def exT:Ex→Ex→Bool
 | .x i,.x j=>Nat.beq i j
 | .r,.r=>true
 | _,_=>false
noncomputable def shT(j:Sh):Option (Ex×Hs)→Bool
 | some (e,q)=>exT j.e e&&(qHw j.hs q.hs&&(azT j.az q.az&&qLx j.ks q.ks))
 | none=>false
noncomputable def hsO:Option (Ex×Hs)→Hs
 | some (_,q)=>q
 | none=>⟨[],[],[]⟩
noncomputable def vwD(y:Option (Ex×Hs)):List Sh→DT (Ex×Hs)
 | []=> .no
 | j::r=> .ite (shT j y) (azD (fun u=> .ret (j.e,⟨qHv j.hs (hsO y).hs,u,qLw j.ks (hsO y).ks⟩)) j.az (hsO y).az []) (vwD y r)
theorem qIp{y:Option (Ex×Hs)}{z:Ex×Hs}:∀{B:List Sh},(vwD y B).run=some z→y=some z
 | [],h=>by cases h
 | A::r,h=>by
  simp only[vwD,DT.run]at h;cases hs:shT A y with
  | false=>rw[hs,zf]at h;exact qIp h
  | true=>
   rw[hs,ze]at h;match y,hs with
   | some (e,q),hs=>
    simp only[shT,zd]at hs;obtain⟨j,D,E,F⟩:=hs;have C:=zSh E h;simp only[hsO,List.reverse_nil,List.nil_append,zNq D,zWd F]at C;cases C;have:A.e=e:=by
     revert j;cases A.e<;>cases e<;>intro j<;>first | rfl | (cases j;done) | (obtain rfl:=zY j;rfl)
    rw[this]
noncomputable def lpR(st:Hs→Option (Hs⊕(Ex×Hs)))(j:Hs→Nat)(e:List Sh)(q:Hs):DT (Ex×Hs):=vwD (lpF st (j q) q) e
theorem zHd{st:Hs→Option (Hs⊕(Ex×Hs))}{j:Hs→Nat}{e:List Sh}:∀q y,(lpR st j e q).run=some y→∃n,It st n q y:=fun _ _ h=>kT _ _ (qIp h)
theorem jP{st:Hs→Option (Hs⊕(Ex×Hs))}{α γ:Type}{iv:Nat→α→Hs}{g:Nat→α→α⊕γ}{d:α→γ}{out:γ→Ex×Hs}{n:Nat}(J:Nat→α→Prop)
  (q:∀i a,i<n→J i a→st (iv i a)=some (match g i a with | .inl b=> .inl (iv (i+1) b) | .inr y=> .inr (out y)))
  (z:∀i a b,i<n→J i a→g i a= .inl b→J (i+1) b) (A:∀a,J n a→st (iv n a)=some (.inr (out (d a)))):∀k i a,i+k=n→J i a→lpF st k (iv i a)=some (out (fol g d k i a))
 | 0,i,a,e,j=>by
  obtain rfl:i=n:=by omega
  simp only[lpF,A a j,fol]
 | k+1,i,a,e,j=>by
  have B:i<n:=by omega
  simp only[lpF,q i a B j,fol];cases C:g i a with
  | inl b=>exact jP J q z A k (i+1) b (by omega) (z i a b B j C)
  | inr y=>rfl
noncomputable def Lp.st1(l:Lp)(rn:Rd')(f:Nat)(p:List Bool)(x:Code)(s:S):DT (Hs⊕(Ex×Hs)):=(rn f (false::p) x s).bind l.end_
section
variable {P:Program}{rn:Rd'}{l:Lp}{f:Nat}{p:List Bool}{x:Code}{s:S}
noncomputable def stO(l:Lp)(s:S):Option (Nat×Hs)→S
 | none=>s
 | some g=>bu l.m l.sp g.2
def muO(n:Nat):Option (Nat×Hs)→Nat
 | none=>n+1
 | some g=>g.1
def GO(st:Hs→Option (Hs⊕(Ex×Hs)))(y:Ex×Hs):Option (Nat×Hs)→Prop
 | none=>True
 | some g=>It st g.1 g.2 y
theorem zXg(hrn:gT P rn)(hc:cAt P f p=some (.loop x)){n:Nat}{z:Hs⊕(Ex×Hs)}{y:Ex×Hs}(hm:s.H.length≤l.m)(h0:(l.st1 rn f p x s).run=some z)(h:(∃q,z= .inl q∧It (l.stp rn f p x) n q y)∨z= .inr y):Tr P (.loop x) s (l.bx y).1 (l.bx y).2:=by
 intro E w0 X F n0 a D B w Y Mo rr Q hr hW hF hA;have c1:cAt P f (false::p)=some x:=by simp[cAt,hc,bX]
 have hr1:rr=none∨noR x=true:=hr.imp id fun h=>by simpa[noR]using h
 have hBm:∀i,l.m≤i→B i=none:=fun i Z=>hW.nn i (Nat.le_trans hm Z);have stp:∀g:Option (Nat×Hs),GO (l.stp rn f p x) y g→∃I J,(rn f (false::p) x (stO l s g)).run=some (I,J)∧((∃A,(gN l.m l.sp J).run=some A∧I= .n∧∃O,O<muO n g∧It (l.stp rn f p x) O A y)∨(∃A,(gN l.m l.sx J).run=some A∧(∃id,I= .x id)∧l.bx y=(I,bu l.m l.sx A))∨(∃A,(gN l.m l.sr J).run=some A∧I= .r∧l.bx y=(I,bu l.m l.sr A))):=fun g U=>by
  have key:∀(s':S)(z':Hs⊕(Ex×Hs))(k:Nat),((rn f (false::p) x s').bind l.end_).run=some z'→((∃q,z'= .inl q∧∃O,O<k∧It (l.stp rn f p x) O q y)∨z'= .inr y)→∃I J,(rn f (false::p) x s').run=some (I,J)∧((∃A,(gN l.m l.sp J).run=some A∧I= .n∧∃O,O<k∧It (l.stp rn f p x) O A y)∨(∃A,(gN l.m l.sx J).run=some A∧(∃id,I= .x id)∧l.bx y=(I,bu l.m l.sx A))∨(∃A,(gN l.m l.sr J).run=some A∧I= .r∧l.bx y=(I,bu l.m l.sr A))):=fun s' z' k h1 h2=>by
   obtain⟨⟨I,J⟩,h3,h4⟩:=zM h1;refine⟨I,J,h3,?_⟩;cases I with
   | n=>
    obtain⟨A,K,M⟩:=zM h4;cases M;rcases h2 with⟨q,e,O,hj,Z⟩ | e
    ·cases e;exact .inl ⟨_,K,rfl,O,hj,Z⟩
    ·cases e
   | x id=>
    obtain⟨A,K,M⟩:=zM h4;cases M;rcases h2 with⟨q,e,_⟩ | e
    ·cases e
    ·cases e;exact .inr (.inl ⟨_,K,⟨id,rfl⟩,rfl⟩)
   | r=>
    obtain⟨A,K,M⟩:=zM h4;cases M;rcases h2 with⟨q,e,_⟩ | e
    ·cases e
    ·cases e;exact .inr (.inr ⟨_,K,rfl,rfl⟩)
   | p t=>cases h4
  match g,U with
  | none,_=>
   refine key s z (n+1) h0 ?_;rcases h with⟨q,e,Z⟩ | e
   ·exact .inl ⟨q,e,n,Nat.lt_succ_self n,Z⟩
   ·exact .inr e
  | some (j,q0),U=>
   have U:It (l.stp rn f p x) j q0 y:=U;cases U with
   | go h k=>exact key _ _ _ h (.inl ⟨_,rfl,_,Nat.lt_succ_self _,k⟩)
   | out h=>exact key _ _ _ h (.inr rfl)
 refine lJ (γ:=Option (Nat×Hs)×List Nat) (fun g a2 w2=>GO (l.stp rn f p x) y g.1∧∃B' N C,(noR x=true→g.2=[])∧Wd P E w0 X (g.2++F) (stO l s g.1).H B' w2 N C∧FrT n0 a2 (stO l s g.1).L (g.2.map Gv.mark++D) B' (rd w2 N)∧BLe B B'∧Le (rd w Y) (rd w2 N))
  (fun g=>muO n g.1) (none,[]) ⟨trivial,B,Y,Mo,fun _=>rfl,hW,hF,BLe.refl B,Le.refl _⟩ ?_
 rintro⟨g,G⟩ a0 w1 ⟨U,B1,Y1,Mo1,W,g1,g2,g3,g4⟩;simp only at U W g1 g2;obtain⟨I,J,h1,hh⟩:=stp g U;have fin:∀{J:S}{a':Act}{w':World}{B':Bm}{N:Hid}{C:List (Nat×Obj)}{bs:List Nat}{sp:Sp}{A:Hs},(gN l.m sp J).run=some A→Wd P E w0 X (bs++(G++F)) J.H B' w' N C→FrT n0 a' J.L (bs.map Gv.mark++(G.map Gv.mark++D)) B' (rd w' N)→BLe B B'→
   ∃B2,Wd P E w0 X (bs++G++F) (bu l.m sp A).H B2 w' N C∧FrT n0 a' (bu l.m sp A).L ((bs++G).map Gv.mark++D) B2 (rd w' N)∧BLe B B2:=fun V k1 k2 k3=>by
  obtain⟨src,K,M,_⟩:=zSk V k1 k2;exact⟨_,by rw[List.append_assoc];exact K,by rw[List.map_append,List.append_assoc];exact M,zUh k3 hBm⟩
 refine hrn _ _ _ _ _ _ c1 h1 E w0 X _ n0 a0 _ B1 w1 Y1 Mo1 rr _ hr1 g1 g2 fun a' w' B' N C bs hbs k1 k2 k3 k4=>?_;have R:noR x=true→bs++G=[]:=fun e=>by rw[hbs e,W e];rfl
 rcases hh with⟨A,V,rfl,O,hj,hit'⟩ | ⟨A,V,⟨id,rfl⟩,hy⟩ | ⟨A,V,rfl,hy⟩
 ·obtain⟨B2,K,M,r3⟩:=fin V k1 k2 (g3.trans k3);exact⟨(some (O,A),bs++G),⟨hit',B2,N,C,R,K,M,r3,g4.trans k4⟩,hj⟩
 ·obtain⟨B2,K,M,r3⟩:=fin V k1 k2 (g3.trans k3);rw[hy]at hA;exact hA a' w' B2 N C (bs++G) (fun e=>R (by simpa[noR]using e)) K M r3 (g4.trans k4)
 ·obtain⟨B2,K,M,r3⟩:=fin V k1 k2 (g3.trans k3);rw[hy]at hA;exact hA a' w' B2 N C (bs++G) (fun e=>R (by simpa[noR]using e)) K M r3 (g4.trans k4)
noncomputable def Lp.rowP(l:Lp)(rn:Rd')(f:Nat)(p:List Bool)(x:Code)(h:Hs→DT (Ex×Hs))(s:S):DT (Ex×S):=bif Nat.ble (ln s.H) l.m then(l.st1 rn f p x s).bind fun z=>(match z with
 | .inl q=>(h q).bind fun y=> .ret (l.bx y)
 | .inr y=> .ret (l.bx y))else .no
theorem bG{t:List (Nat×List Bool×(S→DT (Ex×S)))}(ht:vY P (loT t)){h:Hs→DT (Ex×Hs)}(C:gT P rn)(E:cAt P f p=some (.loop x))(hh:∀q y,(h q).run=some y→∃n,It (l.stp rn f p x) n q y):vY P (loT ((f,p,l.rowP rn f p x h)::t)):=by
 intro G K s d hd N B e F j;simp only[loT]at hd;cases hb:Nat.beq f G&&eqP p K with
 | false=>rw[hb,zf]at hd;exact ht G K s d hd N B e F j
 | true=>
  rw[hb,ze]at hd;cases hd;simp only[zd]at hb;obtain rfl:=zY hb.1;obtain rfl:=zSz hb.2;rw[E]at B;cases B;unfold Lp.rowP at j;cases A:Nat.ble (ln s.H) l.m with
  | false=>rw[A]at j;cases j
  | true=>
   rw[A,ze]at j;have A:=Nat.le_of_ble_eq_true A;rw[qU]at A;obtain⟨z,I,J⟩:=zM j;cases z with
   | inl q=>
    obtain⟨y,L,M⟩:=zM J;obtain⟨n,hn⟩:=hh q y L;have:=zXg C E A I (.inl ⟨q,rfl,hn⟩);have D:l.bx y=(e,F):=Option.some.inj M;rw[D]at this;exact this
   | inr y=>
    have:=zXg (n:=0) C E A I (.inr rfl);have D:l.bx y=(e,F):=Option.some.inj J;rw[D]at this;exact this
end
end Go.Ev

import Derived.OpenShut
import Derived.WideShapes
import Derived.Shelf.Strings.Builder1
import Derived.Shelf.Strconv.Itoa3
import Derived.LaidSub
import Derived.Lib.LaidTab
import Derived.LaidMore
import Derived.Lay
import Derived.BigCall
import Derived.LoopTactic
import Derived.Lib.ItoaLen
import Derived.Test.YtdfmdiakjdggbaaGreatDoorBaseE
set_option linter.unusedVariables false
set_option linter.unusedSimpArgs false
set_option linter.unnecessarySimpa false
namespace Go
abbrev uQ:=@List.reverse_nil
abbrev gA:=@Go.MakeChecks.laidMetH_plain
abbrev f9:=@List.tail_cons
abbrev cJ:=@Nat.succ_pos
end Go
namespace Go.Ev
open Go Go.Gv Go.RowKit IntKind
noncomputable def us':Nat→List Sl
 | 0=>[]
 | n+1=> .u::us' n
noncomputable def lpc(P:Program)(f:Nat)(p:List Bool):Code:=match cAt P f p with
 | some (.loop x)=>x
 | _=> .skip
def fol{α γ:Type}(g:Nat→α→α⊕γ)(d:α→γ):Nat→Nat→α→γ
 | 0,_,a=>d a
 | k+1,i,a=>match g i a with
  | .inl b=>fol g d k (i+1) b
  | .inr y=>y
theorem zMy{st:Hs→Option (Hs⊕(Ex×Hs))}{α γ:Type}{iv:Nat→α→Hs}{g:Nat→α→α⊕γ}{d:α→γ}{out:γ→Ex×Hs}{n:Nat}(J:Nat→α→Prop)
  (z:∀i a,i<n→J i a→st (iv i a)=some (match g i a with | .inl b=> .inl (iv (i+1) b) | .inr y=> .inr (out y)))
  (A:∀i a b,i<n→J i a→g i a= .inl b→J (i+1) b) (B:∀a,J n a→st (iv n a)=some (.inr (out (d a)))):∀k i a,i+k=n→J i a→∃m,It st m (iv i a) (out (fol g d k i a))
 | 0,i,a,e,q=>by
  obtain rfl:i=n:=by omega
  exact⟨0,.out (B a q)⟩
 | k+1,i,a,e,q=>by
  have C:i<n:=by omega
  have h:=z i a C q;cases j:g i a with
  | inl b=>
   rw[j]at h;obtain⟨m,hm⟩:=zMy J z A B k (i+1) b (by omega) (A i a b C q j)
   have e:fol g d (k+1) i a=fol g d k (i+1) b:=by simp only[fol,j]
   rw[e];exact⟨m+1,.go h hm⟩
  | inr y=>
   rw[j]at h;have e:fol g d (k+1) i a=y:=by simp only[fol,j]
   rw[e];exact⟨0,.out h⟩
section
variable {P:Program}{f:Nat}
noncomputable def kcT(p:List Ar→DT Rs)(nw:Bool)(az:List T):DT (T×Bool):=match zTe az with
 | some az=>(p az).bind fun y=> .ret (jDa y,nw)
 | none=> .no
theorem zUe{p:List Ar→DT Rs}{nw:Bool}(F:KC P f (fun az=>(p az).run) nw):∀az tv j,(kcT p nw az).run=some (tv,j)→∀k,KnP P k f az tv j:=by
 intro az tv j h k;unfold kcT at h;split at h
 ·rename_i q z;obtain⟨y,A,C⟩:=zM h;cases C;intro B w X qQ R _ _ E D G;refine(F w X E q qQ (zMb z D) y A).mono ?_;rintro e J ⟨I,v,rfl,hv⟩;exact G v J I (zZa hv)
 ·cases h
end
theorem zO{a b:Nat}(h:a<b):Nat.blt a b=true:=by rw[qz];exact h
theorem jU{a b:Nat}(h:b≤a):Nat.blt a b=false:=by
 cases e:Nat.blt a b with
 | false=>rfl
 | true=>rw[qz]at e;omega
theorem yK{a b:Nat}(h:a≤b):Nat.ble a b=true:=by rw[qv];exact h
theorem jD(a:Nat):Nat.beq a a=true:=cG a
end Go.Ev
namespace Go.Ev
open Go Go.Gv Go.RowKit Go.ChangeShapes IntKind
def Ty.bts:Ty→Nat
 | .lim=>4
 | .int .i64=>8
 | .int .u64=>8
 | .int .i32=>4
 | .int .u32=>4
 | .int .i16=>2
 | .int .u16=>2
 | .int _=>1
 | .bool=>1
 | .str=>1
 | .list _=>24
 | .prod A B=>A.bts+B.bts
def zDu:(A:Ty)→A.den→Prop
 | .lim,a=>a<4294967296
 | .int .i64,a=> -9223372036854775808≤a∧a≤9223372036854775807
 | .int _,_=>True
 | .bool,_=>True
 | .str,_=>True
 | .list A,l=>l.length*A.bts≤140737488351232∧∀x∈l,zDu A x
 | .prod A B,x=>zDu A x.1∧zDu B x.2
mutual
inductive TyF (P:Program):Ty→TypeId→Prop
  | lim {t:TypeId} (h:P.underlying t=some (.int .u32)):TyF P .lim t
  | int {t:TypeId} {k:IntKind} (h:P.underlying t=some (.int k)):TyF P (.int k) t
  | bool {t:TypeId} (h:P.underlying t=some .bool):TyF P .bool t
  | list {t e:TypeId} {A:Ty} (h:P.underlying t=some (.slice e)) (hs:P.cellsOf e=A.size) (hb:A.bts≤P.bytesOf e) (he:TyF P A e):TyF P (.list A) t
  | arr {t e:TypeId} {n:Nat} {A:Ty} (h:P.underlying t=some (.array n e)) (hs:P.cellsOf t=A.size) (hf:ArF P A e n):TyF P A t
  | struct {t:TypeId} {A:Ty} {fs:Array Field} (h:P.underlying t=some (.struct fs)) (hs:P.cellsOf t=A.size) (hf:FsF P A 0 fs.toList):TyF P A t
inductive ArF (P:Program):Ty→TypeId→Nat→Prop
  | one {A:Ty} {e:TypeId} (hs:P.cellsOf e=A.size) (h:TyF P A e):ArF P A e 1
  | cons {A B:Ty} {e:TypeId} {n:Nat} (hs:P.cellsOf e=A.size) (h:TyF P A e) (hl:ArF P B e n):ArF P (.prod A B) e (n+1)
inductive FsF (P:Program):Ty→Nat→List Field→Prop
  | one {A:Ty} {off:Nat} {f:Field} (ho:f.offset=off) (hs:P.cellsOf f.type=A.size) (h:TyF P A f.type):FsF P A off [f]
  | cons {A B:Ty} {off:Nat} {f:Field} {l:List Field} (ho:f.offset=off) (hs:P.cellsOf f.type=A.size) (h:TyF P A f.type) (hl:FsF P B (off+A.size) l):FsF P (.prod A B) off (f::l)
end
section
variable {H:Type}{enc:TypeId×Value→H}{P:Program}{w:World}{spare:Nat→Bool}{held:Bool}
def Opn(enc:TypeId×Value→H)(P:Program)(w:World)(spare:Nat→Bool)(held:Bool)(A:Ty)(t:TypeId):Prop:=∀(n:Nat)(e:List Value)(y:DataW H×List MemPlace),mD enc P w spare held n t e y→∃x:A.den,zDu A x∧jF (rd w X0) (fun _=>True) A x e
def qCl(enc:TypeId×Value→H)(P:Program)(w:World)(spare:Nat→Bool)(held:Bool)(A:Ty)(e:Nat)(l:List Field):Prop:=∀(j:List Value),j.length=e+A.size→(∀f∈l,∃n y,mD enc P w spare held n f.type ((j.drop f.offset).take (P.cellsOf f.type)) y)→∃x:A.den,zDu A x∧jF (rd w X0) (fun _=>True) A x (j.drop e)
theorem qPd{t:TypeId}(h:P.underlying t=some (.int .u32)):Opn enc P w spare held .lim t:=by
 intro n q y k;obtain⟨z,rfl,_,e⟩:=DataW.trod_int h k.1;have j:0≤z∧z<4294967296:=by
  simp[Lit.wf,IntKind.min,IntKind.max,IntKind.signed,IntKind.bits]at e;omega
 refine⟨z.toNat,show z.toNat<4294967296 by omega,?_,show z.toNat<4294967296 by omega⟩
 rw[j8,Int.toNat_of_nonneg j.1]
theorem qPc{t:TypeId}{kk:IntKind}(h:P.underlying t=some (.int kk)):Opn enc P w spare held (.int kk) t:=by
 intro n q y j;obtain⟨z,rfl,_,e⟩:=DataW.trod_int h j.1;refine⟨z,?_,rfl⟩;cases kk<;>first | trivial | skip
 simp[Lit.wf,IntKind.min,IntKind.max,IntKind.signed,IntKind.bits]at e;exact⟨show -9223372036854775808≤z by omega,show z≤9223372036854775807 by omega⟩
theorem qHp{t:TypeId}(h:P.underlying t=some .bool):Opn enc P w spare held .bool t:=by
 intro n e y k;obtain⟨b,rfl,_⟩:=DataW.trod_bool h k.1;exact⟨b,trivial,rfl⟩
theorem qHr{t e:TypeId}{A:Ty}(h:P.underlying t=some (.slice e))(O:P.cellsOf e=A.size)(N:A.bts≤P.bytesOf e)(R:Opn enc P w spare held A e):Opn enc P w spare held (.list A) t:=by
 intro n D y k;obtain⟨ad,U,C,I,rfl,z,V⟩:=qPa (α:=A.den) (El:=fun r a x=>zDu A x∧∃us,us.length=A.size∧jF r (fun _=>True) A x us∧At r a us) (bts:=P.bytesOf e) h O A.size_pos rfl (fun n D y b q Q F E=>by
  obtain⟨x,hv,M⟩:=R n D y Q;exact⟨x,hv,D,F,M,E⟩) k
 refine⟨I,⟨?_,?_⟩,ad,C,?_,?_⟩
 ·have:I.length*A.bts≤I.length*P.bytesOf e:=xx _ N;omega
 ·intro x B;rcases z.hat with rfl | ⟨b,q,_,ha⟩
  ·cases B
  ·obtain⟨i,G⟩:=jr B;exact(ha i x G).1
 ·rw[z.hlen]
 ·refine⟨by rw[←z.hlen];exact z.hcap,z.hbig,z.hat.imp id fun⟨b,q,e,ha⟩=>⟨b,q,e,trivial,fun i x G=>?_⟩⟩
  obtain⟨_,us,J,K,L⟩:=ha i x G;refine⟨us,J,K,fun j v hv=>?_⟩;have:=L j v hv;rwa[jT,xq]at this
theorem zUv{t:TypeId}{A:Ty}{e:Array Field}(h:P.underlying t=some (.struct e))(D:P.cellsOf t=A.size)(E:qCl enc P w spare held A 0 e.toList):Opn enc P w spare held A t:=by
 intro n j y k;have C:=flen h k D;obtain⟨x,hv,q⟩:=E j (by rw[C,ql]) fun f z=>by
  obtain⟨i,B⟩:=jr z;exact fld h k i (by simpa using B) rfl
 exact⟨x,hv,by simpa using q⟩
theorem qVf{t e:TypeId}{n fuel:Nat}{q:List Value}{x:DataW H×List MemPlace}(ht:P.underlying t=some (.array n e))(h:mD enc P w spare held fuel t q x)(i:Nat)(C:i<n):
  ∃m y,mD enc P w spare held m e ((q.drop (i*P.cellsOf e)).take (P.cellsOf e)) y:=by
 obtain⟨A,m,_,z,_,E,B⟩:=DataW.trod_array ht h.1;have:=B i C;refine⟨m,A[i]'(by omega),this.trans (jn _),fun b j hm=>h.2.1 b j ?_,fun k D=>h.2.2 k ?_⟩
 ·rw[z];exact gh.2 ⟨_,j3 _,hm⟩
 ·rw[z];simp only[DataW.weights,ht];exact jDe (d:=(A[i]'(by omega)).1) D (wv.2 ⟨_,j3 _,rfl⟩)
def qCk(enc:TypeId×Value→H)(P:Program)(w:World)(spare:Nat→Bool)(held:Bool)(A:Ty)(e:TypeId)(n:Nat):Prop:=∀(j:List Value),j.length=A.size→(∀i,i<n→∃m y,mD enc P w spare held m e ((j.drop (i*P.cellsOf e)).take (P.cellsOf e)) y)→∃x:A.den,zDu A x∧jF (rd w X0) (fun _=>True) A x j
theorem qPb{t e:TypeId}{n:Nat}{A:Ty}(h:P.underlying t=some (.array n e))(B:P.cellsOf t=A.size)(C:qCk enc P w spare held A e n):Opn enc P w spare held A t:=by
 intro m j y k;obtain⟨_,_,_,_,z,_⟩:=DataW.trod_array h k.1;exact C j (z.trans B) fun i q=>qVf h k i q
theorem qHo{A:Ty}{e:TypeId}(q:P.cellsOf e=A.size)(z:Opn enc P w spare held A e):qCk enc P w spare held A e 1:=by
 intro B C j;obtain⟨m,y,k⟩:=j 0 Nat.one_pos;rw[yp,xd,q,jv (by omega)]at k
 exact z m _ y k
theorem qAr{j z:Ty}{e:TypeId}{n:Nat}(B:P.cellsOf e=j.size)(K:Opn enc P w spare held j e)(D:qCk enc P w spare held z e n):qCk enc P w spare held (.prod j z) e (n+1):=by
 intro q I E;obtain⟨m,y,k⟩:=E 0 (cJ n);rw[yp,xd,B]at k;obtain⟨x,hv,F⟩:=K m _ y k;have J:q.length=j.size+z.size:=I;obtain⟨L,C,A⟩:=D (q.drop j.size) (by rw[xj];omega) fun i G=>by
  obtain⟨m,y,k⟩:=E (i+1) (Nat.succ_lt_succ G);rw[B,ja,vw,xz]at k;exact⟨m,y,by rw[B,f7];exact k⟩
 exact⟨(x,L),⟨hv,C⟩,q.take j.size,q.drop j.size,(jj _ _).symm,F,A⟩
theorem qPe{A:Ty}{e:Nat}{f:Field}(ho:f.offset=e)(z:P.cellsOf f.type=A.size)(B:Opn enc P w spare held A f.type):qCl enc P w spare held A e [f]:=by
 intro C D q;obtain⟨n,y,k⟩:=q _ qS;obtain⟨x,hv,j⟩:=B n _ y k;refine⟨x,hv,?_⟩;rw[ho,z,jv (by rw[xj];omega)]at j
 exact j
theorem qHq{j q:Ty}{e:Nat}{f:Field}{l:List Field}(ho:f.offset=e)(I:P.cellsOf f.type=j.size)(J:Opn enc P w spare held j f.type)(D:qCl enc P w spare held q (e+j.size) l):qCl enc P w spare held (.prod j q) e (f::l):=by
 intro z G F;obtain⟨n,y,k⟩:=F _ qS;obtain⟨x,hv,E⟩:=J n _ y k;obtain⟨K,C,A⟩:=D z (by rw[G];show e+(j.size+q.size)=_;omega) fun f B=>F f (z6 _ B)
 refine⟨(x,K),⟨hv,C⟩,(z.drop e).take j.size,(z.drop e).drop j.size,(jj _ _).symm,?_,?_⟩
 ·rw[ho,I]at E;exact E
 ·rw[f7];exact A
theorem TyF.open{A:Ty}{t:TypeId}(h:TyF P A t):Opn enc P w spare held A t:=
 TyF.rec (motive_1:=fun A t _=>Opn enc P w spare held A t) (motive_2:=fun A e n _=>qCk enc P w spare held A e n) (motive_3:=fun A z l _=>qCl enc P w spare held A z l) (fun h=>qPd h) (fun h=>qPc h) (fun h=>qHp h) (fun h j B _ q=>qHr h j B q) (fun h j _ q=>qPb h j q) (fun h j _ q=>zUv h j q) (fun j _ q=>qHo j q) (fun j _ _ q y=>qAr j q y) (fun ho j _ q=>qPe ho j q) (fun ho j _ _ q y=>qHq ho j q y) h
end
section
variable {H:Type}{enc:TypeId×Value→H}{P:Program}{w:World}{spare:Nat→Bool}{held:Bool}
theorem qOz{t e:TypeId}{A:Ty}{v:Value}{d:DataW H}{y:List MemPlace}{r:Reach}{j:Nat}(ht:P.underlying t=some (.slice e))(C:TyF P (.list A) t)(q:Value.okWide P w r j t v)(h:DataW.Trod enc P w 0 spare held t v d y)(F:w.noneFrozen y)(E:∀n∈d.weights P t,n≤140737488351232)(B:Bm):
  ∃x:List A.den,zDu (.list A) x∧Rep B (rd w X0) (.ls .a A x) v:=by
 obtain⟨a,G,z,rfl⟩:=Go.WideShapes.okWide_slice ht q;obtain⟨n,h⟩:=h;have h:mD enc P w spare held n t _ _:=⟨h,F,E⟩;simp only[Value.cells]at h;obtain⟨x,hv,D⟩:=TyF.open C n _ _ h;exact⟨x,hv,.ls (jF.mono (Le.refl _) (fun _ _=>Bm.In.any) _ _ _ D)⟩
theorem qOy{t:TypeId}{A:Ty}{v:Value}{d:DataW H}{C:List MemPlace}{r:Reach}{j:Nat}(ht:(∃z,P.underlying t=some (.struct z))∨∃n e,P.underlying t=some (.array n e))(E:TyF P A t)(y:Value.okWide P w r j t v)(h:DataW.Trod enc P w 0 spare held t v d C)(I:w.noneFrozen C)(G:∀n∈d.weights P t,n≤140737488351232)(B:Bm):
  ∃x:A.den,zDu A x∧Rep B (rd w X0) (.ag (qE .a A x)) v:=by
 have hv:∃q,v= .agg q:=by
  rcases ht with⟨z,ht⟩ | ⟨n,e,ht⟩<;>(simp only[Value.okWide,ht]at y;obtain⟨q,D,_⟩:=y;exact⟨q,D⟩)
 obtain⟨q,rfl⟩:=hv;obtain⟨n,h⟩:=h;have h:mD enc P w spare held n t _ _:=⟨h,I,G⟩;simp only[Value.cells]at h;obtain⟨x,hv,F⟩:=TyF.open E n _ _ h;refine⟨x,hv,?_⟩;have:=Rep.mkAg (B:=B) (r:=rd w X0) (jF.reps (g:= .a) A x q.toList (jF.mono (Le.refl _) (fun _ _=>Bm.In.any) _ _ _ F));simpa using this
end
end Go.Ev
namespace Go.Proofs.YtdfmdiakjdggbaaGreatDoor
open Go Go.Gv Go.Ev Go.RowKit IntKind
theorem qFw:KC Tryz.prog 34 (pRR fun a b=>some (opR a b (a.rat+b.rat),opE a b (a.rat+b.rat))) true:=zXc fun w X A a D ha b E B y C=>by
 obtain⟨_,_,_,_,_,_,rfl,e,j⟩:=ha;obtain⟨_,_,_,_,_,_,rfl,q,z⟩:=B;cases C;exact jBt w X A a _ _ _ e _ _ _ j b _ _ _ q _ _ _ z
theorem qNn:KC Tryz.prog 49 (pRR fun a b=>some (opR a b (a.rat*b.rat),opE a b (a.rat*b.rat))) true:=zXc fun w X A a D ha b E B y C=>by
 obtain⟨_,_,_,_,_,_,rfl,e,j⟩:=ha;obtain⟨_,_,_,_,_,_,rfl,q,z⟩:=B;cases C;exact jBw w X A a _ _ _ e _ _ _ j b _ _ _ q _ _ _ z
theorem kSub:KC Tryz.prog 48 (pRR fun a b=>some (opR a b (a.rat-b.rat),opE a b (a.rat-b.rat))) true:=zXc fun w X A a D ha b E B y C=>by
 obtain⟨_,_,_,_,_,_,rfl,e,j⟩:=ha;obtain⟨_,_,_,_,_,_,rfl,q,z⟩:=B;cases C;exact jBy w X A a _ _ _ e _ _ _ j b _ _ _ q _ _ _ z
theorem kDiv:KC Tryz.prog 80 (pRR fun a b=>bif Nat.beq (val b.ln) 0 then none else some (opR a b (a.rat / b.rat),opE a b (a.rat / b.rat))) true:=zXc fun w X D a F ha b G E y q=>by
 obtain⟨_,_,_,_,_,_,rfl,z,A⟩:=ha;obtain⟨_,_,_,_,_,_,rfl,B,C⟩:=E;cases j:Nat.beq (val b.ln) 0 with
 | true=>simp[j]at q
 | false=>
  simp only[j,zf]at q;cases q;exact jBv w X D a _ _ _ z _ _ _ A b _ _ _ B _ _ _ C (fun e=>by rw[e]at j;cases j)
theorem qZc:KC Tryz.prog 33 (pRI fun a b=>(yQ a b,xB a b)) true:=jEh fun w X z a B ha b C A=>by
 obtain⟨_,_,_,_,_,_,rfl,e,j⟩:=ha;obtain⟨_,_,_,_,_,_,rfl,q,y⟩:=A;exact jBu w X z a _ _ _ e _ _ _ j b _ _ _ q _ _ _ y
theorem qZb:KC Tryz.prog 75 (pR Raw.chk) true:=kc_r fun w X q a y ha=>by
 obtain⟨_,_,_,_,_,_,rfl,e,j⟩:=ha;exact wP w X q a _ _ _ e _ _ _ j
theorem jEf:KC Tryz.prog 73 (pR Raw.chk) true:=kc_r fun w X q a y ha=>by
 obtain⟨_,_,_,_,_,_,rfl,e,j⟩:=ha;exact qBc w X q a _ _ _ e _ _ _ j
theorem zQk:KC Tryz.prog 47 (pI fun n=>Raw.of (n:Rat)) true:=kc_i fun w n e j=>qPw w (old w) (fun k _ h=>h) n e j
theorem qZd:KC Tryz.prog 51 (pI fun n=>Raw.of (n:Rat)) true:=kc_i fun w n e j=>qIy w (old w) (fun k _ h=>h) n e j
theorem kOf:KC Tryz.prog 126 (pII fun n m=>Raw.of (mkRat (sgn (!(decide (n<0)==decide (m<0))) n.natAbs) m.natAbs)) true:=qSp fun w n m e j q y z=>jFa w (old w) (fun k _ h=>h) n m e j q y z
theorem kOf6:KC Tryz.prog 53 (pII fun n m=>Raw.of (mkRat (sgn (decide (n<0)!=decide (m<0)) n.natAbs) m.natAbs)) true:=qSp fun w n m e j q y z=>jBx w (old w) (fun k _ h=>h) n m e j q y z
theorem kEq:KC Tryz.prog 37 (pB fun a b=>decide (a=b)) true:=kc_b fun w X z a B ha b C A=>by
 obtain⟨_,_,_,_,_,_,rfl,e,j⟩:=ha;obtain⟨_,_,_,_,_,_,rfl,q,y⟩:=A;exact zSs w X z a _ _ _ e _ _ _ j b _ _ _ q _ _ _ y
noncomputable def zUo:List (Nat×(List T→Option (T×Bool))):=[(34,kcE (pRR fun a b=>some (opR a b (a.rat+b.rat),opE a b (a.rat+b.rat))) true),(49,kcE (pRR fun a b=>some (opR a b (a.rat*b.rat),opE a b (a.rat*b.rat))) true),(48,kcE (pRR fun a b=>some (opR a b (a.rat-b.rat),opE a b (a.rat-b.rat))) true),(80,kcE (pRR fun a b=>bif Nat.beq (val b.ln) 0 then none else some (opR a b (a.rat / b.rat),opE a b (a.rat / b.rat))) true),(33,kcE (pRI fun a b=>(yQ a b,xB a b)) true),(75,kcE (pR Raw.chk) true),(73,kcE (pR Raw.chk) true),(47,kcE (pI fun n=>Raw.of (n:Rat)) true),(51,kcE (pI fun n=>Raw.of (n:Rat)) true),(126,kcE (pII fun n m=>Raw.of (mkRat (sgn (!(decide (n<0)==decide (m<0))) n.natAbs) m.natAbs)) true),(53,kcE (pII fun n m=>Raw.of (mkRat (sgn (decide (n<0)!=decide (m<0)) n.natAbs) m.natAbs)) true),(37,kcE (pB fun a b=>decide (a=b)) true)]
theorem jAk:qR Tryz.prog (xY zUo):=qJu fun g p hm e tv nw h k=>by
 simp only[zUo,qj,List.not_mem_nil,or_false,z7]at hm;rcases hm with⟨rfl,rfl⟩ | ⟨rfl,rfl⟩ | ⟨rfl,rfl⟩ | ⟨rfl,rfl⟩ | ⟨rfl,rfl⟩ | ⟨rfl,rfl⟩ | ⟨rfl,rfl⟩ | ⟨rfl,rfl⟩ | ⟨rfl,rfl⟩ | ⟨rfl,rfl⟩ | ⟨rfl,rfl⟩ | ⟨rfl,rfl⟩
 ·exact gM qFw h k
 ·exact gM qNn h k
 ·exact gM kSub h k
 ·exact gM kDiv h k
 ·exact gM qZc h k
 ·exact gM qZb h k
 ·exact gM jEf h k
 ·exact gM zQk h k
 ·exact gM qZd h k
 ·exact gM kOf h k
 ·exact gM kOf6 h k
 ·exact gM kEq h k
end Go.Proofs.YtdfmdiakjdggbaaGreatDoor
namespace Go.Proofs.YtdfmdiakjdggbaaGreatDoor
open Go Go.RowKit Go.Shelf IntKind
set_option maxRecDepth 100000
set_option maxHeartbeats 1000000
def qRx:Go.Shelf.Ren:=⟨fun | 166=>201 | 240=>257 | 276=>276 | n=>n,fun | 0=>0 | 3=>3 | 4=>4 | 5=>5 | 9=>9 | 20=>20 | 37=>99 | 70=>257 | 72=>259 | 75=>261 | 80=>266 | 164=>329 | n=>n,fun n=>n⟩
theorem qVi:Go.Proofs.Lays.n166 Tryz.prog qRx:={mixed:=by kernel_rfl,f166:=Tryz.func201.trans (ju some (by kernel_rfl)),f240:=Tryz.func257.trans (ju some (by kernel_rfl)),f276:=Tryz.func276.trans (ju some (by kernel_rfl)),t0:=Tryz.underlying0,a0:=Tryz.isAgg0,z0:=Tryz.sizeOf0,v0:=Tryz.zeroValue0,t3:=Tryz.underlying3,a3:=Tryz.isAgg3,z3:=Tryz.sizeOf3,v3:=Tryz.zeroValue3,t4:=Tryz.underlying4,a4:=Tryz.isAgg4,z4:=Tryz.sizeOf4,v4:=Tryz.zeroValue4,t9:=Tryz.underlying9,a9:=Tryz.isAgg9,z9:=Tryz.sizeOf9,v9:=Tryz.zeroValue9,t20:=Tryz.underlying20,a20:=Tryz.isAgg20,z20:=Tryz.sizeOf20,v20:=Tryz.zeroValue20,t37:=Tryz.underlying99,a37:=Tryz.isAgg99,z37:=Tryz.sizeOf99,v37:=Tryz.zeroValue99,t70:=Tryz.underlying257,a70:=Tryz.isAgg257,z70:=Tryz.sizeOf257,v70:=Tryz.zeroValue257,t72:=Tryz.underlying259,a72:=Tryz.isAgg259,z72:=Tryz.sizeOf259,v72:=Tryz.zeroValue259,t75:=Tryz.underlying261,a75:=Tryz.isAgg261,z75:=Tryz.sizeOf261,v75:=Tryz.zeroValue261,t164:=Tryz.underlying329,a164:=Tryz.isAgg329,z164:=Tryz.sizeOf329,v164:=Tryz.zeroValue329}
def qRw:Go.Shelf.Ren:=⟨fun | 167=>203 | 240=>257 | 276=>276 | n=>n,fun | 0=>0 | 3=>3 | 4=>4 | 5=>5 | 9=>9 | 20=>20 | 37=>99 | 70=>257 | 72=>259 | 75=>261 | 80=>266 | 164=>329 | n=>n,fun n=>n⟩
theorem qVg:Go.Proofs.Lays.n167 Tryz.prog qRw:={mixed:=by kernel_rfl,f167:=Tryz.func203.trans (ju some (by kernel_rfl)),f240:=Tryz.func257.trans (ju some (by kernel_rfl)),f276:=Tryz.func276.trans (ju some (by kernel_rfl)),t0:=Tryz.underlying0,a0:=Tryz.isAgg0,z0:=Tryz.sizeOf0,v0:=Tryz.zeroValue0,t4:=Tryz.underlying4,a4:=Tryz.isAgg4,z4:=Tryz.sizeOf4,v4:=Tryz.zeroValue4,t5:=Tryz.underlying5,a5:=Tryz.isAgg5,z5:=Tryz.sizeOf5,v5:=Tryz.zeroValue5,t9:=Tryz.underlying9,a9:=Tryz.isAgg9,z9:=Tryz.sizeOf9,v9:=Tryz.zeroValue9,t20:=Tryz.underlying20,a20:=Tryz.isAgg20,z20:=Tryz.sizeOf20,v20:=Tryz.zeroValue20,t37:=Tryz.underlying99,a37:=Tryz.isAgg99,z37:=Tryz.sizeOf99,v37:=Tryz.zeroValue99,t70:=Tryz.underlying257,a70:=Tryz.isAgg257,z70:=Tryz.sizeOf257,v70:=Tryz.zeroValue257,t72:=Tryz.underlying259,a72:=Tryz.isAgg259,z72:=Tryz.sizeOf259,v72:=Tryz.zeroValue259,t75:=Tryz.underlying261,a75:=Tryz.isAgg261,z75:=Tryz.sizeOf261,v75:=Tryz.zeroValue261,t164:=Tryz.underlying329,a164:=Tryz.isAgg329,z164:=Tryz.sizeOf329,v164:=Tryz.zeroValue329}
def qRy:Go.Shelf.Ren:=⟨fun | 169=>204 | n=>n,fun | 70=>257 | 9=>9 | 0=>0 | 72=>259 | 37=>99 | 127=>313 | 3=>3 | 5=>5 | n=>n,fun n=>n⟩
theorem qVj:Go.Proofs.Lays.n169 Tryz.prog qRy:={mixed:=by kernel_rfl,f169:=Tryz.func204.trans (ju some (by kernel_rfl)),t0:=Tryz.underlying0,a0:=Tryz.isAgg0,z0:=Tryz.sizeOf0,v0:=Tryz.zeroValue0,t3:=Tryz.underlying3,a3:=Tryz.isAgg3,z3:=Tryz.sizeOf3,v3:=Tryz.zeroValue3,t9:=Tryz.underlying9,a9:=Tryz.isAgg9,z9:=Tryz.sizeOf9,v9:=Tryz.zeroValue9,t37:=Tryz.underlying99,a37:=Tryz.isAgg99,z37:=Tryz.sizeOf99,v37:=Tryz.zeroValue99,t70:=Tryz.underlying257,a70:=Tryz.isAgg257,z70:=Tryz.sizeOf257,v70:=Tryz.zeroValue257,t72:=Tryz.underlying259,a72:=Tryz.isAgg259,z72:=Tryz.sizeOf259,v72:=Tryz.zeroValue259,t127:=Tryz.underlying313,a127:=Tryz.isAgg313,z127:=Tryz.sizeOf313,v127:=Tryz.zeroValue313}
def jDw:Go.Shelf.Ren:=⟨fun | 171=>202 | 243=>258 | 246=>277 | 283=>290 | 284=>291 | 285=>292 | 286=>293 | 129=>310 | 317=>311 | 318=>312 | 319=>313 | 320=>314 | 337=>320 | 338=>321 | n=>n,fun | 3=>3 | 9=>9 | 2=>2 | 4=>4 | 171=>341 | 0=>0 | 53=>226 | 37=>99 | 5=>5 | 173=>344 | 212=>358 | 51=>214 | 20=>20 | 213=>359 | 46=>185 | 232=>369 | 233=>370 | n=>n,fun | 17=>0 | 18=>1 | 19=>2 | n=>n⟩
theorem qVh:Go.Proofs.LaysM.n171 Tryz.prog jDw:={mixed:=by kernel_rfl,f129:=Tryz.func310.trans (ju some (by kernel_rfl)),f171:=Tryz.func202.trans (ju some (by kernel_rfl)),f243:=Tryz.func258.trans (ju some (by kernel_rfl)),f246:=Tryz.func277.trans (ju some (by kernel_rfl)),f283:=Tryz.func290.trans (ju some (by kernel_rfl)),f284:=Tryz.func291.trans (ju some (by kernel_rfl)),f285:=Tryz.func292.trans (ju some (by kernel_rfl)),f286:=Tryz.func293.trans (ju some (by kernel_rfl)),f317:=Tryz.func311.trans (ju some (by kernel_rfl)),f318:=Tryz.func312.trans (ju some (by kernel_rfl)),f319:=Tryz.func313.trans (ju some (by kernel_rfl)),f320:=Tryz.func314.trans (ju some (by kernel_rfl)),f337:=Tryz.func320.trans (ju some (by kernel_rfl)),f338:=Tryz.func321.trans (ju some (by kernel_rfl)),t0:=Tryz.underlying0,a0:=Tryz.isAgg0,z0:=Tryz.sizeOf0,v0:=Tryz.zeroValue0,t2:=Tryz.underlying2,a2:=Tryz.isAgg2,z2:=Tryz.sizeOf2,v2:=Tryz.zeroValue2,t3:=Tryz.underlying3,a3:=Tryz.isAgg3,z3:=Tryz.sizeOf3,v3:=Tryz.zeroValue3,t4:=Tryz.underlying4,a4:=Tryz.isAgg4,z4:=Tryz.sizeOf4,v4:=Tryz.zeroValue4,t5:=Tryz.underlying5,a5:=Tryz.isAgg5,z5:=Tryz.sizeOf5,v5:=Tryz.zeroValue5,t9:=Tryz.underlying9,a9:=Tryz.isAgg9,z9:=Tryz.sizeOf9,v9:=Tryz.zeroValue9,t20:=Tryz.underlying20,a20:=Tryz.isAgg20,z20:=Tryz.sizeOf20,v20:=Tryz.zeroValue20,t37:=Tryz.underlying99,a37:=Tryz.isAgg99,z37:=Tryz.sizeOf99,v37:=Tryz.zeroValue99,t46:=Tryz.underlying185,a46:=Tryz.isAgg185,z46:=Tryz.sizeOf185,v46:=Tryz.zeroValue185,t51:=Tryz.underlying214,a51:=Tryz.isAgg214,z51:=Tryz.sizeOf214,v51:=Tryz.zeroValue214,t53:=Tryz.underlying226,a53:=Tryz.isAgg226,z53:=Tryz.sizeOf226,v53:=Tryz.zeroValue226,t171:=Tryz.underlying341,a171:=Tryz.isAgg341,z171:=Tryz.sizeOf341,v171:=Tryz.zeroValue341,t173:=Tryz.underlying344,a173:=Tryz.isAgg344,z173:=Tryz.sizeOf344,v173:=Tryz.zeroValue344,t212:=Tryz.underlying358,a212:=Tryz.isAgg358,z212:=Tryz.sizeOf358,v212:=Tryz.zeroValue358,t213:=Tryz.underlying359,a213:=Tryz.isAgg359,z213:=Tryz.sizeOf359,t232:=Tryz.underlying369,a232:=Tryz.isAgg369,z232:=Tryz.sizeOf369,v232:=Tryz.zeroValue369,t233:=Tryz.underlying370,a233:=Tryz.isAgg370,z233:=Tryz.sizeOf370,v233:=Tryz.zeroValue370,g17:=by kernel_rfl,g18:=by kernel_rfl,g19:=by kernel_rfl,i0:=by kernel_rfl,i2:=by kernel_rfl,i3:=by kernel_rfl,i4:=by kernel_rfl,i5:=by kernel_rfl,i9:=by kernel_rfl,i20:=by kernel_rfl,i37:=by kernel_rfl,i46:=by kernel_rfl,i51:=by kernel_rfl,i53:=by kernel_rfl,i171:=by kernel_rfl,i173:=by kernel_rfl,i212:=by kernel_rfl,i232:=by kernel_rfl,i233:=by kernel_rfl,m17:=by kernel_rfl,m18:=by kernel_rfl,m19:=by kernel_rfl}
theorem bSX:Builder.Extra Tryz.prog qRx:={sizeBuilder:=by kernel_rfl,liesBuilder:=by kernel_rfl,t5:=Tryz.underlying5,a5:=Tryz.isAgg5,z5:=Tryz.sizeOf5,v5:=Tryz.zeroValue5,infoByte:=by kernel_rfl,cellsByte:=by kernel_rfl,sizeByte:=by kernel_rfl,neB5:=by decide}
theorem bBX:Builder.Extra Tryz.prog qRw:={sizeBuilder:=by kernel_rfl,liesBuilder:=by kernel_rfl,t5:=Tryz.underlying5,a5:=Tryz.isAgg5,z5:=Tryz.sizeOf5,v5:=Tryz.zeroValue5,infoByte:=by kernel_rfl,cellsByte:=by kernel_rfl,sizeByte:=by kernel_rfl,neB5:=by decide}
theorem bTX:Builder.Extra Tryz.prog qRy:={sizeBuilder:=by kernel_rfl,liesBuilder:=by kernel_rfl,t5:=Tryz.underlying5,a5:=Tryz.isAgg5,z5:=Tryz.sizeOf5,v5:=Tryz.zeroValue5,infoByte:=by kernel_rfl,cellsByte:=by kernel_rfl,sizeByte:=by kernel_rfl,neB5:=by decide}
theorem zJv(B b:Nat)(q:List Value)(s:ByteArray)(w:World)(h:Lib.IsBuilder 259 5 B b q w)(j:q.length+s.size≤140737488355328)(y:B≤w.heap.size):
  Calls Tryz.prog 201 #[.pointer (some ⟨b,0,none⟩),.string s] w fun e z=>e= .returned (.tuple #[.int .i64 s.size,.nilIface])∧(Lib.BuilderAt 259 5 B b (.pointer (some ⟨b,0,none⟩)) (q++Lib.strCells s) z∧Below B w z):=Any.Builder_WriteString qVi bSX B b q s w h j y
theorem zSo(B b:Nat)(q:List Value)(c:Int)(w:World)(h:Lib.IsBuilder 259 5 B b q w)(j:q.length+1≤140737488355328)(y:B≤w.heap.size):
  Calls Tryz.prog 203 #[.pointer (some ⟨b,0,none⟩),.int .u8 c] w fun e z=>e= .returned .nilIface∧(Lib.BuilderAt 259 5 B b (.pointer (some ⟨b,0,none⟩)) (q++[.int .u8 c]) z∧Below B w z):=Any.Builder_WriteByte qVg bBX B b q c w h j y
theorem qJm(B b:Nat)(l:List UInt8)(w:World)(h:Lib.IsBuilder 259 5 B b (Lib.byteCells l) w)(j:B≤w.heap.size):
  Calls Tryz.prog 204 #[.pointer (some ⟨b,0,none⟩)] w fun e q=>e= .returned (.string ⟨l.toArray⟩)∧Below B w q:=Any.Builder_String_any qVj bTX B b l w h j
theorem qYw(i:Int)(j: -9223372036854775808≤i)(q:i≤9223372036854775807)(w:World)(ht:Lib.TabIs Tryz.prog w "internal/strconv.uint64pow10" .u64 Lib.pow10Tab):Calls Tryz.prog 202 #[.int .i64 i] w fun e y=>e= .returned (.string ⟨(Lib.itoa i).toArray⟩)∧∃k os,y=Sort.grow (w.drewN k) os:=Any.strconv_Itoa qVh i j q w ht
theorem qIv:Tryz.prog.globalNamed "internal/strconv.uint64pow10" =some 0:=by kernel_rfl
theorem qPr{l:List (String×DataW Unit)}{W:World}(h:laidMetH Tryz.prog l W)(j:l.filter (fun x=>x.1== "internal/strconv.uint64pow10")=[("internal/strconv.uint64pow10",Lib.tabData .u64 Lib.pow10Tab)]):Lib.TabIs Tryz.prog W "internal/strconv.uint64pow10" .u64 Lib.pow10Tab:=by
 have e:=h.filter fun x=>x.1== "internal/strconv.uint64pow10";rw[j,gA _ _ _ (by kernel_rfl)]at e
 exact Lib.tabIs_of_head (rest:=[]) qIv (by kernel_rfl) Tryz.underlying358 Tryz.underlying185 (by kernel_rfl) (by kernel_rfl) e
end Go.Proofs.YtdfmdiakjdggbaaGreatDoor
namespace Go.Proofs.YtdfmdiakjdggbaaGreatDoor
open Go Go.RowKit IntKind
def qLy:Nat→Nat→List UInt8
 | 0,_=>[]
 | n+1,x=>bif Nat.blt x 10 then[UInt8.ofNat (48+x)]else qLy n (x / 10)++[UInt8.ofNat (48+x % 10)]
theorem zWn:∀{n x:Nat},x<10^n→0<n→qLy n x=Lib.decDigits x
 | 0,_,_,h=>absurd h (by omega)
 | n+1,x,h,_=>by
  rw[Lib.decDigits,qLy];by_cases e:x<10
  ·have:Nat.blt x 10=true:=by simpa[qz]using e
   simp[e,this]
  ·have:Nat.blt x 10=false:=by
    cases j:Nat.blt x 10
    ·rfl
    ·rw[qz]at j;exact absurd j e
   rw[jd]at h;have y:0<n:=by
    rcases jp n with rfl | q
    ·simp at h;omega
    ·exact q
   rw[zWn (n:=n) (x:=x / 10) (by omega) y]
   simp[e,this]
def zZy(x:Nat):List UInt8:=qLy 20 x
theorem zWo{x:Nat}(h:x≤9223372036854775807):Lib.itoa (x:Int)=zZy x:=by
 rw[Lib.itoa_nonneg];exact(zWn (by omega) (by omega)).symm
theorem qEg{x:Nat}(h:x≤9223372036854775807):(zZy x).length≤21:=by
 rw[←zWo h];exact Lib.itoa_length_le _ (by omega) (by omega)
def zCv:List Nat→List UInt8
 | []=>[]
 | x::l=>zZy x++(32::zCv l)
theorem zCw:∀(l:List Nat)(x:Nat),zCv (l++[x])=(zCv l++zZy x)++[32]
 | [],x=>by simp[zCv]
 | y::l,x=>by simp[zCv,zCw l x,qt]
theorem qZe{T e:TypeId}{B b:Nat}{j:List Value}{w:World}(h:Lib.IsBuilder T e B b j w)(k:Nat)(os:Array Obj):Lib.IsBuilder T e B b j (Sort.grow (w.drewN k) os):=by
 have q:∀p,Lib.BuilderAt T e B b p j w→Lib.BuilderAt T e B b p j (Sort.grow (w.drewN k) os):=fun p h=>by
  have D:=h.lt;obtain⟨y,v,z,A,C⟩:=h;exact⟨y,v,by rw[Lib.heap_grow_old w k os b D];exact z,Lib.ownsRow_grow A k os,C⟩
 exact h.elim (fun h=> .inl (q _ h)) fun h=> .inr (q _ h)
set_option maxHeartbeats 4000000 in
set_option maxRecDepth 1000000 in
theorem zQm(b off c:Nat)(l:List Nat)(w:World)(hl:l.length*22≤140737488355328)(hx:∀x∈l,x≤9223372036854775807)(ht:Lib.TabIs Tryz.prog w "internal/strconv.uint64pow10" .u64 Lib.pow10Tab)(hc:∀(k x:Nat),l[k]?=some x→w.cell? ⟨b,off+k,none⟩=some (.int .i64 x)):
  Calls Tryz.prog 130 #[.slice (some ⟨b,off,none⟩) l.length c] w fun e w'=>e= .returned (.string ⟨(zCv l).toArray⟩)∧Below w.heap.size w w':=by
 go_enter Tryz.func130,Tryz.ntmps130
 go_wp2
 go_loopw [8] (fun i wr=>∃k:Nat,k≤l.length∧i= .int .i64 k∧Lib.IsBuilder 259 5 w.heap.size w.heap.size (Lib.byteCells (zCv (l.take k))) wr∧Below w.heap.size w wr∧(zCv (l.take k)).length≤22*k) (fun i _=>l.length-(intOf i).toNat)
 case atStart=>exact⟨0,qu _,rfl,Lib.fresh_isBuilder 259 5 w,(Below.refl _ w).alloc (zq _) _,by simp[zCv]⟩
 case round=>
  obtain⟨k,hk,rfl,hI,hbw,hle⟩:=hrel;have hsz:=hbw.size;by_cases hlt:k<l.length
  ·obtain⟨x,hx1⟩:∃x,l[k]?=some x:=⟨l[k],by simp[hlt]⟩
   have hxl:=hx x (qk hx1);have hcw:=hc k x hx1;have hcx:wr.cell? ⟨b,off+k,none⟩=some (.int .i64 x):=(hbw.cell (p:=⟨b,off+k,none⟩) (k8 _ _ hcw)).trans hcw
   go_wp2_with (go_at_call 202;refine(qYw x (by omega) (by omega) _ (Lib.tabBelow_of_tabIs ht _ hbw)).mono ?_;rintro e w1 ⟨rfl,kk,os,rfl⟩)
   rw[zWo hxl];have hI':=qZe hI kk os;have hbw':=hbw.trans (Lib.below_grow w.heap.size _ hsz kk os);have hsz':=hbw'.size;have hdl:=qEg hxl
   go_wp2_with (go_at_call 201;refine(zJv w.heap.size w.heap.size _ _ _ hI' (by rw[Lib.byteCells_length];show _+(zZy x).toArray.size≤_;simp;omega) hsz').mono ?_)
   rintro e w2 ⟨rfl,h2,b2⟩;have hI2:Lib.IsBuilder 259 5 w.heap.size w.heap.size (Lib.byteCells (zCv (l.take k)++zZy x)) w2:=by
    rw[Lib.byteCells_append];exact Or.inr h2
   have hsz2:w.heap.size≤w2.heap.size:=qx hsz' b2.size
   go_wp2_with (go_at_call 203;refine(zSo w.heap.size w.heap.size _ 32 _ hI2 (by rw[Lib.byteCells_length];simp;omega) hsz2).mono ?_)
   rintro e w3 ⟨rfl,h3,b3⟩
   go_wp2
   go_roundw
   case rel=>
    have ht:l.take (k+1)=l.take k++[x]:=by rw[List.take_add_one,hx1];rfl
    refine⟨k+1,by omega,by go_num,?_,(hbw'.trans b2).trans b3,?_⟩
    ·rw[ht,zCw,Lib.byteCells_append];exact Or.inr h3
    ·rw[ht,zCw];simp only[qo,qf,xh];omega
   case measure=>simp[intOf];omega
  ·have:k=l.length:=by omega
   subst this;rw[jz]at hI
   go_wp2_with (go_at_call 204;refine(qJm w.heap.size w.heap.size (zCv l) _ hI hsz).mono ?_)
   rintro e w1 ⟨rfl,b1⟩
   go_wp2
   go_ret
   exact⟨rfl,hbw.trans b1⟩
end Go.Proofs.YtdfmdiakjdggbaaGreatDoor
namespace Go.Proofs.YtdfmdiakjdggbaaGreatDoor
open Go Go.Gv Go.Ev IntKind
noncomputable def zUf:List T→Option (List Nat)
 | []=>some []
 | t::l=>match t with
  | .v (.int .i64 (.ofNat x))=>bif Nat.blt x 9223372036854775808 then(match zUf l with | some r=>some (x::r) | none=>none)else none
  | _=>none
noncomputable def qZg:List T→Option (T×Bool)
 | [.sl (t::e) n]=>bif Nat.beq (ln (t::e)) n&&Nat.blt n 1000 then(match zUf (t::e)with | some l=>some (.v (.string ⟨(zCv l).toArray⟩),true) | none=>none)else none
 | _=>none
theorem zXe{B:Bm}{r:Rd}:∀{j:List T}{l:List Nat},zUf j=some l→l.length=j.length∧(∀x∈l,x≤9223372036854775807)∧∀(k x:Nat),l[k]?=some x→∃t,j[k]?=some t∧∀v,Rep B r t v→v= .int .i64 x
 | [],l,h=>by simp only[zUf,za]at h;subst h;simp
 | t::j,l,h=>by
  simp only[zUf]at h;split at h
  ·rename_i x;cases e:Nat.blt x 9223372036854775808 with
   | false=>simp[e]at h
   | true=>
    simp only[e,ze]at h;cases A:zUf j with
    | none=>simp[A]at h
    | some q=>
     simp only[A,za]at h;subst h;obtain⟨D,E,F⟩:=zXe (B:=B) (r:=r) A;rw[qz]at e;have e:=Nat.le_of_lt_succ e;refine⟨by simp[D],fun y C=>?_,fun k y z=>?_⟩
     ·rcases qj.1 C with rfl | C
      ·exact e
      ·exact E y C
     ·cases k with
      | zero=>simp at z;subst z;exact⟨_,rfl,fun v hv=>hv.vI.1⟩
      | succ k=>simpa using F k y (by simpa using z)
  ·cases h
theorem qZh{E:List T}{tv:T}{nw:Bool}(h:qZg E=some (tv,nw))(k:Nat):KnP Tryz.prog k 130 E tv nw:=by
 unfold qZg at h;split at h
 ·rename_i t A n;cases q:Nat.beq (ln (t::A)) n&&Nat.blt n 1000 with
  | false=>simp[q]at h
  | true=>
   simp only[q,ze]at h;simp only[zd,qz]at q;have C:=zV q.1;rw[qU]at C;cases z:zUf (t::A)with
   | none=>simp[z]at h
   | some l=>
    simp only[z,za,z7]at h;obtain⟨rfl,rfl⟩:=h;intro B w X qQ R J _ V L K;obtain⟨F,G,I⟩:=zXe (B:=B) (r:=rd w X) z;match qQ,L with
    | [v],⟨hv,_⟩=>
     cases hv with
     | @sl _ _ b o c Q f M N hm=>
      have y:l.length=n:=by rw[F,←C]
      subst y;refine(zQm b o c l w (by omega) G (J (by rw[qIv];exact fun h=>by cases h)) fun j x O=>?_).mono ?_
      ·obtain⟨D,ht,hv⟩:=I j x O;rw[←hv _ (N j D ht)];exact yO (M j D ht)
      ·rintro e U ⟨rfl,q⟩;exact K _ U (Upd.of_below q) (.v rfl)
 ·cases h
noncomputable def tb0:List (Nat×(List T→Option (T×Bool))):=(130,qZg)::zUo
theorem qJw:qR Tryz.prog (xY tb0):=zIj (fun _ _ _ h k=>qZh h k) jAk
end Go.Proofs.YtdfmdiakjdggbaaGreatDoor
namespace Go.Ev
open Go Go.Gv Go.RowKit IntKind
noncomputable section
theorem tL{a b:Int}:ilt a b=true↔a<b:=by
 cases a with
 | ofNat a=>cases b with
  | ofNat b=>simp only[ilt,qz,j8];omega
  | negSucc b=>simp only[ilt,j8,wo];constructor<;>intro h<;>first | cases h;done | omega
 | negSucc a=>cases b with
  | ofNat b=>simp only[ilt,j8,wo];constructor<;>intro h<;>first | omega | trivial
  | negSucc b=>simp only[ilt,qz,wo];omega
theorem qTv{a:Int}(h:inW a=true):wq a=a:=by unfold wq;rw[h];rfl
theorem zBa{a b:Int}(h:b≤a):ilt a b=false:=by
 cases e:ilt a b with
 | false=>rfl
 | true=>rw[tL]at e;omega
theorem gL{a b:Int}(h:a<b):ilt a b=true:=tL.2 h
theorem qH{a b:Int}:ieq a b=true↔a=b:=by
 cases a with
 | ofNat a=>cases b with
  | ofNat b=>simp only[ieq,Nat.beq_eq,j8];omega
  | negSucc b=>simp only[ieq,j8,wo];constructor<;>intro h<;>first | (cases h;done) | omega
 | negSucc a=>cases b with
  | ofNat b=>simp only[ieq,j8,wo];constructor<;>intro h<;>first | (cases h;done) | omega
  | negSucc b=>simp only[ieq,Nat.beq_eq,wo];omega
theorem xK{a b:Int}(h:a=b):ieq a b=true:=qH.2 h
theorem qSm{a b:Int}(h:a≠b):ieq a b=false:=by
 cases e:ieq a b with
 | false=>rfl
 | true=>exact absurd (qH.1 e) h
theorem qDg{a b:Nat}(h:a≠b):Nat.beq a b=false:=by
 cases e:Nat.beq a b with
 | false=>rfl
 | true=>exact absurd (zV e) h
theorem qMf{α:Type}{l:List α}:emp l=true↔l=[]:=by cases l<;>simp[emp]
section
variable {P:Program}{f k:Nat}{az:List T}{tv tv':T}{nw:Bool}
theorem KnP.res(h:KnP P k f az tv nw)(ht:∀(B:Bm)(r:Rd)(v:Value),Rep B r tv v→Rep B r tv' v):KnP P k f az tv' nw:=fun B w X qQ R e z y q j=>h B w X qQ R e z y q fun v C A hv=>j v C A (ht B _ v hv)
theorem KnP.old(h:KnP P k f az tv true):KnP P k f az tv false:=fun B w X qQ R j z e y q=>h B w X qQ R j z e y fun v C A hv=>q v C A (hv.mono (BLe.refl B) (Le.new e))
theorem zDg{B:Bm}{r:Rd}{A:Ty}{v:Value}(h:Rep B r (.v (.slice none 0 0)) v):Rep B r (.ls .a A []) v:=by
 obtain⟨rfl,_⟩:=h.vI;exact .ls ⟨none,0,rfl,zq _,qu _,.inl rfl⟩
end
def lpF(st:Hs→Option (Hs⊕(Ex×Hs))):Nat→Hs→Option (Ex×Hs)
 | 0,q=>match st q with
  | some (.inr y)=>some y
  | _=>none
 | n+1,q=>match st q with
  | some (.inl e)=>lpF st n e
  | some (.inr y)=>some y
  | none=>none
theorem kY{st:Hs→Option (Hs⊕(Ex×Hs))}:∀(n:Nat)(q:Hs){y:Ex×Hs},lpF st n q=some y→∃m,It st m q y
 | 0,q,y,h=>by
  simp only[lpF]at h;split at h
  ·rename_i z e;cases h;exact⟨0,.out e⟩
  ·cases h
 | n+1,q,y,h=>by
  simp only[lpF]at h;split at h
  ·rename_i A j;obtain⟨m,hm⟩:=kY n A h;exact⟨m+1,.go j hm⟩
  ·rename_i z e;cases h;exact⟨0,.out e⟩
  ·cases h
inductive Sk where
  | i (k:IntKind)
  | b
  | l (g:Tg) (A:Ty)
  | p (g:Tg) (A:Ty) (g2:Tg) (A2:Ty)
  | c (t:T)
structure Sh where
 e:Ex
 hs:List Sk
 az:List (Tg×Ty)
 ks:List (List Sk)
def iOf:T→Int
 | .v (.int _ a)=>a
 | _=>0
def bOf:T→Bool
 | .v (.bool b)=>b
 | _=>false
def lOf(A:Ty):T→List A.den
 | .ls _ B l=>(tY B A l).getD []
 | _=>[]
def lnO:T→Nat
 | .ls _ _ l=>l.length
 | .v (.int _ (.ofNat n))=>n
 | _=>0
def Tg.beq:Tg→Tg→Bool
 | .a,.a=>true
 | .n,.n=>true
 | .o,.o=>true
 | _,_=>false
def fstT:T→T
 | .ag (t::_)=>t
 | _=> .u
def sndT:T→T
 | .ag (_::t::_)=>t
 | _=> .u
def skG:Sk→T→T
 | .i k,t=> .v (.int k (iOf t))
 | .b,t=> .v (.bool (bOf t))
 | .l g A,t=> .ls g A (lOf A t)
 | .p g A g2 e,t=> .ag [.ls g A (lOf A (fstT t)),.ls g2 e (lOf e (sndT t))]
 | .c x,_=>x
def skT:Sk→T→Bool
 | .i k,.v (.int z _)=>Nat.beq (kind k) (kind z)
 | .b,.v (.bool _)=>true
 | .l g A,.ls q B _=>g.beq q&&B.beq A
 | .p g A g2 e,.ag [.ls h B _,.ls y j _]=>(g.beq h&&B.beq A)&&(g2.beq y&&j.beq e)
 | .c x,t=>eqU 12 x t
 | _,_=>false
theorem zUg{g:Tg}{A B:Ty}{l:List B.den}(h:B.beq A=true):T.ls g A (lOf A (.ls g B l))= .ls g B l:=by
 obtain rfl:=Ty.beq_eq h;have e:tY B B l=some l:=by unfold tY;rw[dif_pos h]
 show T.ls g B ((tY B B l).getD [])=_;rw[e];rfl
theorem Tg.beq_eq{g e:Tg}(h:g.beq e=true):g=e:=by cases g<;>cases e<;>first | rfl | cases h
theorem qJj:∀{s:Sk}{t:T},skT s t=true→skG s t=t:=by
 intro s t h;unfold skT at h;split at h
 ·rename_i k C a;obtain rfl:=sH h;rfl
 ·rfl
 ·rename_i g A q B l;simp only[zd]at h;obtain rfl:=Tg.beq_eq h.1;exact zUg h.2
 ·rename_i g A g2 e y B l z j D;simp only[zd]at h;obtain rfl:=Tg.beq_eq h.1.1;obtain rfl:=Tg.beq_eq h.2.1;simp only[skG,fstT,sndT,zUg h.1.2,zUg h.2.2]
 ·exact lK 12 _ _ h
 ·cases h
def hdT:List T→T
 | t::_=>t
 | []=> .u
def qJk:List Sk→List T→List T
 | [],_=>[]
 | s::j,e=>skG s (hdT e)::qJk j e.tail
def qJl:List Sk→List T→Bool
 | [],[]=>true
 | s::e,t::j=>skT s t&&qJl e j
 | _,_=>false
theorem zOk:∀{j:List Sk}{e:List T},qJl j e=true→qJk j e=e
 | [],[],_=>rfl
 | s::j,t::e,h=>by
  simp only[qJl,zd]at h;simp only[qJk,hdT,f9,qJj h.1,zOk h.2]
 | [],_::_,h=>by cases h
 | _::_,[],h=>by cases h
def qNo:List (List Sk)→List (List T)→List (List T)
 | [],_=>[]
 | s::j,e=>qJk s (e.headD [])::qNo j e.tail
def qNp:List (List Sk)→List (List T)→Bool
 | [],[]=>true
 | s::e,t::j=>qJl s t&&qNp e j
 | _,_=>false
theorem zXh:∀{j:List (List Sk)}{e:List (List T)},qNp j e=true→qNo j e=e
 | [],[],_=>rfl
 | s::j,t::e,h=>by
  simp only[qNp,zd]at h;simp only[qNo,List.headD_cons,f9,zOk h.1,zXh h.2]
 | [],_::_,h=>by cases h
 | _::_,[],h=>by cases h
def azT:List (Tg×Ty)→List T→Bool
 | [],[]=>true
 | s::e,t::j=>skT (.l s.1 s.2) t&&azT e j
 | _,_=>false
def azD{α:Type}(k:List T→DT α):List (Tg×Ty)→List T→List T→DT α
 | [],_,u=>k u.reverse
 | s::j,e,u=> .ite (emp (lOf s.2 (hdT e))) (azD k j e.tail (.ls s.1 s.2 []::u)) (azD k j e.tail (.ls s.1 s.2 ((lOf s.2 (hdT e)).headD s.2.zero::(lOf s.2 (hdT e)).tail)::u))
theorem zTf{α:Type}{k:List T→DT α}{z:α}:∀{A:List (Tg×Ty)}{q u:List T},azT A q=true→(azD k A q u).run=some z→(k (u.reverse++q)).run=some z
 | [],[],u,_,h=>by simpa[azD]using h
 | s::A,t::q,u,h,j=>by
  simp only[azT,zd]at h;have e:T.ls s.1 s.2 (lOf s.2 t)=t:=qJj (s:= .l s.1 s.2) h.1;simp only[azD,hdT,f9,DT.run]at j;cases he:emp (lOf s.2 t)with
  | true=>
   rw[he,ze]at j;have y:lOf s.2 t=[]:=qMf.1 he;rw[y]at e;rw[e]at j;have:=zTf h.2 j;simpa using this
  | false=>
   rw[he,zf]at j;have y:(lOf s.2 t).headD s.2.zero::(lOf s.2 t).tail=lOf s.2 t:=by
    cases B:lOf s.2 t with
    | nil=>rw[B]at he;cases he
    | cons a l=>rfl
   rw[y,e]at j;have:=zTf h.2 j;simpa using this
 | [],_::_,_,h,_=>by cases h
 | _::_,[],_,h,_=>by cases h
def exT:Ex→Ex→Bool
 | .x i,.x j=>Nat.beq i j
 | .r,.r=>true
 | _,_=>false
def shT(j:Sh):Option (Ex×Hs)→Bool
 | some (e,q)=>exT j.e e&&(qJl j.hs q.hs&&(azT j.az q.az&&qNp j.ks q.ks))
 | none=>false
def hsO:Option (Ex×Hs)→Hs
 | some (_,q)=>q
 | none=>⟨[],[],[]⟩
def vwD(y:Option (Ex×Hs)):List Sh→DT (Ex×Hs)
 | []=> .no
 | j::r=> .ite (shT j y) (azD (fun u=> .ret (j.e,⟨qJk j.hs (hsO y).hs,u,qNo j.ks (hsO y).ks⟩)) j.az (hsO y).az []) (vwD y r)
theorem qKe{y:Option (Ex×Hs)}{z:Ex×Hs}:∀{C:List Sh},(vwD y C).run=some z→y=some z
 | [],h=>by cases h
 | B::r,h=>by
  simp only[vwD,DT.run]at h;cases j:shT B y with
  | false=>rw[j,zf]at h;exact qKe h
  | true=>
   rw[j,ze]at h;match y,j with
   | some (e,q),j=>
    simp only[shT,zd]at j;obtain⟨A,E,F,G⟩:=j;have D:=zTf F h;simp only[hsO,uQ,kB,zOk E,zXh G]at D;cases D;have:B.e=e:=by
     revert A;cases B.e<;>cases e<;>intro A<;>first | rfl | (cases A;done) | (obtain rfl:=zV A;rfl)
    rw[this]
def lpR(st:Hs→Option (Hs⊕(Ex×Hs)))(j:Hs→Nat)(e:List Sh)(q:Hs):DT (Ex×Hs):=vwD (lpF st (j q) q) e
theorem zGu{st:Hs→Option (Hs⊕(Ex×Hs))}{j:Hs→Nat}{e:List Sh}:∀q y,(lpR st j e q).run=some y→∃n,It st n q y:=fun _ _ h=>kY _ _ (qKe h)
theorem jV{st:Hs→Option (Hs⊕(Ex×Hs))}{α γ:Type}{iv:Nat→α→Hs}{g:Nat→α→α⊕γ}{d:α→γ}{out:γ→Ex×Hs}{n:Nat}(J:Nat→α→Prop)
  (q:∀i a,i<n→J i a→st (iv i a)=some (match g i a with | .inl b=> .inl (iv (i+1) b) | .inr y=> .inr (out y)))
  (z:∀i a b,i<n→J i a→g i a= .inl b→J (i+1) b) (A:∀a,J n a→st (iv n a)=some (.inr (out (d a)))):∀k i a,i+k=n→J i a→lpF st k (iv i a)=some (out (fol g d k i a))
 | 0,i,a,e,j=>by
  obtain rfl:i=n:=by omega
  simp only[lpF,A a j,fol]
 | k+1,i,a,e,j=>by
  have B:i<n:=by omega
  simp only[lpF,q i a B j,fol];cases C:g i a with
  | inl b=>exact jV J q z A k (i+1) b (by omega) (z i a b B j C)
  | inr y=>rfl
def Lp.st1(l:Lp)(rn:Rd')(f:Nat)(p:List Bool)(x:Code)(s:S):DT (Hs⊕(Ex×Hs)):=(rn f (false::p) x s).bind l.end_
section
variable {P:Program}{rn:Rd'}{l:Lp}{f:Nat}{p:List Bool}{x:Code}{s:S}
def stO(l:Lp)(s:S):Option (Nat×Hs)→S
 | none=>s
 | some g=>bu l.m l.sp g.2
def muO(n:Nat):Option (Nat×Hs)→Nat
 | none=>n+1
 | some g=>g.1
def GO(st:Hs→Option (Hs⊕(Ex×Hs)))(y:Ex×Hs):Option (Nat×Hs)→Prop
 | none=>True
 | some g=>It st g.1 g.2 y
theorem zYi(hrn:gQ P rn)(hc:cAt P f p=some (.loop x)){n:Nat}{z:Hs⊕(Ex×Hs)}{y:Ex×Hs}(hm:s.H.length≤l.m)(h0:(l.st1 rn f p x s).run=some z)(h:(∃q,z= .inl q∧It (l.stp rn f p x) n q y)∨z= .inr y):Tr P (.loop x) s (l.bx y).1 (l.bx y).2:=by
 intro E w0 X F n0 a D B w Y Mo rr Q hr hW hF hA;have c1:cAt P f (false::p)=some x:=by simp[cAt,hc,aB]
 have hr1:rr=none∨noR x=true:=hr.imp id fun h=>by simpa[noR]using h
 have hBm:∀i,l.m≤i→B i=none:=fun i hi=>hW.nn i (qx hm hi);have stp:∀g:Option (Nat×Hs),GO (l.stp rn f p x) y g→∃I J,(rn f (false::p) x (stO l s g)).run=some (I,J)∧((∃A,(gW l.m l.sp J).run=some A∧I= .n∧∃O,O<muO n g∧It (l.stp rn f p x) O A y)∨(∃A,(gW l.m l.sx J).run=some A∧(∃id,I= .x id)∧l.bx y=(I,bu l.m l.sx A))∨(∃A,(gW l.m l.sr J).run=some A∧I= .r∧l.bx y=(I,bu l.m l.sr A))):=fun g Z=>by
  have key:∀(s':S)(z':Hs⊕(Ex×Hs))(k:Nat),((rn f (false::p) x s').bind l.end_).run=some z'→((∃q,z'= .inl q∧∃O,O<k∧It (l.stp rn f p x) O q y)∨z'= .inr y)→∃I J,(rn f (false::p) x s').run=some (I,J)∧((∃A,(gW l.m l.sp J).run=some A∧I= .n∧∃O,O<k∧It (l.stp rn f p x) O A y)∨(∃A,(gW l.m l.sx J).run=some A∧(∃id,I= .x id)∧l.bx y=(I,bu l.m l.sx A))∨(∃A,(gW l.m l.sr J).run=some A∧I= .r∧l.bx y=(I,bu l.m l.sr A))):=fun s' z' k h1 h2=>by
   obtain⟨⟨I,J⟩,h3,h4⟩:=zM h1;refine⟨I,J,h3,?_⟩;cases I with
   | n=>
    obtain⟨A,K,M⟩:=zM h4;cases M;rcases h2 with⟨q,e,O,hj,hi⟩ | e
    ·cases e;exact .inl ⟨_,K,rfl,O,hj,hi⟩
    ·cases e
   | x id=>
    obtain⟨A,K,M⟩:=zM h4;cases M;rcases h2 with⟨q,e,_⟩ | e
    ·cases e
    ·cases e;exact .inr (.inl ⟨_,K,⟨id,rfl⟩,rfl⟩)
   | r=>
    obtain⟨A,K,M⟩:=zM h4;cases M;rcases h2 with⟨q,e,_⟩ | e
    ·cases e
    ·cases e;exact .inr (.inr ⟨_,K,rfl,rfl⟩)
   | p t=>cases h4
  match g,Z with
  | none,_=>
   refine key s z (n+1) h0 ?_;rcases h with⟨q,e,hi⟩ | e
   ·exact .inl ⟨q,e,n,x9 n,hi⟩
   ·exact .inr e
  | some (j,q0),Z=>
   have Z:It (l.stp rn f p x) j q0 y:=Z;cases Z with
   | go h k=>exact key _ _ _ h (.inl ⟨_,rfl,_,x9 _,k⟩)
   | out h=>exact key _ _ _ h (.inr rfl)
 refine lM (γ:=Option (Nat×Hs)×List Nat) (fun g a2 w2=>GO (l.stp rn f p x) y g.1∧∃W N C,(noR x=true→g.2=[])∧Wd P E w0 X (g.2++F) (stO l s g.1).H W w2 N C∧FrT n0 a2 (stO l s g.1).L (g.2.map Gv.mark++D) W (rd w2 N)∧BLe B W∧Le (rd w Y) (rd w2 N))
  (fun g=>muO n g.1) (none,[]) ⟨trivial,B,Y,Mo,fun _=>rfl,hW,hF,BLe.refl B,Le.refl _⟩ ?_
 rintro⟨g,G⟩ a0 w1 ⟨Z,B1,Y1,Mo1,hb1,g1,g2,g3,g4⟩;simp only at Z hb1 g1 g2;obtain⟨I,J,h1,hh⟩:=stp g Z;have fin:∀{J:S}{a':Act}{w':World}{W:Bm}{N:Hid}{C:List (Nat×Obj)}{V:List Nat}{sp:Sp}{A:Hs},(gW l.m sp J).run=some A→Wd P E w0 X (V++(G++F)) J.H W w' N C→FrT n0 a' J.L (V.map Gv.mark++(G.map Gv.mark++D)) W (rd w' N)→BLe B W→
   ∃U,Wd P E w0 X (V++G++F) (bu l.m sp A).H U w' N C∧FrT n0 a' (bu l.m sp A).L ((V++G).map Gv.mark++D) U (rd w' N)∧BLe B U:=fun hq k1 k2 k3=>by
  obtain⟨src,K,M,_⟩:=zTh hq k1 k2;exact⟨_,by rw[qt];exact K,by rw[xu,qt];exact M,zVf k3 hBm⟩
 refine hrn _ _ _ _ _ _ c1 h1 E w0 X _ n0 a0 _ B1 w1 Y1 Mo1 rr _ hr1 g1 g2 fun a' w' W N C V hbs k1 k2 k3 k4=>?_;have R:noR x=true→V++G=[]:=fun e=>by rw[hbs e,hb1 e];rfl
 rcases hh with⟨A,hq,rfl,O,hj,hit'⟩ | ⟨A,hq,⟨id,rfl⟩,hy⟩ | ⟨A,hq,rfl,hy⟩
 ·obtain⟨U,K,M,r3⟩:=fin hq k1 k2 (g3.trans k3);exact⟨(some (O,A),V++G),⟨hit',U,N,C,R,K,M,r3,g4.trans k4⟩,hj⟩
 ·obtain⟨U,K,M,r3⟩:=fin hq k1 k2 (g3.trans k3);rw[hy]at hA;exact hA a' w' U N C (V++G) (fun e=>R (by simpa[noR]using e)) K M r3 (g4.trans k4)
 ·obtain⟨U,K,M,r3⟩:=fin hq k1 k2 (g3.trans k3);rw[hy]at hA;exact hA a' w' U N C (V++G) (fun e=>R (by simpa[noR]using e)) K M r3 (g4.trans k4)
def Lp.rowP(l:Lp)(rn:Rd')(f:Nat)(p:List Bool)(x:Code)(h:Hs→DT (Ex×Hs))(s:S):DT (Ex×S):=bif Nat.ble (ln s.H) l.m then(l.st1 rn f p x s).bind fun z=>(match z with
 | .inl q=>(h q).bind fun y=> .ret (l.bx y)
 | .inr y=> .ret (l.bx y))else .no
theorem bL{t:List (Nat×List Bool×(S→DT (Ex×S)))}(ht:wC P (loT t)){h:Hs→DT (Ex×Hs)}(C:gQ P rn)(E:cAt P f p=some (.loop x))(N:∀q y,(h q).run=some y→∃n,It (l.stp rn f p x) n q y):wC P (loT ((f,p,l.rowP rn f p x h)::t)):=by
 intro G K s d hd Q A e F j;simp only[loT]at hd;cases B:Nat.beq f G&&eqP p K with
 | false=>rw[B,zf]at hd;exact ht G K s d hd Q A e F j
 | true=>
  rw[B,ze]at hd;cases hd;simp only[zd]at B;obtain rfl:=zV B.1;obtain rfl:=zTv B.2;rw[E]at A;cases A;unfold Lp.rowP at j;cases hm:Nat.ble (ln s.H) l.m with
  | false=>rw[hm]at j;cases j
  | true=>
   rw[hm,ze]at j;have hm:=je hm;rw[qU]at hm;obtain⟨z,I,J⟩:=zM j;cases z with
   | inl q=>
    obtain⟨y,L,M⟩:=zM J;obtain⟨n,O⟩:=N q y L;have:=zYi C E hm I (.inl ⟨q,rfl,O⟩);have D:l.bx y=(e,F):=q8 M;rw[D]at this;exact this
   | inr y=>
    have:=zYi (n:=0) C E hm I (.inr rfl);have D:l.bx y=(e,F):=q8 J;rw[D]at this;exact this
end
end
end Go.Ev

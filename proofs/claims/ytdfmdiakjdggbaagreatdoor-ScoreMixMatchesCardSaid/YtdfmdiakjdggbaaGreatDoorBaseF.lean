import Derived.OpenShut
import Derived.WideShapes
import Derived.Shelf.Strings.Builder1
import Derived.Shelf.Strconv.Itoa3
import Derived.LaidSub
import Derived.Lib.LaidTab
import Derived.LaidMore
import Derived.Lay
import Derived.Test.YtdfmdiakjdggbaaGreatDoorRows
import Derived.WalkKit
import Derived.BigCall
import Derived.LoopTactic
import Derived.Lib.AppendIntMem
import Derived.Lib.ItoaLen
import Derived.Test.YtdfmdiakjdggbaaGreatDoorBaseA
import Derived.Test.YtdfmdiakjdggbaaGreatDoorBaseB
import Derived.Test.YtdfmdiakjdggbaaGreatDoorBaseC
import Derived.Test.YtdfmdiakjdggbaaGreatDoorBaseD
import Derived.Test.YtdfmdiakjdggbaaGreatDoorBaseE
set_option linter.unusedVariables false
set_option linter.unusedSimpArgs false
set_option linter.unnecessarySimpa false
namespace Go.Ev
open Go Go.Gv Go.RowKit IntKind
inductive DT (α:Type) where
  | ret (a:α)
  | no
  | ite (b:Bool) (x y:DT α)
noncomputable def DT.run{α:Type}:DT α→Option α
 | .ret a=>some a
 | .no=>none
 | .ite b x y=>bif b then x.run else y.run
noncomputable def DT.bind{α β:Type}:DT α→(α→DT β)→DT β
 | .ret a,f=>f a
 | .no,_=> .no
 | .ite b x y,f=> .ite b (x.bind f) (y.bind f)
noncomputable def ofO{α:Type}:Option α→DT α
 | some a=> .ret a
 | none=> .no
noncomputable def grd{α:Type}(b:Bool)(d:DT α):DT α:= .ite b d .no
theorem run_bind{α β:Type}(f:α→DT β):∀d:DT α,(d.bind f).run=d.run.bind fun a=>(f a).run
 | .ret _=>rfl
 | .no=>rfl
 | .ite b x y=>by
  simp only[DT.bind,DT.run,run_bind f x,run_bind f y];cases b<;>rfl
theorem zM{α β:Type}{f:α→DT β}{d:DT α}{y:β}(h:(d.bind f).run=some y):∃a,d.run=some a∧(f a).run=some y:=by
 rw[run_bind]at h;exact Option.bind_eq_some_iff.1 h
theorem xC{α:Type}(x:Option α):(ofO x).run=x:=by cases x<;>rfl
theorem qG{α:Type}{b:Bool}{d:DT α}{y:α}(h:(grd b d).run=some y):b=true∧d.run=some y:=by
 cases b with
 | true=>exact⟨rfl,h⟩
 | false=>cases h
abbrev Od:=Nat→Option (List T→DT (T×Bool))
abbrev Rd':=Nat→List Bool→Code→S→DT (Ex×S)
abbrev Lo:=Nat→List Bool→S→Option (DT (Ex×S))
noncomputable def nng:Int→Bool
 | .ofNat _=>true
 | .negSucc _=>false
noncomputable def qLt:T→DT Nat
 | .v (.int _ a)=>grd (nng a) (.ret a.toNat)
 | _=> .no
noncomputable def inW:Int→Bool
 | .ofNat n=>Nat.blt n 9223372036854775808
 | .negSucc n=>Nat.blt n 9223372036854775808
noncomputable def arD(a:Int):DT Value:=grd (inW a) (.ret (.int .i64 a))
noncomputable def arW(a:Int):DT Value:= .ite (inW a) (.ret (.int .i64 a)) (.ret (.int .i64 (wr .i64 a)))
noncomputable def qUa:IntKind→Bool
 | .i64=>true
 | _=>false
noncomputable def arOp:BinOp→Bool
 | .add | .sub | .mul | .eql | .neq | .lss | .leq | .gtr | .geq=>true
 | _=>false
noncomputable def qSn(f:Bool)(op:BinOp)(k:IntKind)(a b:Int):DT Value:=bif qUa k then(match op with
 | .add=>bif f then arW (Int.add a b)else arD (Int.add a b)
 | .sub=>arD (Int.sub a b)
 | .mul=>arD (Int.mul a b)
 | _=>ofO (zYn op k a b))else ofO (zYn op k a b)
noncomputable def zDq(t:T):DT (T×Option TO):= .ret (t,none)
noncomputable def qSm(f:Bool)(op:BinOp)(x y:T):Option (DT (T×Option TO)):=match x,y with
 | .v (.int k a),.v (.int k' b)=>bif arOp op then some (bif Nat.beq (kind k) (kind k')then(qSn f op k a b).bind (fun v=>zDq (.v v))else .no)else none
 | _,_=>none
noncomputable def qHc(c a b:T):DT (T×Option TO):=match c with
 | .v (.bool c)=> .ite c (zDq a) (zDq b)
 | _=> .no
noncomputable def qTw(P:Program)(t:TypeId)(x i:T):DT (T×Option TO):=(qLt i).bind fun n=>match P.underlying t with
 | some (.slice e)=>(match ldT P e with
  | some (_,s)=>(match x with
   | .ls g A l=>bif Nat.beq s A.size then grd (Nat.blt n l.length) (zDq (.fp (cellsD g A (nth A.zero l n))))else .no
   | .hv A l=>bif Nat.beq s A.size then grd (Nat.blt n l.length) (zDq (.fp (zCn A (nth A.zero l n))))else .no
   | .sl cs m=>grd (Nat.blt n m) (zDq (.fp (jA cs (n*s))))
   | .st cs m=>grd (Nat.blt n m) (zDq (.fp (jA cs (n*s))))
   | .os j o m _=>grd (Nat.blt n m) (zDq (.op j (o+n*s)))
   | .og j o m=>grd (Nat.blt n m) (zDq (.op j (o+n*s)))
   | _=> .no)
  | none=> .no)
 | _=>ofO (wU P t x (.v (.int .i64 (.ofNat n))))
noncomputable def qVm(ρ:Operand→T)(d:Nat):Option Operand→DT Nat
 | some x=>qLt (ρ x)
 | none=> .ret d
noncomputable def qXe(P:Program)(t:TypeId)(g:Tg)(A:Ty)(l:List A.den)(ρ:Operand→T)(lo hi:Option Operand):DT (T×Option TO):=match elT P t with
 | some e=>(match ldT P e with
  | some (_,s)=>bif Nat.beq s A.size then(qVm ρ 0 lo).bind fun a=>(qVm ρ l.length hi).bind fun b=>grd (Nat.ble a b) (grd (Nat.ble b l.length) (zDq (.ls g A ((l.drop a).take (b-a)))))else .no
  | none=> .no)
 | none=> .no
noncomputable def qPr:Operand→Bool
 | .tmp _=>true
 | _=>false
noncomputable def zHr(P:Program)(ρ:Operand→T)(op:Op):Option (DT (T×Option TO)):=match op with
 | .binOp op _ x y _=>qSm (qPr x&&qPr y) op (dn (ρ x)) (dn (ρ y))
 | .pick c a b=>some (qHc (ρ c) (ρ a) (ρ b))
 | .indexAddr t x i=>some (qTw P t (dn (ρ x)) (dn (ρ i)))
 | .slice t x lo hi none=>(match dn (ρ x)with
  | .ls g A l=>some (qXe P t g A l (fun y=>dn (ρ y)) lo hi)
  | _=>none)
 | _=>none
noncomputable def zYk(P:Program)(e:TypeId)(s:Nat):Bool:=match zer P e with
 | some z=>Nat.beq (ln z) s&&Nat.blt 0 s
 | none=>false
noncomputable def apN(P:Program)(e:TypeId):Nat:=match P.info? e with
 | some i=>apM i.bytes
 | none=>0
noncomputable def qBz{α:Type}(c:Cs)(n s:Nat)(d:DT α):DT α:=match c with
 | .l cs=>grd (Nat.beq (ln cs) (n*s)) d
 | .d _ A x=>bif Nat.beq s A.size then grd (Nat.beq n x.length) d else .no
noncomputable def apG(H:List TO)(e:TypeId)(s:Nat)(y:T)(b:List T)(i o n m:Nat):TO→DT (T×List TO)
 | .gro cs e'=>bif Nat.beq o 0&&Nat.beq e e' then qBz cs n s (.ret (.og (ln H) 0 (n+m),put .gone H i++[.gro (cs.apY y b) e]))else .no
 | _=> .no
noncomputable def ap1(H:List TO)(e:TypeId)(s:Nat)(y:T)(b:List T)(m:Nat):T→DT (T×List TO)
 | .og i o n=>apG H e s y b i o n m (nth .gone H i)
 | x=>(match qC H s x,qZ x with
  | some a,some n=>ofO (qJg H e s y a b n m x)
  | _,_=> .no)
noncomputable def apL(P:Program)(e:TypeId)(s:Nat)(x:T)(m:Nat)(d:DT (T×List TO)):DT (T×List TO):=match qZ x with
 | some n=>bif zYk P e s then grd (Nat.ble (n+m) (apN P e)) d else .no
 | none=> .no
noncomputable def zWx(y:T)(b:List T):Bool:=match y with
 | .ls .. =>true
 | _=>xV b
noncomputable def qPe(H:List TO)(s:Nat)(x:T)(o n:Nat):TO→DT (T×List TO)
 | .gro cs _=>bif Nat.beq o 0 then qBz cs n s (.ret (x,H))else .no
 | _=> .no
noncomputable def qBj(H:List TO)(s:Nat):T→DT (T×List TO)
 | .og i o n=>qPe H s (.og i o n) o n (nth .gone H i)
 | x=>(match qC H s x,qZ x with
  | some _,some _=>ofO (qJe H x)
  | _,_=> .no)
noncomputable def apD(P:Program)(H:List TO)(t:TypeId)(x y:T):DT (T×List TO):=match elT P t with
 | none=> .no
 | some e=>match ldT P e with
  | none=> .no
  | some (_,s)=>match qC H s y,qZ y with
   | some b,some m=> .ite (Nat.beq m 0) (qBj H s x) (bif zWx y b then apL P e s x m (ap1 H e s y b m x)else .no)
   | _,_=> .no
noncomputable def poR(OD:Od):Po:=fun f az=>match OD f with
 | some g=>(g az).run
 | none=>none
noncomputable def zGv{α β:Type}(f:α→DT β):List α→DT (List β)
 | []=> .ret []
 | t::l=>(f t).bind fun x=>(zGv f l).bind fun r=> .ret (x::r)
noncomputable def qDg(nw:Bool)(o n:Nat):TO→Option (DT T)
 | .gro (.d g A x) _=>some (bif Nat.beq o 0&&(gN A&&(!nw||g.isN))then grd (Nat.beq n x.length) (.ret (.ls .a A x.reverse))else .no)
 | _=>none
noncomputable def bD(nw:Bool)(H:List TO):Nat→T→DT T
 | 0,_=> .no
 | k+1,t=>match t with
  | .ag cs=>(zGv (bD nw H k) cs).bind fun l=> .ret (.ag l)
  | .tu cs=>(zGv (bD nw H k) cs).bind fun l=> .ret (.tu l)
  | .fn f cs=>(zGv (bD nw H k) cs).bind fun l=> .ret (.fn f l)
  | .os i o n c=>bif Nat.ble n c&&Nat.ble c 9223372036854775807 then(match sV (nth .gone H i)with
   | some cs=>(zGv (bD nw H k) (jA cs o)).bind fun l=> .ret (.sl l n)
   | none=> .no)else .no
  | .og i o n=>(match qDg nw o n (nth .gone H i)with
   | some d=>d
   | none=>(match sV (nth .gone H i)with
    | some cs=>(zGv (bD nw H k) (jA cs o)).bind fun l=> .ret (.sl l n)
    | none=> .no))
  | .op i o=>(match sV (nth .gone H i)with
   | some cs=>(zGv (bD nw H k) (jA cs o)).bind fun l=> .ret (.fp l)
   | none=> .no)
  | t=>ofO (jL nw H (k+1) t)
noncomputable def zMr(H:List TO):Nat→T→Bool
 | 0,_=>false
 | k+1,t=>match t with
  | .v _=>true
  | .ls g _ _=>g.isN
  | .sl [] 0=>true
  | .st [] 0=>true
  | .sn cs _=>cs.all (zMr H k)
  | .ag cs=>cs.all (zMr H k)
  | .tu cs=>cs.all (zMr H k)
  | .fn _ cs=>cs.all (zMr H k)
  | .os i o _ _=>(match sV (nth .gone H i)with
   | some cs=>(jA cs o).all (zMr H k)
   | none=>false)
  | .og i o _=>(match nth .gone H i with
   | .gro (.d g _ _) _=>g.isN
   | x=>(match sV x with
    | some cs=>(jA cs o).all (zMr H k)
    | none=>false))
  | .op i o=>(match sV (nth .gone H i)with
   | some cs=>(jA cs o).all (zMr H k)
   | none=>false)
  | _=>false
noncomputable def kM(r:T×List TO):DT (T×Bool):=(bD (zMr r.2 12 r.1) r.2 12 r.1).bind fun t=> .ret (t,zMr r.2 12 r.1)
noncomputable def newD(H:List TO):T×Bool→DT (T×List TO)
 | (t,true)=> .ret (mkN 12 t,H)
 | (_,false)=> .no
noncomputable def poD(g:List T→DT (T×Bool))(H:List TO)(az:List T):DT (T×List TO):=bif zZv az then(zGv (bD false H 12) az).bind fun az=>(g az).bind (newD H)
 else(g az).bind fun r=> .ret (bif r.2 then mkN 12 r.1 else r.1,H)
noncomputable def qWk(P:Program)(fn:Func):Ex×S→DT (T×List TO)
 | (.x _,_)=> .no
 | (.p _,_)=> .no
 | (_,s)=>(match fA P s.L s.H fn.results.toList with
  | some r=> .ret (zQy r,s.H)
  | none=> .no)
noncomputable def yU(P:Program)(rn:Rd')(f:Nat)(az:List T)(H:List TO):DT (T×List TO):=match P.funcs[f]? with
 | none=> .no
 | some fn=>match fn.body with
  | none=> .no
  | some c=>bif Nat.ble (ln az) fn.ntmps then(rn f [] c ⟨rest fn.ntmps az,H⟩).bind (qWk P fn)else .no
noncomputable def qBr(P:Program)(OD:Od)(rn:Rd')(f:Nat)(az:List T)(H:List TO):DT (T×List TO):=match OD f with
 | some g=>poD g H az
 | none=>yU P rn f az H
noncomputable def qSq(P:Program)(OD:Od)(rn:Rd')(az:List T)(H:List TO):T→DT (T×List TO)
 | .fn f cs=>bif jE P f then qBr P OD rn f (az++cs) H else .no
 | .fb f bs=>bif jE P f then qBr P OD rn f (bs++az) H else .no
 | _=> .no
noncomputable def qTj(d:Option Nat)(L:List T)(r:T×List TO):DT S:= .ret ⟨dst d r.1 L,r.2⟩
noncomputable def noC:Cl:=fun _ _ _=>none
noncomputable def qPk(P:Program)(OD:Od)(rn:Rd')(o:Oper)(L:List T)(H:List TO)(c:Call):DT S:=match c.callee with
 | .value f=>(qSq P OD rn (c.args.toList.map (evO L)) H (evO L f)).bind (qTj o.dst L)
 | .builtin .append=>(match c.args.toList,c.argTypes.toList with
  | [x,y],[t,t']=>bif Nat.beq t t' then(apD P H t (evO L x) (evO L y)).bind (qTj o.dst L)else .no
  | _,_=> .no)
 | _=>ofO (gQ P noC noC o L H)
noncomputable def qMe(P:Program)(OD:Od)(rn:Rd')(o:Oper)(L:List T)(H:List TO):DT S:=match zHr P (evO L) o.op with
 | some d=>d.bind fun r=>ofO (zPg o.dst L H r)
 | none=>match o.op with
  | .call c=>qPk P OD rn o L H c
  | _=>ofO (gQ P noC noC o L H)
inductive Gd where
  | no
  | free
  | skip
  | on (t:Nat) (c b:Bool)
noncomputable def gdT(ops:Array Oper)(L:List T)(o:Oper):Gd:=match o.guard with
 | none=> .free
 | some (j,b)=>match(match ops[j]? with | some p=>p.dst | none=>none)with
  | some t=>(match nth .u L t with
   | .v (.bool c)=> .on t c b
   | .tu []=> .skip
   | _=> .no)
  | none=> .no
noncomputable def onS{α:Type}(L:List T)(t:Nat)(c b:Bool)(y n:List T→DT α):DT α:= .ite c (bif b then y (put (.v (.bool true)) L t)else n (put (.v (.bool true)) L t)) (bif b then n (put (.v (.bool false)) L t)else y (put (.v (.bool false)) L t))
noncomputable def opD(P:Program)(OD:Od)(rn:Rd')(ops:Array Oper)(o:Oper)(s:S):DT S:=match gdT ops s.L o with
 | .no=> .no
 | .free=>qMe P OD rn o s.L s.H
 | .skip=> .ret ⟨dst o.dst (.tu []) s.L,s.H⟩
 | .on t c b=>onS s.L t c b (fun L=>qMe P OD rn o L s.H) (fun L=> .ret ⟨dst o.dst (.tu []) L,s.H⟩)
noncomputable def qGd(P:Program)(OD:Od)(rn:Rd')(ops:Array Oper):List Oper→S→DT S
 | [],s=> .ret s
 | o::l,s=>(opD P OD rn ops o s).bind (qGd P OD rn ops l)
noncomputable def frsD(P:Program)(rn:Rd')(k f:Nat)(az:List T):DT (T×Bool):=(yU P rn f (az.map (unN 12)) (lL k)).bind kM
noncomputable def puD(P:Program)(OD:Od)(rn:Rd')(k f:Nat)(az:List T):DT (T×Bool):=match OD f with
 | some g=>g az
 | none=>frsD P rn k f az
noncomputable def newH:T×Bool→DT (T×Option TO)
 | (t,true)=>zDq (mkN 12 t)
 | (_,false)=> .no
noncomputable def qWa(P:Program)(OD:Od)(rn:Rd')(k:Nat)(H:List TO)(f:Nat)(az:List T):DT (T×Option TO):=bif zZv az then(zGv (bD false H 12) az).bind fun az=>(puD P OD rn k f az).bind newH
 else(puD P OD rn k f az).bind fun r=>zDq (bif r.2 then mkN 12 r.1 else r.1)
noncomputable def abG(Hn:List TO)(e:TypeId)(s:Nat)(y:T)(b:List T)(o n m:Nat):TO→DT (T×Option TO)
 | .gro cs e'=>bif Nat.beq o 0&&Nat.beq e e' then qBz cs n s (.ret (.og (ln Hn) 0 (n+m),some (.gro (cs.apY y b) e)))else .no
 | _=> .no
noncomputable def abX(P:Program)(H0 Hn:List TO)(e:TypeId)(s:Nat)(t:TypeId)(x y:T)(b:List T)(m:Nat):T→DT (T×Option TO)
 | .og i o n=>abG Hn e s y b o n m (nth .gone H0 i)
 | _=>ofO (zYl P H0 Hn none t x y)
noncomputable def abD(P:Program)(H0 Hn:List TO)(t:TypeId)(x y:T):DT (T×Option TO):=match elT P t with
 | none=> .no
 | some e=>match ldT P e with
  | none=> .no
  | some (_,s)=>match qC Hn s y,qZ y,qZ x with
   | some b,some m,some n=>bif xV b&&zYk P e s then grd (!Nat.beq m 0) (grd (Nat.ble (n+m) (apN P e)) (abX P H0 Hn e s t x y b m x))else .no
   | _,_,_=> .no
noncomputable def hcaD(P:Program)(OD:Od)(rn:Rd')(k:Nat)(H0 H Hn:List TO)(L:List T)(o:Oper)(c:Call):DT (T×Option TO):=match c.callee with
 | .value f=>(match evO L f with
  | .fn f cs=>bif jE P f then qWa P OD rn k Hn f (c.args.toList.map (evO L)++cs)else .no
  | _=> .no)
 | .builtin .append=>(match c.args.toList,c.argTypes.toList with
  | [x,y],[t,t']=>bif Nat.beq t t' then abD P H0 Hn t (evO L x) (evO L y)else .no
  | _,_=> .no)
 | _=>ofO (nI P (fun _ _=>none) H0 H Hn L o)
noncomputable def qDq(P:Program)(OD:Od)(rn:Rd')(k:Nat)(H0 H Hn:List TO)(L:List T)(o:Oper):DT (T×Option TO):=match zHr P (evO L) o.op with
 | some d=>d
 | none=>match o.op with
  | .call c=>hcaD P OD rn k H0 H Hn L o c
  | _=>ofO (nI P (fun _ _=>none) H0 H Hn L o)
noncomputable def zTi(g:List TO→List T→DT (List (T×Option TO)))(o:Oper)(Hn:List TO)(L:List T)(z:T×Option TO):DT (List (T×Option TO)):=(g (nxH Hn z.2) (dst o.dst z.1 L)).bind fun rs=> .ret (z::rs)
noncomputable def zIv(P:Program)(OD:Od)(rn:Rd')(k:Nat)(H0 H:List TO)(ops:Array Oper):List Oper→List TO→List T→DT (List (T×Option TO))
 | [],_,_=> .ret []
 | o::l,Hn,L=>match gdT ops L o with
  | .no=> .no
  | .free=>(qDq P OD rn k H0 H Hn L o).bind (zTi (zIv P OD rn k H0 H ops l) o Hn L)
  | .skip=>zTi (zIv P OD rn k H0 H ops l) o Hn L (.tu [],none)
  | .on t c b=>onS L t c b (fun L=>(qDq P OD rn k H0 H Hn L o).bind (zTi (zIv P OD rn k H0 H ops l) o Hn L)) (fun L=>zTi (zIv P OD rn k H0 H ops l) o Hn L (.tu [],none))
noncomputable def noHd(OD:Od)(L:List T)(o:Oper):Bool:=match o.op with
 | .store .. | .mapUpdate .. =>true
 | .call c=>(match c.callee with
  | .builtin .copy=>true
  | _=>false)
 | _=>false
noncomputable def hdN(OD:Od)(ops:Array Oper)(L:List T):List Oper→List Nat→Nat→Nat
 | [],_,i=>i
 | o::l,seen,i=>bif zNk o seen||(noHd OD L o||(qPq o&&tlK ops i))then i else hdN OD ops L l (zRq o seen) (i+1)
noncomputable def ksS(L:List T):List Oper→List (Option Nat)
 | []=>[]
 | o::l=>rD L o.op::ksS L l
noncomputable def qId(P:Program)(OD:Od)(rn:Rd')(ops:Array Oper)(ld:List Nat):List Oper→S→DT S
 | [],s=> .ret s
 | o::l,s=>(opD P OD rn ops o s).bind fun s=>bif emp ld then qId P OD rn ops ld l s else grd (rV P ops s ld) (qId P OD rn ops ld l s)
noncomputable def drT(P:Program)(OD:Od)(rn:Rd')(ops:Array Oper)(m:Nat)(Hm:List TO)(s:S)(rs:List (T×Option TO)):DT S:=
 bif Nat.ble m ops.size&&(qCu ops m&&zMg Hm (ksE ops.toList rs s.L))then(bif emp (aM ops m)then qId P OD rn ops [] (ops.toList.drop m) ⟨yX ops.toList rs s.L,xF (ksE ops.toList rs s.L) s.H++qD rs⟩
  else grd (rV P ops ⟨yX ops.toList rs s.L,xF (ksE ops.toList rs s.L) s.H++qD rs⟩ (aM ops m)) (qId P OD rn ops (aM ops m) (ops.toList.drop m) ⟨yX ops.toList rs s.L,xF (ksE ops.toList rs s.L) s.H++qD rs⟩))else .no
noncomputable def drH(P:Program)(OD:Od)(rn:Rd')(ops:Array Oper)(m:Nat)(Hm:List TO)(s:S):DT S:=
 (zIv P OD rn (ln s.H+ops.size) s.H Hm ops (ops.toList.take m) Hm s.L).bind (drT P OD rn ops m Hm s)
noncomputable def drD(P:Program)(OD:Od)(rn:Rd')(ops:Array Oper)(s:S):DT S:=
 drH P OD rn ops (hdN OD ops s.L ops.toList [] 0) (xF (ksS s.L (ops.toList.take (hdN OD ops s.L ops.toList [] 0))) s.H) s
noncomputable def qXd(rn:S→DT (Ex×S)):Ex×S→DT (Ex×S)
 | (.n,s)=>rn s
 | r=> .ret r
noncomputable def blkD(id:Nat):Ex×S→DT (Ex×S)
 | (.x j,s)=> .ret (bif Nat.beq j id then .n else .x j,s)
 | r=> .ret r
noncomputable def qCf(x y:S→DT (Ex×S))(s:S):Operand→DT (Ex×S)
 | .tmp t=>(match nth .u s.L t with
  | .v (.bool b)=> .ite b (x ⟨put (.v (.bool true)) s.L t,s.H⟩) (y ⟨put (.v (.bool false)) s.L t,s.H⟩)
  | _=> .no)
 | c=>(match evO s.L c with
  | .v (.bool b)=> .ite b (x s) (y s)
  | _=> .no)
noncomputable def zTs(r:S→DT (Ex×S)):Nat→S→DT (Ex×S)
 | 0,_=> .no
 | n+1,s=>(r s).bind (qXd (zTs r n))
noncomputable def qUy(s:S):DT (Ex×S):= .ret (.n,s)
noncomputable def qAi(P:Program)(OD:Od)(LO:Lo)(rn:Rd')(f:Nat)(p:List Bool)(c:Code)(s:S):DT (Ex×S):=match c with
 | .skip=> .ret (.n,s)
 | .label _=> .ret (.n,s)
 | .seq x y=>(rn f (false::p) x s).bind (qXd (rn f (true::p) y))
 | .cond c x y=>qCf (rn f (false::p) x) (rn f (true::p) y) s c
 | .block id x=>(rn f (false::p) x s).bind (blkD id)
 | .exit id=> .ret (.x id,s)
 | .ret=> .ret (.r,s)
 | .scope x=>rn f (false::p) x s
 | .loop x=>(match LO f p s with
  | some d=>d
  | none=>zTs (rn f (false::p) x) 5000 s)
 | .region _ ops false=>bif nS ops then(qGd P OD rn ops ops.toList s).bind qUy else .no
 | .region _ ops true=>bif nS ops then(drD P OD rn ops s).bind qUy else .no
 | _=> .no
noncomputable def evD(P:Program)(OD:Od)(LO:Lo):Nat→Rd'
 | 0=>fun _ _ _ _=> .no
 | k+1=>qAi P OD LO (evD P OD LO k)
def tN:Bool→Code→Option Code
 | false,.seq x _=>some x
 | true,.seq _ y=>some y
 | false,.cond _ x _=>some x
 | true,.cond _ _ y=>some y
 | false,.block _ x=>some x
 | false,.scope x=>some x
 | false,.loop x=>some x
 | _,_=>none
def cAt(P:Program)(f:Nat):List Bool→Option Code
 | []=>(P.funcs[f]?).bind fun fn=>fn.body
 | b::p=>(cAt P f p).bind (tN b)
def Tr(P:Program)(c:Code)(s:S)(e:Ex)(s':S):Prop:=
 ∀(E:Nat→Prop)(w0:World)(X:Hid)(F:List Nat)(n:Nat)(a:Act)(D:List Deferred)(B:Bm)(w:World)(Y:Hid)(Mo:List (Nat×Obj))(rr:Option Nat)(Q:Exit→Act→World→Prop),
  (rr=none∨noR c=true)→Wd P E w0 X F s.H B w Y Mo→FrT n a s.L D B (rd w Y)→lT P E w0 X F n D (noR c) e s' B (rd w Y) Q→c.wpIn (FF rr) 0 P Q a w
def rY(P:Program)(LO:Lo):Prop:=∀f p s d,LO f p s=some d→∀x,cAt P f p=some (.loop x)→∀e s',d.run=some (e,s')→Tr P (.loop x) s e s'
def vS(P:Program)(OD:Od):Prop:=∀f g,OD f=some g→∀az tv nw,(g az).run=some (tv,nw)→∀k,KnP P k f az tv nw
def lQ(P:Program)(rn:Rd'):Prop:=∀f p c s e s',cAt P f p=some c→(rn f p c s).run=some (e,s')→Tr P c s e s'
section
variable {P:Program}{OD:Od}{LO:Lo}{rn:Rd'}{H H':List TO}{L:List T}{ops:Array Oper}{o:Oper}{s s':S}
theorem vS.po(h:vS P OD):qI P (poR OD):=by
 intro f az tv nw e;unfold poR at e;cases hf:OD f with
 | none=>simp[hf]at e
 | some g=>rw[hf]at e;exact h f g hf az tv nw e
theorem qFe{t:T}{n:Nat}(h:(qLt t).run=some n):sN t=some n:=by
 unfold qLt at h;split at h
 ·rename_i a;obtain⟨h1,h2⟩:=qG h;cases a with
  | ofNat m=>cases h2;rfl
  | negSucc m=>cases h1
 ·cases h
theorem zPu{a:Int}(h:inW a=true):i64.wrap a=a:=by
 have h2: -9223372036854775808≤a∧a<9223372036854775808:=by
  cases a with
  | ofNat n=>simp only[inW,Nat.blt_eq]at h;simp only[Int.ofNat_eq_natCast];omega
  | negSucc n=>simp only[inW,Nat.blt_eq]at h;omega
 have e:i64.wrap a=if a % 18446744073709551616≥9223372036854775808 then a % 18446744073709551616-18446744073709551616 else a % 18446744073709551616:=by
  unfold IntKind.wrap;simp[IntKind.bits,IntKind.signed]
 rw[e];split<;>omega
theorem zSk{a:Int}{v:Value}(h:(arD a).run=some v):v= .int .i64 (wr .i64 a):=by
 obtain⟨h1,h2⟩:=qG h;cases h2;rw[qIo,zPu h1]
theorem qSd{a:Int}{v:Value}(h:(arW a).run=some v):v= .int .i64 (wr .i64 a):=by
 unfold arW at h;cases hi:inW a with
 | true=>
  simp only[hi,DT.run,cond_true,Option.some.injEq]at h;subst h;rw[qIo,zPu hi]
 | false=>simp only[hi,DT.run,cond_false,Option.some.injEq]at h;exact h.symm
theorem qKx{k:IntKind}(h:qUa k=true):k= .i64:=by cases k<;>first | rfl | cases h
theorem qJl{f:Bool}{op:BinOp}{k:IntKind}{a b:Int}{v:Value}(h:(qSn f op k a b).run=some v):zYn op k a b=some v:=by
 unfold qSn at h;cases hk:qUa k with
 | false=>rw[hk,cond_false,xC]at h;exact h
 | true=>
  rw[hk,cond_true]at h;obtain rfl:=qKx hk;split at h
  ·cases f with
   | true=>rw[qSd h];rfl
   | false=>rw[zSk h];rfl
  ·rw[zSk h];rfl
  ·rw[zSk h];rfl
  ·rw[xC]at h;exact h
theorem wI{t:T}{z:T×Option TO}(h:(zDq t).run=some z):val t=some z:=by cases h;rfl
theorem qJj{f:Bool}{op:BinOp}{x y:T}{d:DT (T×Option TO)}{z:T×Option TO}(h:qSm f op x y=some d)(hz:d.run=some z)(t:TypeId):zZx P op t x y=some z:=by
 unfold qSm at h;split at h
 ·rename_i k a k' b;cases ha:arOp op with
  | false=>simp[ha]at h
  | true=>
   simp only[ha,cond_true,Option.some.injEq]at h;subst h;cases hk:Nat.beq (kind k) (kind k')with
   | false=>simp[hk,DT.run]at hz
   | true=>
    simp only[hk,cond_true]at hz;obtain⟨v,h1,h2⟩:=zM hz;simp only[zZx,bin,hk,cond_true,qJl h1];exact wI h2
 ·cases h
theorem qMx{c a b:T}{z:T×Option TO}(h:(qHc c a b).run=some z):zKx c a b=some z:=by
 unfold qHc at h;unfold zKx;split at h
 ·rename_i c;cases c with
  | true=>exact wI h
  | false=>exact wI h
 ·cases h
theorem qTx{t:TypeId}{x i:T}{z:T×Option TO}(h:(qTw P t x i).run=some z):wU P t x i=some z:=by
 unfold qTw at h;obtain⟨n,h1,h2⟩:=zM h;have h1:=qFe h1;unfold wU;simp only[h1];split at h2
 ·rename_i e he;simp only[he];cases hl:ldT P e with
  | none=>simp[hl,DT.run]at h2
  | some gs=>
   obtain⟨g,s⟩:=gs;simp only[hl]at h2 ⊢;split at h2
   ·rename_i g' A l;cases hb:Nat.beq s A.size with
    | false=>simp[hb,DT.run]at h2
    | true=>
     simp only[hb,cond_true]at h2;obtain⟨h3,h4⟩:=qG h2;simp only[hb,h3,Bool.and_self,cond_true];exact wI h4
   ·rename_i A l;cases hb:Nat.beq s A.size with
    | false=>simp[hb,DT.run]at h2
    | true=>
     simp only[hb,cond_true]at h2;obtain⟨h3,h4⟩:=qG h2;simp only[hb,h3,Bool.and_self,cond_true];exact wI h4
   ·obtain⟨h3,h4⟩:=qG h2;simp only[h3,cond_true];exact wI h4
   ·obtain⟨h3,h4⟩:=qG h2;simp only[h3,cond_true];exact wI h4
   ·obtain⟨h3,h4⟩:=qG h2;simp only[h3,cond_true];exact wI h4
   ·obtain⟨h3,h4⟩:=qG h2;simp only[h3,cond_true];exact wI h4
   ·cases h2
 ·rw[xC]at h2;unfold wU at h2;simp only[sN]at h2;exact h2
theorem qGg{ρ:Operand→T}{d n:Nat}{x:Option Operand}(h:(qVm ρ d x).run=some n):opt ρ d x=some n:=by
 cases x with
 | none=>cases h;rfl
 | some x=>exact qFe h
theorem qXf{t:TypeId}{g:Tg}{A:Ty}{l:List A.den}{ρ:Operand→T}{lo hi:Option Operand}{z:T×Option TO}(h:(qXe P t g A l ρ lo hi).run=some z):pQ P t (.ls g A l) ρ lo hi none=some z:=by
 unfold qXe at h;unfold pQ;cases he:elT P t with
 | none=>simp[he,DT.run]at h
 | some e=>
  simp only[he]at h ⊢;cases hl:ldT P e with
  | none=>simp[hl,DT.run]at h
  | some gs=>
   obtain⟨q,s⟩:=gs;simp only[hl]at h ⊢;cases hb:Nat.beq s A.size with
   | false=>simp[hb,DT.run]at h
   | true=>
    simp only[hb,cond_true]at h;obtain⟨a,h1,h⟩:=zM h;obtain⟨b,h2,h⟩:=zM h;obtain⟨h3,h⟩:=qG h;obtain⟨h4,h⟩:=qG h;simp only[qZ,qGg h1,qGg h2,wH,pY,hb,h3,h4,Bool.and_self,cond_true,qAl];exact wI h
theorem zRa{ρ:Operand→T}{op:Op}{d:DT (T×Option TO)}{z:T×Option TO}(h:zHr P ρ op=some d)(hz:d.run=some z)(H:List TO)(k:Nat):kT P H k ρ op=some z:=by
 unfold zHr at h;split at h
 ·exact qJj h hz _
 ·cases h;exact qMx hz
 ·cases h;exact qTx hz
 ·rename_i t x lo hi;split at h
  ·rename_i g A l e;cases h;show pQ P t (dn (ρ x)) (fun y=>dn (ρ y)) lo hi none=some z;rw[e];exact qXf hz
  ·cases h
 ·cases h
theorem qHe{ρ:Operand→T}{op:Op}{d:DT (T×Option TO)}(h:zHr P ρ op=some d):∀c,op≠.call c:=by
 intro c e;subst e;cases h
theorem zLm{e:TypeId}{s N:Nat}(h:zYk P e s=true)(hN:Nat.ble N (apN P e)=true):zAn P e s N=true:=by
 unfold zYk at h;unfold zAn;unfold apN at hN;cases h1:P.info? e with
 | none=>
  cases h2:zer P e with
  | none=>simp[h2]at h
  | some z=>obtain⟨i,v,h3,_⟩:=mI h2;rw[h1]at h3;cases h3
 | some i=>
  cases h2:zer P e with
  | none=>simp[h2]at h
  | some z=>
   simp only[h1,h2,Bool.and_eq_true]at h hN ⊢;exact⟨h.1,hN,h.2⟩
theorem zLt{α:Type}{c:Cs}{n s:Nat}{d:DT α}{y:α}(h:(qBz c n s d).run=some y):Nat.beq (ln c.list) (n*s)=true∧d.run=some y:=by
 unfold qBz at h;split at h
 ·exact qG h
 ·rename_i g A x;cases hs:Nat.beq s A.size with
  | false=>simp[hs,DT.run]at h
  | true=>
   rw[hs,cond_true]at h;obtain⟨h1,h2⟩:=qG h;obtain rfl:=qB hs;have h1:=qB h1;refine⟨?_,h2⟩;show Nat.beq (ln (flatR g A x)) (n*A.size)=true;rw[qN,jV,h1];exact Nat.beq_refl _
theorem zQn{i o n s:Nat}{cs:Cs}{e':TypeId}(h:nth .gone H i= .gro cs e')(ho:Nat.beq o 0=true)(hn:Nat.beq (ln cs.list) (n*s)=true):qC H s (.og i o n)=some cs.list:=by
 obtain rfl:=qB ho;have hn:=qB hn;rw[qN]at hn;simp only[qC,h,nQ];rw[rQ,List.drop_zero,←hn];exact fH cs.list
theorem aR(g:Tg):∀(A:Ty)(x:A.den),xV (cellsD g A x)=true
 | .lim,_=>rfl
 | .int _,_=>rfl
 | .bool,_=>rfl
 | .str,_=>rfl
 | .list _,_=>rfl
 | .prod A C,x=>by
  have app:∀(u v:List T),xV u=true→xV v=true→xV (u++v)=true:=fun u v h1 h2=>by
   induction u with
   | nil=>exact h2
   | cons a u ih=>
    simp only[xV,Bool.and_eq_true]at h1;simp only[List.cons_append,xV,Bool.and_eq_true];exact⟨h1.1,ih h1.2⟩
  exact app _ _ (aR g A _) (aR g C _)
theorem zKu(g:Tg)(A:Ty):∀l:List A.den,xV (kR g A l)=true
 | []=>rfl
 | x::l=>by
  have app:∀(u v:List T),xV u=true→xV v=true→xV (u++v)=true:=fun u v h1 h2=>by
   induction u with
   | nil=>exact h2
   | cons a u ih=>
    simp only[xV,Bool.and_eq_true]at h1;simp only[List.cons_append,xV,Bool.and_eq_true];exact⟨h1.1,ih h1.2⟩
  exact app _ _ (aR g A x) (zKu g A l)
theorem qFq{y:T}{b:List T}{s:Nat}(hb:qC H s y=some b)(h:zWx y b=true):xV b=true:=by
 unfold zWx at h;split at h
 ·rename_i g A l;simp only[qC]at hb;cases hs:Nat.beq s A.size with
  | false=>simp[hs]at hb
  | true=>
   simp only[hs,cond_true,Option.some.injEq]at hb;subst hb;exact zKu g A l
 ·exact h
theorem qJf{s:Nat}{x:T}{v:T×List TO}(h:(qBj H s x).run=some v):∃a n,qC H s x=some a∧qZ x=some n∧qJe H x=some v:=by
 unfold qBj at h;split at h
 ·rename_i i o n;unfold qPe at h;split at h
  ·rename_i cs e' hg;cases hz:Nat.beq o 0 with
   | false=>simp[hz,DT.run]at h
   | true=>
    rw[hz,cond_true]at h;obtain⟨h1,h2⟩:=zLt h;cases h2;exact⟨_,_,zQn hg hz h1,rfl,rfl⟩
  ·cases h
 ·split at h
  ·rename_i a n e1 e2;rw[xC]at h;exact⟨a,n,e1,e2,h⟩
  ·cases h
theorem zOm{t:TypeId}{x y:T}{v:T×List TO}(h:(apD P H t x y).run=some v):zSj P H t x y=some v:=by
 unfold apD at h;cases he:elT P t with
 | none=>simp[he,DT.run]at h
 | some e=>
  simp only[he]at h;cases hl:ldT P e with
  | none=>simp[hl,DT.run]at h
  | some gs=>
   obtain⟨q,s⟩:=gs;simp only[hl]at h;cases hb:qC H s y with
   | none=>simp[hb,DT.run]at h
   | some b=>
    cases hm:qZ y with
    | none=>simp[hb,hm,DT.run]at h
    | some m=>
     simp only[hb,hm]at h;cases h0:Nat.beq m 0 with
     | true=>
      rw[h0]at h;simp only[DT.run,cond_true]at h;obtain⟨a,n,h1,h2,h3⟩:=qJf h;unfold zSj;simp only[he,hl,hb,hm,h1,h2,h0,cond_true];exact h3
     | false=>
      rw[h0]at h;simp only[DT.run,cond_false]at h;cases ho:zWx y b with
      | false=>simp[ho,DT.run]at h
      | true=>
       rw[ho,cond_true]at h;have ho:=qFq hb ho;unfold apL at h;cases hn:qZ x with
       | none=>simp[hn,DT.run]at h
       | some n=>
        simp only[hn]at h;cases ha:zYk P e s with
        | false=>simp[ha,DT.run]at h
        | true=>
         rw[ha,cond_true]at h;obtain⟨h1,hk⟩:=qG h;clear h;have h:=hk;clear hk;unfold zSj;simp only[he,hl,hb,hm,hn];unfold ap1 at h;split at h
         ·rename_i i o n';simp only[qZ,Option.some.injEq]at hn;subst hn;unfold apG at h;split at h
          ·rename_i cs e' hg;cases hz:Nat.beq o 0&&Nat.beq e e' with
           | false=>simp[hz,DT.run]at h
           | true=>
            rw[hz,cond_true]at h;obtain⟨h2,h⟩:=zLt h;simp only[Bool.and_eq_true]at hz;simp only[zQn hg hz.1 h2,h0,cond_false,zLm ha h1,ho,Bool.and_self,cond_true,qJg,qSb,hg,hz.1,hz.2,h2];exact h
          ·cases h
         ·cases hc:qC H s x with
          | none=>simp[hc,DT.run]at h
          | some a=>
           simp only[hc,hn,xC]at h;simp only[h0,cond_false,zLm ha h1,ho,Bool.and_self,cond_true];exact h
noncomputable def clD(P:Program)(OD:Od)(rn:Rd'):Cl:=fun f az H=>(qBr P OD rn f az H).run
theorem qCw(hrn:lQ P rn){f:Nat}{az:List T}{v:T×List TO}(h:(yU P rn f az H).run=some v):∃r:Rn,sZ P r∧pG P r f az H=some v:=by
 unfold yU at h;cases hf:P.funcs[f]? with
 | none=>simp[hf,DT.run]at h
 | some fn=>
  simp only[hf]at h;cases hb:fn.body with
  | none=>simp[hb,DT.run]at h
  | some c=>
   simp only[hb]at h;cases hl:Nat.ble (ln az) fn.ntmps with
   | false=>simp[hl,DT.run]at h
   | true=>
    rw[hl,cond_true]at h;obtain⟨⟨e,s⟩,h1,h2⟩:=zM h;have hc:cAt P f []=some c:=by simp[cAt,hf,hb]
    refine⟨fun c' s0=>open Classical in if c'=c then(rn f [] c s0).run else none,fun c' s0 e' s' he=>?_,?_⟩
    ·simp only at he;split at he
     ·rename_i e1;subst e1;exact hrn f [] _ s0 e' s' hc he
     ·cases he
    ·unfold pG;simp only[hf,hb,hl,cond_true,if_true,h1];cases e with
     | x id=>cases h2
     | p t=>cases h2
     | n=>
      simp only[qWk]at h2;simp only[zRj];cases hr:fA P s.L s.H fn.results.toList with
      | none=>rw[hr]at h2;cases h2
      | some r=>rw[hr]at h2;exact h2
     | r=>
      simp only[qWk]at h2;simp only[zRj];cases hr:fA P s.L s.H fn.results.toList with
      | none=>rw[hr]at h2;cases h2
      | some r=>rw[hr]at h2;exact h2
theorem dY{f:T→DT T}{g:T→Option T}(hf:∀x y,(f x).run=some y→g x=some y):∀(l:List T){r:List T},(zGv f l).run=some r→xR g l=some r
 | [],r,h=>by cases h;rfl
 | x::l,r,h=>by
  obtain⟨y,h1,h2⟩:=zM h;obtain⟨r',h3,h4⟩:=zM h2;cases h4;simp only[xR,hf _ _ h1,dY hf l h3]
theorem zFg{nw:Bool}:∀(k:Nat)(t:T){t':T},(bD nw H k t).run=some t'→jL nw H k t=some t'
 | 0,t,t',h=>by cases h
 | k+1,t,t',h=>by
  have ih:∀(t:T){t':T},(bD nw H k t).run=some t'→jL nw H k t=some t':=fun t t' h=>zFg k t h;have mp:∀(l:List T){r:List T},(zGv (bD nw H k) l).run=some r→xR (jL nw H k) l=some r:=fun l r h=>dY (fun x y h=>ih x h) l h;cases t with
  | ag cs=>obtain⟨l,h1,h2⟩:=zM h;cases h2;simp only[jL,mp _ h1]
  | tu cs=>obtain⟨l,h1,h2⟩:=zM h;cases h2;simp only[jL,mp _ h1]
  | fn f cs=>obtain⟨l,h1,h2⟩:=zM h;cases h2;simp only[jL,mp _ h1]
  | os i o n c=>
   simp only[bD]at h;simp only[jL];cases hb:Nat.ble n c&&Nat.ble c 9223372036854775807 with
   | false=>rw[hb]at h;cases h
   | true=>
    rw[hb,cond_true]at h;rw[cond_true];cases ho:sV (nth .gone H i)with
    | none=>simp[ho,DT.run]at h
    | some cs=>
     simp only[ho]at h;obtain⟨l,h1,h2⟩:=zM h;cases h2;simp only[mp _ h1]
  | og i o n=>
   simp only[bD]at h;simp only[jL];have hg:∀x,qDg nw o n x=none→zTf nw o n x=none:=fun x hx=>by
    unfold qDg at hx;unfold zTf;split at hx
    ·cases hx
    ·rename_i hne;split
     ·rename_i g A z e;exact absurd rfl (hne g A z e)
     ·rfl
   cases hz:qDg nw o n (nth .gone H i)with
   | some d=>
    simp only[hz]at h;unfold qDg at hz;split at hz
    ·rename_i g A x e hn;cases hz;cases hb:Nat.beq o 0&&(gN A&&(!nw||g.isN))with
     | false=>rw[hb]at h;cases h
     | true=>
      rw[hb,cond_true]at h;obtain⟨h1,h2⟩:=qG h;cases h2;simp only[zTf,hn,hb,h1,Bool.and_self,cond_true]
    ·cases hz
   | none=>
    simp only[hz]at h;simp only[hg _ hz];cases ho:sV (nth .gone H i)with
    | none=>simp[ho,DT.run]at h
    | some cs=>
     simp only[ho]at h;obtain⟨l,h1,h2⟩:=zM h;cases h2;simp only[mp _ h1]
  | op i o=>
   simp only[bD]at h;simp only[jL];cases ho:sV (nth .gone H i)with
   | none=>simp[ho,DT.run]at h
   | some cs=>
    simp only[ho]at h;obtain⟨l,h1,h2⟩:=zM h;cases h2;simp only[mp _ h1]
  | _=>simp only[bD,xC]at h;exact h
theorem qVz{g:List T→DT (T×Bool)}{f:Nat}{az:List T}{v:T×List TO}(hg:OD f=some g)(h:(poD g H az).run=some v):poC (poR OD) H f az=some v.1∧v.2=H:=by
 unfold poD at h;unfold poC;cases ho:zZv az with
 | true=>
  rw[ho,cond_true]at h;rw[cond_true];obtain⟨az2,hm,h⟩:=zM h;rw[dY (fun x y h=>zFg 12 x h) _ hm];obtain⟨⟨t,b⟩,h1,h2⟩:=zM h
  ·simp only[poR,hg,h1];cases b with
   | true=>cases h2;exact⟨rfl,rfl⟩
   | false=>cases h2
 | false=>
  rw[ho,cond_false]at h;rw[cond_false];obtain⟨⟨t,b⟩,h1,h2⟩:=zM h;simp only[poR,hg,h1];cases h2;exact⟨rfl,rfl⟩
theorem zSo(hm:P.follows .mixedOrders=true)(hO:vS P OD)(hrn:lQ P rn):kK P (clD P OD rn):=by
 intro f az H tv H' h;unfold clD qBr at h;cases hf:OD f with
 | some g=>
  simp only[hf]at h;obtain⟨h1,h2⟩:=qVz hf h;simp only at h1 h2;subst h2;intro E w0 X F B w Y Mo qM R hW hA hk;exact qHf (k:=H'.length) (fun f az tv nw h=>hO.po f az tv nw h _) h1 hW.ow hW.ivw hW.bNle hW.st.lt hW.nn hA fun v w' hu hv=>hk v w' B Y Mo (hW.call hu) hv (BLe.refl B) (hu.le Y)
 | none=>
  simp only[hf]at h;obtain⟨r,h1,h2⟩:=qCw hrn h;exact zCt h1 _ _ _ _ _ h2
theorem zTv:kY P noC:=fun _ _ _ _ _ h=>by cases h
theorem qVh{cl cl' yd yd':Cl}{d:Option Nat}{op:Op}(h:∀c f,op= .call c→c.callee≠.value f):opC P cl yd d L H op=opC P cl' yd' d L H op:=by
 cases op with
 | call c=>
  simp only[opC];split
  ·rename_i f e;exact absurd e (h c f rfl)
  ·rfl
 | _=>rfl
theorem zWz{cl cl' yd yd':Cl}(h:∀c f,o.op= .call c→c.callee≠.value f):gQ P cl yd o L H=gQ P cl' yd' o L H:=by
 unfold gQ zQo;rw[qVh h]
theorem qSr{az:List T}{t:T}{d:Option Nat}{cl:Cl}(hcl:∀f az H,cl f az H=(qBr P OD rn f az H).run)(h:((qSq P OD rn az H t).bind (qTj d L)).run=some s')(yd:Cl):zEd P cl yd d L H az t=some s':=by
 obtain⟨⟨v,H'⟩,h1,h2⟩:=zM h;unfold qSq at h1;unfold zEd;split at h1
 ·rename_i f cs;cases he:jE P f with
  | false=>simp[he,DT.run]at h1
  | true=>
   rw[he,cond_true]at h1;simp only[he,cond_true,hcl,h1,gK];exact h2
 ·rename_i f bs;cases he:jE P f with
  | false=>simp[he,DT.run]at h1
  | true=>
   rw[he,cond_true]at h1;simp only[he,cond_true,hcl,h1,gK];exact h2
 ·cases h1
theorem zWy(h:(qMe P OD rn o L H).run=some s'):gQ P (clD P OD rn) noC o L H=some s':=by
 unfold qMe at h;cases hp:zHr P (evO L) o.op with
 | some d=>
  simp only[hp]at h;obtain⟨z,h1,h2⟩:=zM h;rw[xC]at h2;unfold gQ;rw[zRa hp h1];exact h2
 | none=>
  simp only[hp]at h;have nc:(∀c,o.op≠.call c)→(ofO (gQ P noC noC o L H)).run=some s'→gQ P (clD P OD rn) noC o L H=some s':=fun hn h=>by
   rw[xC]at h;rw[zWz (cl':=noC) (yd':=noC) fun c f e=>absurd e (hn c)];exact h
  split at h
  ·rename_i c ec;unfold qPk at h;split at h
   ·rename_i f ef;unfold gQ;have hpl:kT P H (ln H) (evO L) o.op=none:=by
     rw[ec];simp only[kT,zEi];rw[ef]
    rw[hpl];simp only[zQo];have hef:zCs P H (evO L) o.op=none:=by
     rw[ec];simp only[zCs];rw[ef]
    rw[hef];have:opC P (clD P OD rn) noC o.dst L H o.op=some s':=by
     rw[ec];simp only[opC];rw[ef];exact qSr (OD:=OD) (rn:=rn) (fun _ _ _=>rfl) h noC
    simp only[this]
   ·rename_i ef;split at h
    ·rename_i x y t t' e1 e2;cases hb:Nat.beq t t' with
     | false=>simp[hb,DT.run]at h
     | true=>
      rw[hb,cond_true]at h;obtain⟨⟨v,H'⟩,h1,h2⟩:=zM h;have hef:zCs P H (evO L) o.op=some (some v,H'):=by
       rw[ec];simp only[zCs];rw[ef,e1,e2];simp only[hb,cond_true,zOm h1]
      have hpl:kT P H (ln H) (evO L) o.op=none:=by
       rw[ec];simp only[kT,zEi];rw[ef]
      unfold gQ;rw[hpl];simp only[zQo,hef,zPh];exact h2
    ·cases h
   ·rename_i hne1 hne2;rw[xC]at h;rw[zWz (cl':=noC) (yd':=noC) fun c' f e=>by rw[ec]at e;cases e;exact hne1 f]
    exact h
  ·rename_i hne;exact nc hne h
theorem zHt:∀(L:List T)(t:Nat){x:T},nth .u L t=x→x≠.u→put x L t=L
 | [],_,_,h,hx=>absurd h.symm hx
 | y::L,0,x,h,_=>by rw[zQj]at h;rw[zRb,h]
 | y::L,t+1,x,h,hx=>by rw[nP]at h;rw[zHu,zHt L t h hx]
theorem qPp(L:List T)(o:Oper):(gdT ops L o= .free→kH ops L o=some true)∧(gdT ops L o= .skip→kH ops L o=some false)∧∀t c b,gdT ops L o= .on t c b→kH ops L o=some (zYm c b)∧nth .u L t= .v (.bool c):=by
 unfold gdT kH;cases hg:o.guard with
 | none=>simp
 | some jb=>
  obtain⟨j,b0⟩:=jb;cases hj:ops[j]? with
  | none=>simp[hj]
  | some p=>
   cases hd:p.dst with
   | none=>simp[hj,hd]
   | some t=>
    cases hx:nth .u L t with
    | v z=>cases z<;>simp[hj,hd,hx]<;>(first | (intro t' c' b' e1 e2 e3;subst e1;subst e2;subst e3;exact⟨rfl,hx⟩) | skip)
    | tu l=>cases l<;>simp[hj,hd,hx]
    | _=>simp[hj,hd,hx]
theorem qCg{X Y:S→DT (Ex×S)}{s:S}{c:Operand}{z:Ex×S}(h:(qCf X Y s c).run=some z):∃b,evO s.L c= .v (.bool b)∧((bif b then X else Y) s).run=some z:=by
 cases c with
 | tmp t=>
  simp only[qCf]at h;split at h
  ·rename_i b eb;have hp:put (.v (.bool b)) s.L t=s.L:=zHt s.L t eb (by simp)
   refine⟨b,eb,?_⟩;cases b<;>simp only[DT.run,cond_true,cond_false,hp]at h ⊢<;>exact h
  ·cases h
 | _=>
  simp only[qCf]at h;split at h
  ·rename_i b eb;refine⟨b,eb,?_⟩;cases b<;>exact h
  ·cases h
theorem qFp{α:Type}{L:List T}{t:Nat}{c b:Bool}{y n:List T→DT α}{z:α}(hn:nth .u L t= .v (.bool c))(h:(onS L t c b y n).run=some z):(zYm c b=true∧(y L).run=some z)∨(zYm c b=false∧(n L).run=some z):=by
 have hp:put (.v (.bool c)) L t=L:=zHt L t hn (by simp)
 unfold onS at h;simp only[DT.run]at h;cases c<;>cases b<;>simp only[cond_true,cond_false,hp]at h<;>first | exact .inl ⟨rfl,h⟩ | exact .inr ⟨rfl,h⟩
theorem zUb(h:(opD P OD rn ops o s).run=some s'):opE P (clD P OD rn) noC ops o s=some s':=by
 unfold opD at h;unfold opE;obtain⟨g1,g2,g3⟩:=qPp (ops:=ops) s.L o;cases hg:gdT ops s.L o with
 | no=>rw[hg]at h;cases h
 | free=>rw[hg]at h;rw[g1 hg];exact zWy h
 | skip=>rw[hg]at h;rw[g2 hg];exact h
 | on t c b=>
  rw[hg]at h;obtain⟨k1,k2⟩:=g3 t c b hg;rw[k1];rcases qFp k2 h with⟨e,h⟩ | ⟨e,h⟩
  ·rw[e];exact zWy h
  ·rw[e];exact h
theorem zQr:∀(l:List Oper)(s:S),(qGd P OD rn ops l s).run=some s'→zQs P (clD P OD rn) noC ops l s=some s'
 | [],s,h=>h
 | o::l,s,h=>by
  obtain⟨s1,h1,h2⟩:=zM h;simp only[zQs,zUb h1];exact zQr l s1 h2
noncomputable def poH(P:Program)(OD:Od)(rn:Rd')(k:Nat):Po:=fun f az=>(puD P OD rn k f az).run
theorem qDe(hm:P.follows .mixedOrders=true)(hrn:lQ P rn){k f:Nat}{az:List T}{t tv:T}{H1:List TO}{nw:Bool}(h1:(yU P rn f (az.map (unN 12)) (lL k)).run=some (t,H1))(h2:(kM (t,H1)).run=some (tv,nw)):KnP P k f az tv nw:=by
 obtain⟨r,hr,he⟩:=qCw hrn h1;obtain⟨t',h3,h4⟩:=zM h2;cases h4;exact zCz (rn:=r) (gG hm hr) (by unfold gF;rw[he]) (zFg 12 _ h3)
theorem qVy(hm:P.follows .mixedOrders=true)(hO:vS P OD)(hrn:lQ P rn){k f:Nat}{az:List T}{tv:T}{nw:Bool}(h:poH P OD rn k f az=some (tv,nw)):KnP P k f az tv nw:=by
 unfold poH puD at h;cases hf:OD f with
 | some g=>simp only[hf]at h;exact hO f g hf az tv nw h k
 | none=>
  simp only[hf]at h;obtain⟨⟨t,H1⟩,h1,h2⟩:=zM h;exact qDe hm hrn h1 h2
theorem qWb{k f:Nat}{az:List T}{z:T×Option TO}(h:(qWa P OD rn k H f az).run=some z):∃t,poC (poH P OD rn k) H f az=some t∧z=(t,none):=by
 unfold qWa at h;unfold poC;cases ho:zZv az with
 | true=>
  rw[ho,cond_true]at h;rw[cond_true];obtain⟨az2,hm,h⟩:=zM h;rw[dY (fun x y h=>zFg 12 x h) _ hm];obtain⟨⟨t,b⟩,h1,h2⟩:=zM h
  ·simp only[poH,h1];cases b with
   | true=>cases h2;exact⟨_,rfl,rfl⟩
   | false=>cases h2
 | false=>
  rw[ho,cond_false]at h;rw[cond_false];obtain⟨⟨t,b⟩,h1,h2⟩:=zM h;simp only[poH,h1];cases h2;exact⟨_,rfl,rfl⟩
theorem qYf{H0 Hn:List TO}{t:TypeId}{x y:T}{z:T×Option TO}(h:(abD P H0 Hn t x y).run=some z):(∀i o n,x= .og i o n→zYl P H0 Hn (some i) t x y=some z)∧((∀i o n,x≠.og i o n)→zYl P H0 Hn none t x y=some z):=by
 unfold abD at h;cases he:elT P t with
 | none=>simp[he,DT.run]at h
 | some e=>
  simp only[he]at h;cases hl:ldT P e with
  | none=>simp[hl,DT.run]at h
  | some gs=>
   obtain⟨q,s⟩:=gs;simp only[hl]at h;cases hb:qC Hn s y with
   | none=>simp[hb,DT.run]at h
   | some b=>
    cases hm:qZ y with
    | none=>simp[hb,hm,DT.run]at h
    | some m=>
     cases hn:qZ x with
     | none=>simp[hb,hm,hn,DT.run]at h
     | some n=>
      simp only[hb,hm,hn]at h;cases hc:xV b&&zYk P e s with
      | false=>simp[hc,DT.run]at h
      | true=>
       rw[hc,cond_true]at h;obtain⟨hm0,hk0⟩:=qG h;obtain⟨h1,hk⟩:=qG hk0;clear h hk0;have h:=hk;clear hk;simp only[Bool.and_eq_true]at hc;obtain⟨ho,ha⟩:=hc;have hm1:Nat.beq m 0=false:=by simpa using hm0
       unfold abX at h;split at h
       ·rename_i i o n';simp only[qZ,Option.some.injEq]at hn;subst hn;refine⟨fun i' o' n'' e1=>?_,fun hne=>absurd rfl (hne i o n')⟩;cases e1;unfold abG at h;split at h
        ·rename_i cs e' hg;cases hz:Nat.beq o 0&&Nat.beq e e' with
         | false=>simp[hz,DT.run]at h
         | true=>
          rw[hz,cond_true]at h;obtain⟨h2,h⟩:=zLt h;simp only[Bool.and_eq_true]at hz;have hii:Nat.beq i i=true:=Nat.beq_refl i;unfold zYl;simp only[he,hl,hb,hm,qBn,hii,hz.1,hz.2,hg,h2,Bool.and_self,cond_true,hm1,Bool.not_false,zLm ha h1,ho];exact h
        ·cases h
       ·rename_i hne;refine⟨fun i o n' e1=>absurd e1 (hne i o n'),fun _=>?_⟩;rw[xC]at h;exact h
theorem zPr{H0 Hn:List TO}{po po':Po}(h:∀c f,o.op= .call c→c.callee≠.value f):nI P po H0 H Hn L o=nI P po' H0 H Hn L o:=by
 have e:lM P po Hn L o.op=lM P po' Hn L o.op:=by
  cases ho:o.op with
  | call c=>
   simp only[lM];split
   ·rename_i f e;exact absurd e (h c f ho)
   ·rfl
  | _=>rfl
 unfold nI;rw[e]
theorem qKq{k:Nat}{H0 Hn:List TO}{z:T×Option TO}(h:(qDq P OD rn k H0 H Hn L o).run=some z):nI P (poH P OD rn k) H0 H Hn L o=some z:=by
 unfold qDq at h;cases hp:zHr P (evO L) o.op with
 | some d=>
  simp only[hp]at h;have ha:rD L o.op=none:=by
   cases ho:o.op with
   | call c=>exact absurd ho (qHe hp c)
   | _=>rfl
  unfold nI;rw[ha,zRa hp h]
 | none=>
  simp only[hp]at h;split at h
  ·rename_i c ec;unfold hcaD at h;split at h
   ·rename_i f ef;split at h
    ·rename_i g cs eg;cases he:jE P g with
     | false=>simp[he,DT.run]at h
     | true=>
      rw[he,cond_true]at h;obtain⟨t,h1,rfl⟩:=qWb h;have ha:rD L o.op=none:=by rw[ec];simp only[rD];rw[ef]
      have hpl:kT P H (ln Hn) (evO L) o.op=none:=by rw[ec];simp only[kT,zEi];rw[ef]
      have hc:lM P (poH P OD rn k) Hn L o.op=some t:=by
       rw[ec];simp only[lM];rw[ef];simp only[eg,he,cond_true,h1]
      unfold nI;simp only[ha,hpl,hc]
    ·cases h
   ·rename_i ef;split at h
    ·rename_i x y t t' e1 e2;cases hb:Nat.beq t t' with
     | false=>simp[hb,DT.run]at h
     | true=>
      rw[hb,cond_true]at h;obtain⟨h1,h2⟩:=qYf h;unfold nI;by_cases hx:∃i o n,evO L x= .og i o n
      ·obtain⟨i,q,n,hx⟩:=hx;have ha:rD L o.op=some i:=by rw[ec];simp only[rD];rw[ef,e1];simp only[hx]
       simp only[ha];rw[ec];simp only[zIt];rw[ef,e1,e2];simp only[hb,cond_true];exact h1 i q n hx
      ·have hx':∀i o n,evO L x≠.og i o n:=fun i q n e=>hx ⟨i,q,n,e⟩;have ha:rD L o.op=none:=by
        rw[ec];simp only[rD];rw[ef,e1];first | (simp only;done) | (split<;>first | rfl | (rename_i e;exact absurd e (hx' _ _ _)))
       have hpl:kT P H (ln Hn) (evO L) o.op=none:=by rw[ec];simp only[kT,zEi];rw[ef]
       have hc:lM P (poH P OD rn k) Hn L o.op=none:=by rw[ec];simp only[lM];rw[ef]
       have hap:zIt P H0 Hn none L o.op=some z:=by
        rw[ec];simp only[zIt];rw[ef,e1,e2];simp only[hb,cond_true];exact h2 hx'
       simp only[ha,hpl,hc,hap]
    ·cases h
   ·rename_i hne1 hne2;rw[xC]at h;rw[zPr (po':=fun _ _=>none) fun c' f e=>by rw[ec]at e;cases e;exact hne1 f]
    exact h
  ·rename_i hne;rw[xC]at h;rw[zPr (po':=fun _ _=>none) fun c f e=>absurd e (hne c)];exact h
theorem qDr{k:Nat}{H0:List TO}:∀(l:List Oper)(Hn:List TO)(L:List T){rs:List (T×Option TO)},(zIv P OD rn k H0 H ops l Hn L).run=some rs→rs.length=l.length∧∀(i:Nat)(z:T×Option TO),rs[i]?=some z→∃o,l[i]?=some o∧kV P (poH P OD rn k) H0 H (Hn++qD (rs.take i)) (yX l (rs.take i) L) ops o=some z
 | [],Hn,L,rs,h=>by cases h;exact⟨rfl,fun i z e=>by simp at e⟩
 | o::l,Hn,L,rs,h=>by
  have fin:∀{z:T×Option TO},kV P (poH P OD rn k) H0 H Hn L ops o=some z→(zTi (zIv P OD rn k H0 H ops l) o Hn L z).run=some rs→rs.length=(o::l).length∧∀(i:Nat)(z:T×Option TO),rs[i]?=some z→∃o',(o::l)[i]?=some o'∧kV P (poH P OD rn k) H0 H (Hn++qD (rs.take i)) (yX (o::l) (rs.take i) L) ops o'=some z:=fun{z}hop h2=>by
   obtain⟨rs',h3,h4⟩:=zM h2;cases h4;obtain⟨g1,g2⟩:=qDr l _ _ h3;refine⟨by simp[g1],fun i y hy=>?_⟩
   cases i with
   | zero=>
    simp only[List.getElem?_cons_zero,Option.some.injEq]at hy;subst hy;refine⟨o,rfl,?_⟩;simp only[List.take_zero,qD,yX,List.append_nil];exact hop
   | succ i=>
    obtain⟨o',e1,e2⟩:=g2 i y (by simpa using hy)
    refine⟨o',by simpa using e1,?_⟩
    have en:Hn++qD ((z::rs').take (i+1))=nxH Hn z.2++qD (rs'.take i):=by
     obtain⟨t,ob⟩:=z;cases ob<;>simp[qD,nxH]
    rw[en];exact e2
  have yes:kH ops L o=some true→((qDq P OD rn k H0 H Hn L o).bind (zTi (zIv P OD rn k H0 H ops l) o Hn L)).run=some rs→rs.length=(o::l).length∧∀(i:Nat)(z:T×Option TO),rs[i]?=some z→∃o',(o::l)[i]?=some o'∧kV P (poH P OD rn k) H0 H (Hn++qD (rs.take i)) (yX (o::l) (rs.take i) L) ops o'=some z:=fun hw h=>by
   obtain⟨z,h1,h2⟩:=zM h;exact fin (by unfold kV;simp only[hw];exact qKq h1) h2
  have no:kH ops L o=some false→(zTi (zIv P OD rn k H0 H ops l) o Hn L (.tu [],none)).run=some rs→rs.length=(o::l).length∧∀(i:Nat)(z:T×Option TO),rs[i]?=some z→∃o',(o::l)[i]?=some o'∧kV P (poH P OD rn k) H0 H (Hn++qD (rs.take i)) (yX (o::l) (rs.take i) L) ops o'=some z:=fun hw h=>
   fin (by unfold kV;simp only[hw]) h
  simp only[zIv]at h;obtain⟨g1,g2,g3⟩:=qPp (ops:=ops) L o;cases hg:gdT ops L o with
  | no=>rw[hg]at h;cases h
  | free=>rw[hg]at h;exact yes (g1 hg) h
  | skip=>rw[hg]at h;exact no (g2 hg) h
  | on t c b=>
   rw[hg]at h;obtain⟨k1,k2⟩:=g3 t c b hg;rcases qFp k2 h with⟨e,h⟩ | ⟨e,h⟩
   ·exact yes (by rw[k1,e]) h
   ·exact no (by rw[k1,e]) h
theorem zPy:∀(l:List Oper)(rs:List (T×Option TO))(L:List T)(m:Nat),rs.length≤m→yX (l.take m) rs L=yX l rs L
 | [],_,_,m,_=>by simp
 | o::l,[],L,m,_=>by cases m<;>simp[yX]
 | o::l,z::rs,L,0,h=>by simp at h
 | o::l,z::rs,L,m+1,h=>by
  simp only[List.take_succ_cons,yX];exact zPy l rs _ m (by simpa using h)
theorem qTd{α:Type}{l:List α}(h:emp l=true):l=[]:=by cases l<;>first | rfl | cases h
theorem zNr{ld:List Nat}:∀(l:List Oper)(s:S),(qId P OD rn ops ld l s).run=some s'→fF P (clD P OD rn) noC ops ld l s=some s'
 | [],s,h=>h
 | o::l,s,h=>by
  obtain⟨s1,h1,h2⟩:=zM h;simp only[fF,zUb h1];cases he:emp ld with
  | true=>
   obtain rfl:=qTd he;rw[he,cond_true]at h2;show(bif rV P ops s1 []then _ else _)=_;simp only[rV,cond_true];exact zNr l s1 h2
  | false=>
   rw[he,cond_false]at h2;obtain⟨h3,h4⟩:=qG h2;simp only[h3,cond_true];exact zNr l s1 h4
theorem qTa{m:Nat}{Hm:List TO}{rs:List (T×Option TO)}(hl:ln rs=m)(h:(drT P OD rn ops m Hm s rs).run=some s'):drF P (clD P OD rn) noC ops s Hm rs=some s':=by
 subst hl;unfold drT at h;unfold drF qXm;cases hmm:Nat.ble (ln rs) ops.size with
 | false=>simp[hmm,DT.run]at h
 | true=>
 rw[hmm,Bool.true_and]at h;cases hd:qCu ops (ln rs)&&zMg Hm (ksE ops.toList rs s.L)with
 | false=>simp[hd,DT.run]at h
 | true=>
  rw[hd,cond_true]at h;rw[cond_true];cases he:emp (aM ops (ln rs))with
  | true=>
   rw[he,cond_true]at h;rw[qTd he];simp only[rV,cond_true];exact zNr _ _ h
  | false=>
   rw[he,cond_false]at h;obtain⟨h3,h4⟩:=qG h;simp only[h3,cond_true];exact zNr _ _ h4
theorem qEg{ks:List (Option Nat)}(q:Nat)(x:TO)(h1:(xF ks H)[q]?=some x)(h2:x≠.gone):H[q]?=some x:=by
 rw[nK]at h1;split at h1
 ·cases hq:H[q]? with
  | none=>rw[hq]at h1;cases h1
  | some y=>rw[hq]at h1;cases h1;exact absurd rfl h2
 ·exact h1
end
section
variable {P:Program}{E:Nat→Prop}{w0:World}{X:Hid}{F:List Nat}{B:Bm}{w:World}{Y:Hid}{Mo:List (Nat×Obj)}{n:Nat}{a:Act}{D:List Deferred}{Q:Exit→Act→World→Prop}{OD:Od}{LO:Lo}{rn:Rd'}{rr:Option Nat}{ops:Array Oper}{s s':S}
theorem qSz{id:Nat}(hm:P.follows .mixedOrders=true)(hO:vS P OD)(hrn:lQ P rn)(hok:nS ops=true)(h:(drD P OD rn ops s).run=some s')(hW:Wd P E w0 X F s.H B w Y Mo)(hF:FrT n a s.L D B (rd w Y))(hk:tK P E w0 X F n D s'.H s'.L B (rd w Y) (Q .normal)):(Code.region id ops true).wpIn (FF rr) 0 P Q a w:=by
 unfold drD drH at h;generalize hdN OD ops s.L ops.toList [] 0=m at h;obtain⟨rs,h1,h2⟩:=zM h;obtain⟨g1,g2⟩:=qDr _ _ _ h1;have hle:rs.length≤m:=by rw[g1];exact List.length_take_le _ _
 have hlo:rs.length≤ops.toList.length:=by rw[g1];exact List.length_take_le' _ _
 by_cases hmo:Nat.ble m ops.size=true
 ·have hmo:m≤ops.toList.length:=by simpa using Nat.le_of_ble_eq_true hmo
  have hlen:ln rs=m:=by rw[qN,g1,List.length_take];exact Nat.min_eq_left hmo
  refine zJq (po:=poH P OD rn (ln s.H+ops.size)) hm (fun f az tv nw hp=>qVy hm hO hrn hp) (zSo hm hO hrn) zTv hok hW hF hk _ rs (zKf _ _) (fun q x=>qEg q x) (fun i z hz=>?_) hlo (qTa hlen h2);obtain⟨o,e1,e2⟩:=g2 i z hz;refine⟨o,?_,?_⟩
  ·rw[List.getElem?_take]at e1;split at e1
   ·exact e1
   ·cases e1
  ·rwa[zPy _ _ _ _ (by rw[List.length_take];omega)]at e2
 ·exfalso;unfold drT at h2;have hf:Nat.ble m ops.size=false:=Bool.eq_false_iff.2 hmo;rw[hf]at h2;cases h2
theorem wZ(hm:P.follows .mixedOrders=true)(hO:vS P OD)(hL:rY P LO):∀k,lQ P (evD P OD LO k):=by
 intro k;induction k using Nat.strongRecOn with
 | _ k ih=>
  cases k with
  | zero=>intro f p c s e s' _ h;cases h
  | succ k=>
   have hk:lQ P (evD P OD LO k):=ih k (Nat.lt_succ_self k);intro f p c s e s' hc h E w0 X F n a D B w Y Mo rr Q hr hW hF hA;have h:(qAi P OD LO (evD P OD LO k) f p c s).run=some (e,s'):=h;cases c with
   | skip=>cases h;exact vX (hA.one hW hF (BLe.refl B) (Le.refl _))
   | label l=>cases h;exact zMc (hA.one hW hF (BLe.refl B) (Le.refl _))
   | exit id=>cases h;exact aJ (hA.one hW hF (BLe.refl B) (Le.refl _))
   | ret=>cases h;exact nJ (hA.one hW hF (BLe.refl B) (Le.refl _))
   | seq x y=>
    have hr1:rr=none∨noR x=true:=hr.imp id fun h=>by simp only[noR,Bool.and_eq_true]at h;exact h.1
    have hr2:rr=none∨noR y=true:=hr.imp id fun h=>by simp only[noR,Bool.and_eq_true]at h;exact h.2
    have hq:noR (.seq x y)=true→noR x=true∧noR y=true:=fun h=>by simpa[noR]using h
    have c1:cAt P f (false::p)=some x:=by simp[cAt,hc,tN]
    have c2:cAt P f (true::p)=some y:=by simp[cAt,hc,tN]
    obtain⟨⟨e1,s1⟩,h1,h2⟩:=zM h;refine wpIn_seq (hk _ _ _ _ _ _ c1 h1 E w0 X F n a D B w Y Mo rr _ hr1 hW hF fun a' w' B' Y' Mo' bs hbs g1 g2 g3 g4=>?_);cases e1 with
    | n=>exact hk _ _ _ _ _ _ c2 h2 E w0 X _ n a' _ B' w' Y' Mo' rr Q hr2 g1 g2 (hA.next hq hbs g3 g4)
    | x id=>cases h2;exact hA a' w' B' Y' Mo' bs (fun e=>hbs (hq e).1) g1 g2 g3 g4
    | r=>cases h2;exact hA a' w' B' Y' Mo' bs (fun e=>hbs (hq e).1) g1 g2 g3 g4
    | p t=>cases h2;exact hA a' w' B' Y' Mo' bs (fun e=>hbs (hq e).1) g1 g2 g3 g4
   | cond c x y=>
    have c1:cAt P f (false::p)=some x:=by simp[cAt,hc,tN]
    have c2:cAt P f (true::p)=some y:=by simp[cAt,hc,tN]
    simp only[qAi]at h;have hcr:=hF.rep c;have go:∀(b:Bool),evO s.L c= .v (.bool b)→((bif b then evD P OD LO k f (false::p) x else evD P OD LO k f (true::p) y) s).run=some (e,s')→(Code.cond c x y).wpIn (FF rr) 0 P Q a w:=fun b eb h=>by
     rw[eb]at hcr;cases b with
     | true=>exact wpIn_cond_true hcr.bool (hk _ _ _ _ _ _ c1 h E w0 X F n a D B w Y Mo rr Q (hr.imp id fun h=>by simp only[noR,Bool.and_eq_true]at h;exact h.1) hW hF fun a' w' B' Y' Mo' bs hbs=>hA a' w' B' Y' Mo' bs fun e=>hbs (by simp only[noR,Bool.and_eq_true]at e;exact e.1))
     | false=>exact wpIn_cond_false hcr.bool (hk _ _ _ _ _ _ c2 h E w0 X F n a D B w Y Mo rr Q (hr.imp id fun h=>by simp only[noR,Bool.and_eq_true]at h;exact h.2) hW hF fun a' w' B' Y' Mo' bs hbs=>hA a' w' B' Y' Mo' bs fun e=>hbs (by simp only[noR,Bool.and_eq_true]at e;exact e.2))
    obtain⟨b,eb,hb⟩:=qCg h;exact go b eb hb
   | block id x=>
    have c1:cAt P f (false::p)=some x:=by simp[cAt,hc,tN]
    obtain⟨⟨e1,s1⟩,h1,h2⟩:=zM h;refine jZ (hk _ _ _ _ _ _ c1 h1 E w0 X F n a D B w Y Mo rr _ hr hW hF fun a' w' B' Y' Mo' bs hbs g1 g2 g3 g4=>?_);cases e1 with
    | n=>cases h2;exact hA a' w' B' Y' Mo' bs hbs g1 g2 g3 g4
    | r=>cases h2;exact hA a' w' B' Y' Mo' bs hbs g1 g2 g3 g4
    | p t=>cases h2;exact hA a' w' B' Y' Mo' bs hbs g1 g2 g3 g4
    | x j=>
     cases h2;have:=hA a' w' B' Y' Mo' bs hbs g1 g2 g3 g4;cases hj:Nat.beq j id with
     | true=>rw[hj]at this;obtain rfl:=qB hj;exact sJ this
     | false=>rw[hj]at this;exact zAq hj this
   | scope x=>
    have c1:cAt P f (false::p)=some x:=by simp[cAt,hc,tN]
    rcases hr with rfl | hr
    ·exact zMd (hk _ _ _ _ _ _ c1 h E w0 X F n a D B w Y Mo none _ (.inl rfl) hW hF fun a' w' B' Y' Mo' bs _ g1 g2 g3 g4=>by
      have:=hA a' w' B' Y' Mo' bs (fun e=>by simp[noR]at e) g1 g2 g3 g4
      cases e<;>exact this)
    ·simp[noR]at hr
   | loop x=>
    have c1:cAt P f (false::p)=some x:=by simp[cAt,hc,tN]
    have hr1:rr=none∨noR x=true:=hr.imp id fun h=>by simpa[noR]using h
    simp only[qAi]at h;cases hlo:LO f p s with
    | some d=>
     simp only[hlo]at h;exact hL f p s d hlo x hc e s' h E w0 X F n a D B w Y Mo rr Q hr hW hF hA
    | none=>
    simp only[hlo]at h;have key:∀(N:Nat),(zTs (evD P OD LO k f (false::p) x) N s).run=some (e,s')→(Code.loop x).wpIn (FF rr) 0 P Q a w:=fun N h=>by
     refine pK (γ:=Nat×S×List Nat) (fun g a w=>(zTs (evD P OD LO k f (false::p) x) g.1 g.2.1).run=some (e,s')∧∃B' Y' Mo',(noR x=true→g.2.2=[])∧Wd P E w0 X (g.2.2++F) g.2.1.H B' w Y' Mo'∧FrT n a g.2.1.L (g.2.2.map Gv.mark++D) B' (rd w Y')∧BLe B B'∧Le (rd _ Y) (rd w Y'))
      (fun g=>g.1) (N,s,[]) ⟨h,B,Y,Mo,fun _=>rfl,hW,hF,BLe.refl B,Le.refl _⟩ ?_
     rintro⟨j,s0,bs0⟩ a0 w1 ⟨hstep,B1,Y1,Mo1,hb1,g1,g2,g3,g4⟩;simp only at hstep hb1 g1 g2;cases j with
     | zero=>cases hstep
     | succ j=>
     obtain⟨⟨e1,s1⟩,h1,h2⟩:=zM hstep;refine hk _ _ _ _ _ _ c1 h1 E w0 X _ n a0 _ B1 w1 Y1 Mo1 rr _ hr1 g1 g2 fun a' w' B' Y' Mo' bs hbs k1 k2 k3 k4=>?_;have hbs':noR x=true→bs++bs0=[]:=fun e=>by rw[hbs e,hb1 e];rfl
     have k1':Wd P E w0 X (bs++bs0++F) s1.H B' w' Y' Mo':=by rw[List.append_assoc];exact k1
     have k2':FrT n a' s1.L ((bs++bs0).map Gv.mark++D) B' (rd w' Y'):=by rw[List.map_append,List.append_assoc];exact k2
     cases e1 with
     | n=>exact⟨(j,s1,bs++bs0),⟨h2,B',Y',Mo',hbs',k1',k2',g3.trans k3,g4.trans k4⟩,Nat.lt_succ_self j⟩
     | x id=>cases h2;exact hA a' w' B' Y' Mo' (bs++bs0) (fun e=>hbs' (by simpa[noR]using e)) k1' k2' (g3.trans k3) (g4.trans k4)
     | r=>cases h2;exact hA a' w' B' Y' Mo' (bs++bs0) (fun e=>hbs' (by simpa[noR]using e)) k1' k2' (g3.trans k3) (g4.trans k4)
     | p t=>cases h2;exact hA a' w' B' Y' Mo' (bs++bs0) (fun e=>hbs' (by simpa[noR]using e)) k1' k2' (g3.trans k3) (g4.trans k4)
    exact key _ h
   | region id ops draw=>
    cases draw with
    | false=>
     simp only[qAi]at h;cases hok:nS ops with
     | false=>simp[hok,DT.run]at h
     | true=>
      rw[hok,cond_true]at h;obtain⟨s1,h1,h2⟩:=zM h;cases h2;refine wpIn_region_list ?_;exact zXf (zSo hm hO hk) zTv _ _ _ (zQr _ _ h1) hok hW hF (BLe.refl B) (Le.refl _) fun a' w' B' Y' Mo' k1 k2 k3 k4=>hA.one k1 k2 k3 k4
    | true=>
     simp only[qAi]at h;cases hok:nS ops with
     | false=>simp[hok,DT.run]at h
     | true=>
      rw[hok,cond_true]at h;obtain⟨s1,h1,h2⟩:=zM h;cases h2;exact qSz hm hO hk hok h1 hW hF fun a' w' B' Y' Mo' k1 k2 k3 k4=>hA.one k1 k2 k3 k4
   | rangeFunc g ps c1 c2=>cases h
   | goto l=>cases h
   | refuse why=>cases h
end
inductive Sl where
  | u
  | h
  | t (x:T)
  | a (g:Tg) (A:Ty) (e:TypeId)
inductive Ob' where
  | g
  | r (cs:List Sl) (e:TypeId)
  | m (g:Tg) (K V:Ty)
structure Sp where
 ss:List Sl
 os:List Ob'
structure Hs where
 hs:List T
 az:List T
 ks:List (List T)
noncomputable def sO(m:Nat):Nat→T→Bool
 | 0,_=>false
 | k+1,t=>match t with
  | .sl cs _=>cs.all (sO m k)
  | .sn cs _=>cs.all (sO m k)
  | .st cs _=>cs.all (sO m k)
  | .fp cs=>cs.all (sO m k)
  | .ag cs=>cs.all (sO m k)
  | .tu cs=>cs.all (sO m k)
  | .fn _ cs=>cs.all (sO m k)
  | .fb _ cs=>cs.all (sO m k)
  | .os i _ _ _=>Nat.blt i m
  | .og i _ _=>Nat.blt i m
  | .op i _=>Nat.blt i m
  | .om i=>Nat.blt i m
  | .yl i=>Nat.blt i m
  | _=>true
noncomputable def chk(A:Ty):Nat→List T→Option (List (List T))
 | 0,_=>none
 | k+1,ts=>match ts with
  | []=>some []
  | _::_=>match nY A.size ts with
   | some u=>(match chk A k (bS ts A.size)with
    | some r=>some (u::r)
    | none=>none)
   | none=>none
noncomputable def zOw(g:Tg)(A:Ty):List (List T)→List A.den→Option (List A.den)
 | [],r=>some r
 | u::l,r=>match nG g A u with
  | some x=>zOw g A l (x::r)
  | none=>none
noncomputable def qIy(g:Tg)(A:Ty):Cs→Option (List A.den)
 | .d g' A' x=>bif g.le g' then wN A' A x else none
 | .l cs=>match chk A (ln cs+1) cs with
  | some l=>zOw g A l []
  | none=>none
noncomputable def qRz(g:Tg)(A:Ty)(e:TypeId)(n:Nat):TO→DT T
 | .gro c e'=>bif Nat.beq e e' then(match qIy g A c with
  | some (y::l)=>grd (Nat.beq n (y::l).length) (.ret (.ls g A (y::l)))
  | _=> .no)else .no
 | _=> .no
noncomputable def zDa:T→Bool
 | .v _=>true
 | .ls _ _ _=>true
 | _=>false
noncomputable def zEf:T→Option T
 | .v x=>some (.v x)
 | .ls g A l=>some (.ls g A l)
 | .hv A l=>some (.hv A l)
 | .ag cs=>bif cs.all zDa then some (.ag cs)else none
 | _=>none
noncomputable def nW(m:Nat)(H:List TO):List Sl→List T→DT (List T×List T)
 | [],[]=> .ret ([],[])
 | .u::ss,_::ts=>nW m H ss ts
 | .h::ss,t::ts=>(match zEf t with
  | some t=>(nW m H ss ts).bind fun b=> .ret (t::b.1,b.2)
  | none=> .no)
 | .t x::ss,t::ts=>bif eqU 12 x t&&sO m 12 x then nW m H ss ts else .no
 | .a g A e::ss,t::ts=>(match t with
  | .v (.slice none 0 0)=>(nW m H ss ts).bind fun b=> .ret (b.1,.ls g A []::b.2)
  | .og i o n=>bif Nat.beq o 0 then(qRz g A e n (nth .gone H i)).bind fun x=>(nW m H ss ts).bind fun b=> .ret (b.1,x::b.2)else .no
  | _=> .no)
 | _,_=> .no
noncomputable def sW:List Sl→List T→List (Option Nat)
 | .a .. ::ss,t::ts=>(match t with | .og i _ _=>some i | _=>none)::sW ss ts
 | _::ss,_::ts=>sW ss ts
 | _,_=>[]
noncomputable def mdE(g:Tg)(K V:Ty):TO→Option T
 | .mapd d=>bif g.le d.g then(match wN (.prod d.K d.V) (.prod K V) d.l with
  | some l=>some (.ls g (.prod K V) l)
  | none=>none)else none
 | .map []=>some (.ls g (.prod K V) [])
 | _=>none
noncomputable def moD(g:Tg)(K V:Ty):List T→TO
 | [.ls _ A l]=>(match wN A (.prod K V) l with
  | some l=> .mapd ⟨g,K,V,l⟩
  | none=> .gone)
 | _=> .gone
noncomputable def zTy(m:Nat)(H0:List TO):List Ob'→List TO→DT (List (List T))
 | [],_=> .ret []
 | .g::os,_::H=>(zTy m H0 os H).bind fun r=> .ret ([]::r)
 | .r cs e::os,.row ts e'::H=>bif Nat.beq e e' then(nW m H0 cs ts).bind fun a=>bif emp a.2 then(zTy m H0 os H).bind fun r=> .ret (a.1::r)else .no else .no
 | .m g K V::os,o::H=>(match mdE g K V o with
  | some t=>(zTy m H0 os H).bind fun r=> .ret ([t]::r)
  | none=> .no)
 | _,_=> .no
noncomputable def isG:Ob'→Bool
 | .g=>true
 | _=>false
noncomputable def zLe(m:Nat)(os:List Ob'):List (Option Nat)→Bool
 | []=>true
 | none::l=>zLe m os l
 | some i::l=>(!zIu i l&&(!Nat.blt i m||isG (nth .g os i)))&&zLe m os l
noncomputable def bC(m:Nat)(sp:Sp)(s:S):DT Hs:=bif zLe m sp.os (sW sp.ss s.L)&&(Nat.beq (ln sp.os) m&&Nat.ble m (ln s.H))then(nW m s.H sp.ss s.L).bind fun a=>(zTy m s.H sp.os s.H).bind fun ks=> .ret ⟨a.1,a.2,ks⟩else .no
noncomputable def rowT(j:Nat):T→T
 | .ls _ _ []=> .v (.slice none 0 0)
 | .ls _ _ (x::l)=> .og j 0 (x::l).length
 | _=> .u
noncomputable def qWt(e:TypeId):T→TO
 | .ls _ _ []=> .gone
 | .ls g A (x::l)=> .gro (.d g A (x::l)) e
 | _=> .gone
noncomputable def buL:List Sl→Nat→List T→List T→List T
 | .u::ss,j,hs,az=> .u::buL ss j hs az
 | .h::ss,j,x::hs,az=>x::buL ss j hs az
 | .t x::ss,j,hs,az=>x::buL ss j hs az
 | .a _ _ _::ss,j,hs,x::az=>rowT j x::buL ss (j+1) hs az
 | _,_,_,_=>[]
noncomputable def buA:List Sl→List T→List TO
 | .a _ _ e::ss,x::az=>qWt e x::buA ss az
 | .a _ _ _::_,[]=>[]
 | _::ss,az=>buA ss az
 | [],_=>[]
noncomputable def buO:List Ob'→List (List T)→List TO
 | .g::os,_::ks=> .gone::buO os ks
 | .r cs e::os,k::ks=> .row (buL cs 0 k []) e::buO os ks
 | .m g K V::os,k::ks=>moD g K V k::buO os ks
 | _,_=>[]
noncomputable def bu(m:Nat)(sp:Sp)(q:Hs):S:=⟨buL sp.ss m q.hs q.az,buO sp.os q.ks++buA sp.ss q.az⟩
section
variable {P:Program}{E:Nat→Prop}{w0:World}{X:Hid}{F:List Nat}{H H':List TO}{B B':Bm}{w:World}{Y:Hid}{Mo:List (Nat×Obj)}{r:Rd}{m:Nat}
theorem Rep.low(hB:∀i,i<m→B' i=B i)(hN:B'.N=B.N):∀(k:Nat){t:T}{v:Value},sO m k t=true→Rep B r t v→Rep B' r t v
 | 0,_,_,h,_=>by cases h
 | k+1,t,y,h,hR=>by
  have all:∀{cs:List T},cs.all (sO m k)=true→∀(j:Nat)(t:T),cs[j]?=some t→sO m k t=true:=fun h j t e=>List.all_eq_true.1 h t (List.mem_of_getElem? e);have lt:∀{i:Nat},Nat.blt i m=true→i<m:=fun h=>by rwa[Nat.blt_eq]at h
  cases hR with
  | u=>exact .u
  | v hs=>exact .v hs
  | sl hn f h1 g hm=>simp only[sO]at h;exact .sl hn f h1 (fun j t e=>Rep.low hB hN k (all h j t e) (g j t e)) hm
  | sl0 hm=>exact .sl0 hm
  | sn hn f h1 g hm hb=>simp only[sO]at h;exact .sn hn f h1 (fun j t e=>Rep.low hB hN k (all h j t e) (g j t e)) hm (fun j t e=>hN▸hb j t e)
  | sn0 hm=>exact .sn0 hm
  | st f h1 g=>simp only[sO]at h;exact .st f h1 fun j t e=>Rep.low hB hN k (all h j t e) (g j t e)
  | st0=>exact .st0
  | fp f h1 g=>simp only[sO]at h;exact .fp f h1 fun j t e=>Rep.low hB hN k (all h j t e) (g j t e)
  | ag f hl h1 g=>simp only[sO]at h;exact .ag f hl h1 fun j t e=>Rep.low hB hN k (all h j t e) (g j t e)
  | tu f hl h1 g=>simp only[sO]at h;exact .tu f hl h1 fun j t e=>Rep.low hB hN k (all h j t e) (g j t e)
  | fn f hl h1 g=>simp only[sO]at h;exact .fn f hl h1 fun j t e=>Rep.low hB hN k (all h j t e) (g j t e)
  | fb f hl h1 g=>simp only[sO]at h;exact .fb f hl h1 fun j t e=>Rep.low hB hN k (all h j t e) (g j t e)
  | os h1=>exact .os (by rw[hB _ (lt h)];exact h1)
  | og h1 h2 h3 h4=>exact .og (by rw[hB _ (lt h)];exact h1) h2 h3 h4
  | op h1=>exact .op (by rw[hB _ (lt h)];exact h1)
  | om h1=>exact .om (by rw[hB _ (lt h)];exact h1)
  | yl h1=>exact .yl (by rw[hB _ (lt h)];exact h1)
  | ls h1=>exact .ls (qA.mono (Le.refl _) (fun b k=>k.eqN hN.symm) _ _ _ h1)
  | hv h1=>exact .hv (yN.mono (Le.refl _) (fun b k=>k.eqN hN.symm) _ _ _ h1)
theorem aK{t:T}(h:zDa t=true)(hN:B'.N=B.N){v:Value}(hR:Rep B r t v):Rep B' r t v:=by
 unfold zDa at h;split at h
 ·obtain⟨rfl,hs⟩:=hR.vI;exact .v hs
 ·cases hR with
  | ls h1=>exact .ls (qA.mono (Le.refl _) (fun b k=>k.eqN hN.symm) _ _ _ h1)
 ·cases h
theorem zEh(hN:B'.N=B.N):∀{ts:List T}{vs:List Value},ts.all zDa=true→zN B r ts vs→zN B' r ts vs
 | [],[],_,_=>trivial
 | t::ts,v::vs,h,hR=>by
  simp only[List.all_cons,Bool.and_eq_true]at h;exact⟨aK h.1 hN hR.1,zEh hN h.2 hR.2⟩
 | [],_::_,_,hR=>hR.elim
 | _::_,[],_,hR=>hR.elim
theorem zPd{t t':T}(h:zEf t=some t'):t'=t:=by
 unfold zEf at h;split at h
 ·cases h;rfl
 ·cases h;rfl
 ·cases h;rfl
 ·rename_i cs;cases hc:cs.all zDa with
  | false=>rw[hc]at h;cases h
  | true=>rw[hc]at h;cases h;rfl
 ·cases h
theorem zJp{t t':T}(h:zEf t=some t')(hN:B'.N=B.N){v:Value}(hR:Rep B r t v):Rep B' r t' v:=by
 obtain rfl:=zPd h;unfold zEf at h;split at h
 ·exact aK rfl hN hR
 ·exact aK rfl hN hR
 ·cases hR with
  | hv h1=>exact .hv (yN.mono (Le.refl _) (fun b k=>k.eqN hN.symm) _ _ _ h1)
 ·rename_i cs;cases hc:cs.all zDa with
  | false=>rw[hc]at h;cases h
  | true=>
   obtain⟨vs,rfl,hvs⟩:=hR.agI;exact Rep.mkAg (zEh hN hc hvs)
 ·cases h
theorem Wd.re(h:Wd P E w0 X F H B w Y Mo)(q:Nat→Option Nat)(hN:B'.N=B.N)(hn:∀i,H'.length≤i→B' i=none)
  (hq:∀(i:Nat)(o:TO),H'[i]?=some o→jN o=true→∃j o1,q i=some j∧B' i=B j∧H[j]?=some o1∧jN o1=true∧∀C ob,RO P B (rd w Y) C o1 ob→RO P B' (rd w Y) C o ob)
  (hf:∀(i:Nat)(cs:List T),H'[i]?≠some (.fz cs)) (hi:∀(i j k:Nat)(o1 o2:TO),H'[i]?=some o1→jN o1=true→H'[j]?=some o2→jN o2=true→q i=some k→q j=some k→i=j):Wd P E w0 X F H' B' w Y Mo:=
 ⟨h.st,fun i o ho hl=>by
  obtain⟨j,o1,_,e2,e3,e4,e5⟩:=hq i o ho hl;obtain⟨b,C,ob,g1,g2,g3⟩:=h.ob j o1 e3 e4;exact⟨b,C,ob,by rw[e2];exact g1,g2,e5 C ob g3⟩,fun i cs hc=>absurd hc (hf i cs),hn,fun i j oi oj p p' h1 l1 h2 l2 hp hp' e=>by
  obtain⟨a,o1,e1,e2,e3,e4,_⟩:=hq i oi h1 l1;obtain⟨a',o1',e1',e2',e3',e4',_⟩:=hq j oj h2 l2;rw[e2]at hp;rw[e2']at hp';have:=h.inj a a' o1 o1' p p' e3 e4 e3' e4' hp hp' e;subst this;exact hi i j a oi oj h1 l1 h2 l2 e1 e1',by rw[hN];exact h.bN,h.iv⟩
theorem chk_ok{A:Ty}:∀(k:Nat)(ts:List T){l:List (List T)},chk A k ts=some l→ts=l.flatten
 | 0,ts,l,h=>by cases h
 | k+1,[],l,h=>by cases h;rfl
 | k+1,t::ts,l,h=>by
  simp only[chk]at h;cases h1:nY A.size (t::ts)with
  | none=>simp[h1]at h
  | some u=>
   simp only[h1]at h;cases h2:chk A k (bS (t::ts) A.size)with
   | none=>simp[h2]at h
   | some r'=>
    simp only[h2,Option.some.injEq]at h;subst h;obtain⟨_,rfl⟩:=fG _ _ _ h1;rw[List.flatten_cons,←chk_ok k _ h2,zAx,List.take_append_drop]
theorem zGa{g:Tg}{A:Ty}:∀(l:List (List T))(p:List A.den){x:List A.den}{vs:List Value},zOw g A l p=some x→zN B r (flatR g A p++l.flatten) vs→zN B r (flatR g A x) vs∧(flatR g A x).length=(flatR g A p++l.flatten).length
 | [],p,x,vs,h,hR=>by cases h;simpa using hR
 | u::l,p,x,vs,h,hR=>by
  simp only[zOw]at h;cases hc:nG g A u with
  | none=>simp[hc]at h
  | some y=>
   simp only[hc]at h;rw[List.flatten_cons,←List.append_assoc]at hR;have hs:=zN.split (ts:=flatR g A p++u) (us:=l.flatten) hR;have hs2:=zN.split (ts:=flatR g A p) (us:=u) hs.1;obtain⟨k1,k2⟩:=lV A hc hs2.2;have hk:zN B r (flatR g A (y::p)++l.flatten) vs:=by
    have:=(hs2.1.app k1).app hs.2;rw[List.take_append_drop,List.take_append_drop]at this;exact this
   obtain⟨g1,g2⟩:=zGa l (y::p) h hk;refine⟨g1,?_⟩;rw[g2];simp only[flatR,List.flatten_cons,List.length_append,jB,k2,Nat.add_assoc]
theorem qIz{g:Tg}{A:Ty}{c:Cs}{x:List A.den}{vs:List Value}(h:qIy g A c=some x)(hR:zN B r c.list vs):zN B r (flatR g A x) vs∧(flatR g A x).length=c.list.length:=by
 unfold qIy at h;split at h
 ·rename_i g' A' x';cases hg:g.le g' with
  | false=>simp[hg]at h
  | true=>
   simp only[hg,cond_true]at h;obtain⟨rfl,he⟩:=lW h;obtain rfl:=eq_of_heq he;have e:∀(l:List A'.den),flatR g' A' l=kR g' A' l.reverse:=fun l=>by rw[←dK,List.reverse_reverse]
   have e':∀(l:List A'.den),flatR g A' l=kR g A' l.reverse:=fun l=>by rw[←dK,List.reverse_reverse]
   refine⟨?_,?_⟩
   ·rw[e'];have hR:zN B r (flatR g' A' x') vs:=hR;rw[e]at hR;exact zGl (by simpa using hg) A' _ hR
   ·show(flatR g A' x').length=(flatR g' A' x').length;rw[jV,jV]
 ·rename_i cs;cases hc:chk A (ln cs+1) cs with
  | none=>simp[hc]at h
  | some l=>
   simp only[hc]at h;have e:=chk_ok _ _ hc;have hR:zN B r cs vs:=hR;obtain⟨h1,h2⟩:=zGa l [] h (by simpa[flatR,←e]using hR)
   refine⟨h1,?_⟩;rw[h2];show([]++l.flatten).length=cs.length;rw[List.nil_append,←e]
theorem zCx{g:Tg}{A:Ty}(hN:B'.N=B.N):∀{ts:List T}{vs:List Value},(∀t∈ts,∃t',zEf t=some t')→zN B r ts vs→zN B' r ts vs
 | [],[],_,_=>trivial
 | t::ts,v::vs,h,hR=>by
  obtain⟨t',ht⟩:=h t List.mem_cons_self;obtain rfl:=zPd ht;exact⟨zJp ht hN hR.1,zCx (g:=g) (A:=A) hN (fun t ht=>h t (List.mem_cons_of_mem _ ht)) hR.2⟩
 | [],_::_,_,hR=>hR.elim
 | _::_,[],_,hR=>hR.elim
theorem rF(g:Tg):∀(A:Ty)(x:A.den),∀t∈cellsD g A x,∃t',zEf t=some t'
 | .lim,_,t,h=>by simp only[cellsD,List.mem_singleton]at h;subst h;exact⟨_,rfl⟩
 | .int _,_,t,h=>by simp only[cellsD,List.mem_singleton]at h;subst h;exact⟨_,rfl⟩
 | .bool,_,t,h=>by simp only[cellsD,List.mem_singleton]at h;subst h;exact⟨_,rfl⟩
 | .str,_,t,h=>by simp only[cellsD,List.mem_singleton]at h;subst h;exact⟨_,rfl⟩
 | .list _,_,t,h=>by simp only[cellsD,List.mem_singleton]at h;subst h;exact⟨_,rfl⟩
 | .prod A C,x,t,h=>by
  rcases List.mem_append.1 h with h | h
  ·exact rF g A _ t h
  ·exact rF g C _ t h
theorem zGm(g:Tg)(A:Ty):∀(l:List A.den),∀t∈flatR g A l,∃t',zEf t=some t'
 | [],t,h=>by cases h
 | x::l,t,h=>by
  rcases List.mem_append.1 h with h | h
  ·exact zGm g A l t h
  ·exact rF g A x t h
theorem nX{m:Nat}{H:List TO}:∀(ss:List Sl)(ts:List T){b:List T×List T},(nW m H ss ts).run=some b→(sW ss ts).length=b.2.length
 | [],[],b,h=>by cases h;rfl
 | [],_::_,b,h=>by cases h
 | .u::ss,[],b,h=>by cases h
 | .h::ss,[],b,h=>by cases h
 | .t _::ss,[],b,h=>by cases h
 | .a .. ::ss,[],b,h=>by cases h
 | .u::ss,t::ts,b,h=>nX ss ts (b:=b) h
 | .h::ss,t::ts,b,h=>by
  simp only[nW]at h;split at h
  ·obtain⟨b',h1,h2⟩:=zM h;cases h2;exact nX (b:=b') ss ts h1
  ·cases h
 | .t x::ss,t::ts,b,h=>by
  simp only[nW]at h;cases hc:eqU 12 x t&&sO m 12 x with
  | false=>rw[hc]at h;cases h
  | true=>rw[hc]at h;exact nX ss ts h
 | .a g A e::ss,t::ts,b,h=>by
  simp only[nW]at h;split at h
  ·obtain⟨b',h1,h2⟩:=zM h;cases h2;simp only[sW,List.length_cons,nX (b:=b') ss ts h1]
  ·rename_i i o n;cases ho:Nat.beq o 0 with
   | false=>rw[ho]at h;cases h
   | true=>
    rw[ho,cond_true]at h;obtain⟨x,_,h⟩:=zM h;obtain⟨b',h1,h2⟩:=zM h;cases h2;simp only[sW,List.length_cons,nX (b:=b') ss ts h1]
  ·cases h
theorem zAg(hB:∀i,i<m→B' i=B i)(hN:B'.N=B.N):∀(ss:List Sl)(ts:List T)(j:Nat){b:List T×List T}{vs:List Value},(nW m H ss ts).run=some b→(∀(q i:Nat),(sW ss ts)[q]?=some (some i)→B' (j+q)=B i)→zN B r ts vs→zN B' r (buL ss j b.1 b.2) vs
 | [],[],j,b,vs,h,_,hR=>by
  cases h;cases vs with
  | nil=>trivial
  | cons=>exact hR.elim
 | [],_::_,j,b,vs,h,_,_=>by cases h
 | .u::ss,[],j,b,vs,h,_,_=>by cases h
 | .h::ss,[],j,b,vs,h,_,_=>by cases h
 | .t _::ss,[],j,b,vs,h,_,_=>by cases h
 | .a .. ::ss,[],j,b,vs,h,_,_=>by cases h
 | _::_,_::_,_,_,[],_,_,hR=>hR.elim
 | .u::ss,t::ts,j,b,v::vs,h,hq,hR=>⟨.u,zAg hB hN ss ts j (b:=b) h hq hR.2⟩
 | .h::ss,t::ts,j,b,v::vs,h,hq,hR=>by
  simp only[nW]at h;split at h
  ·rename_i t' ht;obtain⟨b',h1,h2⟩:=zM h;cases h2;exact⟨zJp ht hN hR.1,zAg hB hN ss ts j h1 hq hR.2⟩
  ·cases h
 | .t x::ss,t::ts,j,b,v::vs,h,hq,hR=>by
  simp only[nW]at h;cases hc:eqU 12 x t&&sO m 12 x with
  | false=>rw[hc]at h;cases h
  | true=>
   rw[hc]at h;simp only[Bool.and_eq_true]at hc;have e:=mQ 12 x t hc.1;subst e;exact⟨Rep.low hB hN 12 hc.2 hR.1,zAg hB hN ss ts j (b:=b) h hq hR.2⟩
 | .a g A e::ss,t::ts,j,b,v::vs,h,hq,hR=>by
  have hq':∀(q i:Nat),(sW ss ts)[q]?=some (some i)→B' (j+1+q)=B i:=fun q i e=>by
   have:=hq (q+1) i (by simpa[sW]using e)
   rwa[show j+(q+1)=j+1+q by omega]at this
  simp only[nW]at h;split at h
  ·obtain⟨b',h1,h2⟩:=zM h;cases h2;refine⟨?_,zAg hB hN ss ts (j+1) h1 hq' hR.2⟩;obtain⟨rfl,hs⟩:=hR.1.vI;exact .v hs
  ·rename_i i o n;cases ho:Nat.beq o 0 with
   | false=>rw[ho]at h;cases h
   | true=>
    rw[ho,cond_true]at h;obtain⟨x,hx,h⟩:=zM h;obtain⟨b',h1,h2⟩:=zM h;cases h2;refine⟨?_,zAg hB hN ss ts (j+1) h1 hq' hR.2⟩;obtain rfl:=qB ho;unfold qRz at hx;split at hx
    ·rename_i c e' hn;cases he:Nat.beq e e' with
     | false=>rw[he]at hx;cases hx
     | true=>
      rw[he,cond_true]at hx;split at hx
      ·rename_i y l hl;obtain⟨k1,k2⟩:=qG hx;cases k2;obtain rfl:=qB k1;have hBj:B' j=B i:=by
        have:=hq 0 i rfl;simpa using this
       have hv:=hR.1;cases hv with
       | og g1 g2 g3 g4=>exact .og (by rw[hBj];exact g1) g2 g3 g4
      ·cases hx
    ·cases hx
  ·cases h
end
section
variable {P:Program}{E:Nat→Prop}{w0:World}{X:Hid}{F:List Nat}{H H':List TO}{B B':Bm}{w:World}{Y:Hid}{Mo:List (Nat×Obj)}{r:Rd}{m:Nat}{n:Nat}{a:Act}{D:List Deferred}{s:S}
def reB(B:Bm)(m:Nat)(src:List (Option Nat)):Bm:=⟨fun i=>if i<m then B i else match src[i-m]? with
 | some (some j)=>B j
 | _=>none,B.N⟩
theorem zFq{src:List (Option Nat)}{i:Nat}(h:i<m):reB B m src i=B i:=if_pos h
theorem zXl{src:List (Option Nat)}{q j:Nat}(h:src[q]?=some (some j)):reB B m src (m+q)=B j:=by
 show(if m+q<m then B (m+q)else _)=_
 rw[if_neg (by omega),Nat.add_sub_cancel_left,h]
theorem zNg{B0:Bm}{src:List (Option Nat)}(h:BLe B0 B)(hm:∀i,m≤i→B0 i=none):BLe B0 (reB B m src):=⟨fun i p e=>by
 have hi:i<m:=by
  rcases Nat.lt_or_ge i m with h | h
  ·exact h
  ·rw[hm i h]at e;cases e
 rw[zFq hi];exact h i p e,h.n⟩
theorem zCm:∀(ss:List Sl)(ts:List T){b:List T×List T},(nW m H ss ts).run=some b→(buA ss b.2).length=(sW ss ts).length∧
  ∀(q:Nat)(o:TO),(buA ss b.2)[q]?=some o→o≠.gone→∃(i:Nat)(c:Cs)(g:Tg)(A:Ty)(x:List A.den)(e:TypeId),o= .gro (.d g A x) e∧(sW ss ts)[q]?=some (some i)∧nth .gone H i= .gro c e∧qIy g A c=some x
 | [],[],b,h=>by cases h;exact⟨rfl,fun q o e=>by simp[buA]at e⟩
 | [],_::_,b,h=>by cases h
 | .u::ss,[],b,h=>by cases h
 | .h::ss,[],b,h=>by cases h
 | .t _::ss,[],b,h=>by cases h
 | .a .. ::ss,[],b,h=>by cases h
 | .u::ss,t::ts,b,h=>zCm ss ts (b:=b) h
 | .h::ss,t::ts,b,h=>by
  simp only[nW]at h;split at h
  ·obtain⟨b',h1,h2⟩:=zM h;cases h2;exact zCm (b:=b') ss ts h1
  ·cases h
 | .t x::ss,t::ts,b,h=>by
  simp only[nW]at h;cases hc:eqU 12 x t&&sO m 12 x with
  | false=>rw[hc]at h;cases h
  | true=>rw[hc]at h;exact zCm (b:=b) ss ts h
 | .a g A e::ss,t::ts,b,h=>by
  simp only[nW]at h;split at h
  ·obtain⟨b',h1,h2⟩:=zM h;cases h2;obtain⟨k1,k2⟩:=zCm (b:=b') ss ts h1;refine⟨by simp only[buA,sW,List.length_cons,k1],fun q o ho hne=>?_⟩
   cases q with
   | zero=>simp only[buA,qWt,List.getElem?_cons_zero,Option.some.injEq]at ho;exact absurd ho.symm hne
   | succ q=>
    obtain⟨i,c,g',A',x,e',r1,r2,r3⟩:=k2 q o (by simpa[buA]using ho) hne
    exact⟨i,c,g',A',x,e',r1,by simpa[sW]using r2,r3⟩
  ·rename_i i o n;cases ho:Nat.beq o 0 with
   | false=>rw[ho]at h;cases h
   | true=>
    rw[ho,cond_true]at h;obtain⟨x,hx,h⟩:=zM h;obtain⟨b',h1,h2⟩:=zM h;cases h2;obtain⟨k1,k2⟩:=zCm (b:=b') ss ts h1;refine⟨by simp only[buA,sW,List.length_cons,k1],fun q o ho hne=>?_⟩
    cases q with
    | succ q=>
     obtain⟨i,c,g',A',x,e',r1,r2,r3⟩:=k2 q o (by simpa[buA]using ho) hne
     exact⟨i,c,g',A',x,e',r1,by simpa[sW]using r2,r3⟩
    | zero=>
     unfold qRz at hx;split at hx
     ·rename_i c e' hn;cases he:Nat.beq e e' with
      | false=>rw[he]at hx;cases hx
      | true=>
       rw[he,cond_true]at hx;obtain rfl:=qB he;split at hx
       ·rename_i y l hl;obtain⟨q1,q2⟩:=qG hx;cases q2;simp only[buA,qWt,List.getElem?_cons_zero,Option.some.injEq]at ho;subst ho;exact⟨i,c,g,A,y::l,e,rfl,rfl,hn,hl⟩
       ·cases hx
     ·cases hx
  ·cases h
def Obx(P:Program)(m:Nat)(o1 o:TO):Prop:=jN o1=true∧(∀cs,o≠.fz cs)∧∀(B B':Bm)(r:Rd)(C:Nat)(ob:Obj),(∀i,i<m→B' i=B i)→B'.N=B.N→RO P B r C o1 ob→RO P B' r C o ob
theorem qNz{g g':Tg}{V:Ty}{x:V.den}{v:Value}(h:g'.le g=true)(hN:B'.N=B.N)(hR:Rep B r (unT g V x) v):Rep B' r (unT g' V x) v:=by
 have l1:=jB g V x;have l2:=jB g' V x;have key:∀vs,zN B r (cellsD g V x) vs→zN B' r (cellsD g' V x) vs:=fun vs hv=>zCx (g:=g') (A:=V) hN (rF g' V x) (dC h V x hv);by_cases h1:V.size=1
 ·obtain⟨t,ht⟩:=List.length_eq_one_iff.1 (l1.trans h1);obtain⟨t',ht'⟩:=List.length_eq_one_iff.1 (l2.trans h1);unfold unT at hR ⊢;rw[ht]at hR;rw[ht'];have:=key [v] (by rw[ht];exact⟨hR,trivial⟩)
  rw[ht']at this;exact this.1
 ·have one:∀(g:Tg),unT g V x= .ag (cellsD g V x):=fun g=>by
   have l:=jB g V x;unfold unT;split
   ·rename_i t ht;rw[ht]at l;exact absurd l.symm h1
   ·rfl
  rw[one]at hR ⊢;obtain⟨vs,rfl,hvs⟩:=hR.agI;exact Rep.mkAg (key vs hvs)
theorem zPf{g g':Tg}{K V:Ty}(h:g'.le g=true)(hN:B'.N=B.N):∀(l:List (K.den×V.den))(es:List MapEntry),kX B r (l.map fun e=>(xJ K e.1,unT g V e.2)) es→kX B' r (l.map fun e=>(xJ K e.1,unT g' V e.2)) es
 | [],[],_=>trivial
 | _::l,_::es,k=>⟨k.1,qNz h hN k.2.1,zPf h hN l es k.2.2⟩
 | [],_::_,k=>k.elim
 | _::_,[],k=>k.elim
theorem qUs{g:Tg}{K V:Ty}{x:TO}{t:T}(h:mdE g K V x=some t):Obx P m x (moD g K V [t]):=by
 unfold mdE at h;split at h
 ·rename_i d;obtain⟨g0,K0,V0,l⟩:=d;cases hg:g.le g0 with
  | false=>simp[hg]at h
  | true=>
   simp only[hg,cond_true]at h;split at h
   ·rename_i l' hl;cases h;obtain⟨e,he⟩:=lW hl;cases e;obtain rfl:=eq_of_heq he;have e2:wN (.prod K V) (.prod K V) l=some l:=hl;have e3:moD g K V [.ls g (.prod K V) l]= .mapd ⟨g,K,V,l⟩:=by
     show(match wN (.prod K V) (.prod K V) l with | some l=>TO.mapd ⟨g,K,V,l⟩ | none=> .gone)=_
     rw[e2]
    rw[e3];refine⟨rfl,fun cs e=>(by cases e),fun B B' r C ob _ hN hro=>?_⟩
    cases hro with
    | mapd h hc hb=>exact .mapd (zPf hg hN _ _ h) hc hb
   ·cases h
 ·cases h;have e2:wN (.prod K V) (.prod K V) ([]:List (Ty.prod K V).den)=some []:=by
   unfold wN;split
   ·rfl
   ·rename_i hn;exfalso;refine hn ?_;have self:∀A:Ty,A.beq A=true:=fun A=>by
     induction A with
     | int k=>simp[Ty.beq]
     | list A ih=>simpa[Ty.beq]using ih
     | prod A C ih1 ih2=>simp[Ty.beq,ih1,ih2]
     | _=>rfl
    exact self _
  have e3:moD g K V [.ls g (.prod K V) []]= .mapd ⟨g,K,V,[]⟩:=by
   show(match wN (.prod K V) (.prod K V) ([]:List (Ty.prod K V).den)with | some l=>TO.mapd ⟨g,K,V,l⟩ | none=> .gone)=_
   rw[e2]
  rw[e3];refine⟨rfl,fun cs e=>(by cases e),fun B B' r C ob _ hN hro=>?_⟩
  cases hro with
  | @map l es clk h hc hb=>
   refine .mapd ?_ hc hb;show kX B' r [] es.toList;match es.toList,h with
   | [],_=>trivial
 ·cases h
theorem zMu{H0:List TO}:∀(os:List Ob')(H:List TO){ks:List (List T)},(zTy m H0 os H).run=some ks→(buO os ks).length=os.length∧os.length≤H.length∧
  ∀(i:Nat)(o:TO),(buO os ks)[i]?=some o→o≠.gone→isG (nth .g os i)=false∧∃o1,H[i]?=some o1∧Obx P m o1 o
 | [],H,ks,h=>by cases h;exact⟨rfl,Nat.zero_le _,fun i o e=>by simp[buO]at e⟩
 | .g::os,[],ks,h=>by cases h
 | .r _ _::os,[],ks,h=>by cases h
 | .m _ _ _::os,[],ks,h=>by cases h
 | .g::os,_::H,ks,h=>by
  obtain⟨ks',h1,h2⟩:=zM h;cases h2;obtain⟨k1,k2,k3⟩:=zMu os H h1;refine⟨by simp only[buO,List.length_cons,k1],by simpa using k2,fun i o ho hne=>?_⟩
  cases i with
  | zero=>simp only[buO,List.getElem?_cons_zero,Option.some.injEq]at ho;exact absurd ho.symm hne
  | succ i=>simpa[nP]using k3 i o (by simpa[buO]using ho) hne
 | .m g K V::os,x::H,ks,h=>by
  simp only[zTy]at h;split at h
  ·rename_i t ht;obtain⟨ks',h1,h2⟩:=zM h;cases h2;obtain⟨k1,k2,k3⟩:=zMu os H h1;refine⟨by simp only[buO,List.length_cons,k1],by simpa using k2,fun i o ho hne=>?_⟩
   cases i with
   | succ i=>simpa[nP]using k3 i o (by simpa[buO]using ho) hne
   | zero=>
    simp only[buO,List.getElem?_cons_zero,Option.some.injEq]at ho;subst ho;exact⟨rfl,x,rfl,qUs ht⟩
  ·cases h
 | .r cs e::os,x::H,ks,h=>by
  cases x with
  | row ts e'=>
   simp only[zTy]at h;cases he:Nat.beq e e' with
   | false=>rw[he]at h;cases h
   | true=>
    rw[he,cond_true]at h;obtain rfl:=qB he;obtain⟨b,hb,h⟩:=zM h;cases hemp:emp b.2 with
    | false=>rw[hemp]at h;cases h
    | true=>
     rw[hemp,cond_true]at h;obtain⟨ks',h1,h2⟩:=zM h;cases h2;obtain⟨k1,k2,k3⟩:=zMu os H h1;refine⟨by simp only[buO,List.length_cons,k1],by simpa using k2,fun i o ho hne=>?_⟩
     cases i with
     | succ i=>simpa[nP]using k3 i o (by simpa[buO]using ho) hne
     | zero=>
      simp only[buO,List.getElem?_cons_zero,Option.some.injEq]at ho;subst ho;have e2:=qTd hemp;have hb2:(nW m H0 cs ts).run=some (b.1,[]):=by rw[hb];obtain⟨b1,b2⟩:=b;simp only at e2;subst e2;rfl
      refine⟨rfl,_,rfl,rfl,fun cs e=>(by cases e),fun B B' r C ob hB hN hro=>?_⟩
      cases hro with
      | row hr=>
       refine .row ?_;exact zAg (H:=H0) hB hN cs ts 0 (b:=(b.1,[])) hb2 (fun q i e=>by
        have:=nX cs ts hb2;simp only[List.length_nil]at this;rw[List.eq_nil_of_length_eq_zero this]at e;simp at e) hr
  | _=>cases h
theorem zUt {os : List Ob'} : ∀ (l : List (Option Nat)), zLe m os l = true → (∀ (q i : Nat), l[q]? = some (some i) → m ≤ i ∨ isG (nth .g os i) = true) ∧ ∀ (q q' i : Nat), l[q]? = some (some i) → l[q']? = some (some i) → q = q'
  | [], _ => ⟨fun q i e => by simp at e, fun q q' i e => by simp at e⟩
  | none :: l, h => by
    obtain ⟨h1, h2⟩ := zUt l h
    refine ⟨fun q i e => ?_, fun q q' i e e' => ?_⟩
    · cases q with
      | zero => simp at e
      | succ q => exact h1 q i (by simpa using e)
    · cases q with
      | zero => simp at e
      | succ q => cases q' with
        | zero => simp at e'
        | succ q' => rw [h2 q q' i (by simpa using e) (by simpa using e')]
  | some j :: l, h => by
    simp only [zLe, Bool.and_eq_true] at h
    obtain ⟨⟨h0, h0'⟩, h⟩ := h
    obtain ⟨h1, h2⟩ := zUt l h
    have no : ∀ (q : Nat), l[q]? ≠ some (some j) := by
      have : ∀ (l : List (Option Nat)), zIu j l = false → ∀ q : Nat, l[q]? ≠ some (some j) := by
        intro l
        induction l with
        | nil => intro _ q e; simp at e
        | cons x l ih =>
          intro hk q e
          cases x with
          | none =>
            cases q with
            | zero => simp at e
            | succ q => exact ih hk q (by simpa using e)
          | some y =>
            simp only [zIu, Bool.or_eq_false_iff] at hk
            cases q with
            | zero => simp at e; subst e; simp at hk
            | succ q => exact ih hk.2 q (by simpa using e)
      exact this l (by simpa using h0)
    refine ⟨fun q i e => ?_, fun q q' i e e' => ?_⟩
    · cases q with
      | zero =>
        simp at e; subst e
        cases hb : Nat.blt j m with
        | false => left; have : ¬ j < m := fun hlt => by rw [← Nat.blt_eq] at hlt; rw [hb] at hlt; cases hlt
                   omega
        | true => right; simpa [hb] using h0'
      | succ q => exact h1 q i (by simpa using e)
    · cases q with
      | zero =>
        simp at e; subst e
        cases q' with
        | zero => rfl
        | succ q' => exact absurd (by simpa using e') (no q')
      | succ q => cases q' with
        | zero => simp at e'; subst e'; exact absurd (by simpa using e) (no q)
        | succ q' => rw [h2 q q' i (by simpa using e) (by simpa using e')]
theorem zLr{sp:Sp}{q:Hs}(h:(bC m sp s).run=some q)(hW:Wd P E w0 X F s.H B w Y Mo)(hF:FrT n a s.L D B (rd w Y)):
  ∃src,Wd P E w0 X F (bu m sp q).H (reB B m src) w Y Mo∧FrT n a (bu m sp q).L D (reB B m src) (rd w Y)∧m≤s.H.length:=by
 unfold bC at h;cases hc:zLe m sp.os (sW sp.ss s.L)&&(Nat.beq (ln sp.os) m&&Nat.ble m (ln s.H))with
 | false=>rw[hc]at h;cases h
 | true=>
  rw[hc,cond_true]at h;simp only[Bool.and_eq_true]at hc;obtain⟨c1,c2,c3⟩:=hc;obtain⟨b,h1,h⟩:=zM h;obtain⟨ks,h2,h3⟩:=zM h;cases h3;have c2:=qB c2;rw[qN]at c2;have c3:m≤s.H.length:=by rw[←qN];exact Nat.le_of_ble_eq_true c3
  obtain⟨s1,s2⟩:=zUt _ c1;obtain⟨a1,a2⟩:=zCm sp.ss s.L h1;obtain⟨o1,o2,o3⟩:=zMu (P:=P) sp.os s.H h2;refine⟨sW sp.ss s.L,?_,⟨hF.size,?_,hF.defers⟩,c3⟩
  ·have hgone:∀{o:TO},jN o=true→o≠.gone:=fun h e=>by subst e;cases h
   have get:∀(i:Nat)(o:TO),(bu m sp ⟨b.1,b.2,ks⟩).H[i]?=some o→jN o=true→(i<m∧(buO sp.os ks)[i]?=some o)∨(m≤i∧(buA sp.ss b.2)[i-m]?=some o):=fun i o ho hl=>by
    have ho:(buO sp.os ks++buA sp.ss b.2)[i]?=some o:=ho;rw[List.getElem?_append]at ho;split at ho
    ·rename_i hi;rw[o1,c2]at hi;exact .inl ⟨hi,ho⟩
    ·rename_i hi;rw[o1,c2]at hi ho;exact .inr ⟨by omega,ho⟩
   refine hW.re (fun i=>if i<m then some i else(match(sW sp.ss s.L)[i-m]? with | some x=>x | none=>none)) rfl (fun i hi=>?_) (fun i o ho hl=>?_) (fun i cs hf=>?_) (fun i j k p1 p2 g1 l1 g2 l2 e1 e2=>?_)
   ·have hlen:(bu m sp ⟨b.1,b.2,ks⟩).H.length=m+(sW sp.ss s.L).length:=by
     show(buO sp.os ks++buA sp.ss b.2).length=_;rw[List.length_append,o1,c2,a1]
    rw[hlen]at hi;show(if i<m then B i else _)=none
    rw[if_neg (by omega),List.getElem?_eq_none (by omega)]
   ·rcases get i o ho hl with⟨hi,ho⟩ | ⟨hi,ho⟩
    ·obtain⟨_,o1',r2,r3,_,r4⟩:=o3 i o ho (hgone hl);exact⟨i,o1',if_pos hi,zFq hi,r2,r3,fun C ob hro=>r4 _ _ _ C ob (fun i hi=>zFq hi) rfl hro⟩
    ·obtain⟨j,c,g,A,x,e,r1,r2,r3,r4⟩:=a2 (i-m) o ho (hgone hl);have hj:=mV r3 (by simp)
     refine⟨j,_,?_,?_,hj,rfl,fun C ob hro=>?_⟩
     ·simp only[if_neg (show¬i<m by omega),r2]
     ·have:=zXl (B:=B) (m:=m) r2;rwa[Nat.add_sub_cancel' hi]at this
     ·subst r1;cases hro with
      | gro hi' hs hC hr=>
       obtain⟨k1,k2⟩:=qIz r4 hr;refine .gro hi' hs hC ?_;show zN _ _ (flatR g A x) (List.take (flatR g A x).length _);rw[k2];exact zCx (g:=g) (A:=A) (B:=B) (B':=reB B m (sW sp.ss s.L)) rfl (zGm g A x) k1
   ·have hf:(buO sp.os ks++buA sp.ss b.2)[i]?=some (.fz cs):=hf;rw[List.getElem?_append]at hf;split at hf
    ·obtain⟨_,_,_,_,e,_⟩:=o3 i _ hf (by simp)
     exact e cs rfl
    ·obtain⟨_,_,_,_,_,_,e,_⟩:=a2 _ _ hf (by simp)
     cases e
   ·have G:∀(i:Nat)(o:TO),(bu m sp ⟨b.1,b.2,ks⟩).H[i]?=some o→jN o=true→i<m→isG (nth .g sp.os i)=false:=fun i o ho hl hi=>by
     rcases get i o ho hl with⟨_,ho⟩ | ⟨h,_⟩
     ·exact(o3 i o ho (hgone hl)).1
     ·omega
    have S:∀{i k:Nat},m≤i→(if i<m then some i else(match(sW sp.ss s.L)[i-m]? with | some x=>x | none=>none))=some k→(sW sp.ss s.L)[i-m]?=some (some k):=fun{i k}hi e=>by
     rw[if_neg (by omega)]at e
     split at e
     ·rename_i x hx;rw[hx,e]
     ·cases e
    rcases Nat.lt_or_ge i m with hi | hi<;>rcases Nat.lt_or_ge j m with hj | hj
    ·rw[if_pos hi]at e1;rw[if_pos hj]at e2;cases e1;cases e2;rfl
    ·rw[if_pos hi]at e1;cases e1;rcases s1 _ _ (S hj e2)with h | h
     ·omega
     ·rw[G i p1 g1 l1 hi]at h;cases h
    ·rw[if_pos hj]at e2;cases e2;rcases s1 _ _ (S hi e1)with h | h
     ·omega
     ·rw[G j p2 g2 l2 hj]at h;cases h
    ·have:=s2 _ _ _ (S hi e1) (S hj e2);omega
  ·exact zAg (H:=s.H) (fun i hi=>zFq hi) rfl sp.ss s.L m h1 (fun q i e=>zXl e) hF.reps
end
structure Lp where
 m:Nat
 sp:Sp
 sx:Sp
 sr:Sp
noncomputable def Lp.bx(l:Lp):Ex×Hs→Ex×S
 | (.r,q)=>(.r,bu l.m l.sr q)
 | (e,q)=>(e,bu l.m l.sx q)
noncomputable def Lp.end_(l:Lp):Ex×S→DT (Hs⊕(Ex×Hs))
 | (.n,s)=>(bC l.m l.sp s).bind fun q=> .ret (.inl q)
 | (.x id,s)=>(bC l.m l.sx s).bind fun q=> .ret (.inr (.x id,q))
 | (.r,s)=>(bC l.m l.sr s).bind fun q=> .ret (.inr (.r,q))
 | _=> .no
noncomputable def Lp.stp(l:Lp)(rn:Rd')(f:Nat)(p:List Bool)(x:Code)(q:Hs):Option (Hs⊕(Ex×Hs)):=((rn f (false::p) x (bu l.m l.sp q)).bind l.end_).run
inductive It (st:Hs→Option (Hs⊕(Ex×Hs))):Nat→Hs→Ex×Hs→Prop
  | out {q:Hs} {y:Ex×Hs} (h:st q=some (.inr y)):It st 0 q y
  | go {n:Nat} {q q':Hs} {y:Ex×Hs} (h:st q=some (.inl q')) (k:It st n q' y):It st (n+1) q y
section
variable {P:Program}{OD:Od}{LO:Lo}{rn:Rd'}{l:Lp}{f:Nat}{p:List Bool}{x:Code}{s:S}
theorem qLj(hrn:lQ P rn)(hc:cAt P f p=some (.loop x)){n:Nat}{q:Hs}{y:Ex×Hs}(hm:l.m=s.H.length)(h0:(bC l.m l.sp s).run=some q)(h:It (l.stp rn f p x) n q y):Tr P (.loop x) s (l.bx y).1 (l.bx y).2:=by
 intro E w0 X F n0 a D B w Y Mo rr Q hr hW hF hA;have c1:cAt P f (false::p)=some x:=by simp[cAt,hc,tN]
 have hr1:rr=none∨noR x=true:=hr.imp id fun h=>by simpa[noR]using h
 have hBm:∀i,l.m≤i→B i=none:=fun i hi=>hW.nn i (by rw[←hm];exact hi)
 refine pK (γ:=Nat×Hs×List Nat) (fun g a2 w2=>It (l.stp rn f p x) g.1 g.2.1 y∧∃B' Y' Mo',(noR x=true→g.2.2=[])∧Wd P E w0 X (g.2.2++F) (bu l.m l.sp g.2.1).H B' w2 Y' Mo'∧FrT n0 a2 (bu l.m l.sp g.2.1).L (g.2.2.map Gv.mark++D) B' (rd w2 Y')∧BLe B B'∧Le (rd w Y) (rd w2 Y'))
  (fun g=>g.1) (n,q,[]) ?_ ?_
 ·obtain⟨src,k1,k2,_⟩:=zLr h0 hW hF;exact⟨h,_,Y,Mo,fun _=>rfl,k1,k2,zNg (BLe.refl B) hBm,Le.refl _⟩
 ·rintro⟨j,q0,bs0⟩ a0 w1 ⟨hit,B1,Y1,Mo1,hb1,g1,g2,g3,g4⟩;simp only at hit hb1 g1 g2;have st:∀{z:Hs⊕(Ex×Hs)},l.stp rn f p x q0=some z→∃e1 s1,(rn f (false::p) x (bu l.m l.sp q0)).run=some (e1,s1)∧(l.end_ (e1,s1)).run=some z:=fun h=>by
   obtain⟨⟨e1,s1⟩,h1,h2⟩:=zM h;exact⟨e1,s1,h1,h2⟩
  have fin:∀{s1:S}{a':Act}{w':World}{B':Bm}{Y':Hid}{Mo':List (Nat×Obj)}{bs:List Nat}{sp:Sp}{q1:Hs},(bC l.m sp s1).run=some q1→Wd P E w0 X (bs++(bs0++F)) s1.H B' w' Y' Mo'→FrT n0 a' s1.L (bs.map Gv.mark++(bs0.map Gv.mark++D)) B' (rd w' Y')→BLe B B'→
    ∃B2,Wd P E w0 X (bs++bs0++F) (bu l.m sp q1).H B2 w' Y' Mo'∧FrT n0 a' (bu l.m sp q1).L ((bs++bs0).map Gv.mark++D) B2 (rd w' Y')∧BLe B B2:=fun hq k1 k2 k3=>by
   obtain⟨src,r1,r2,_⟩:=zLr hq k1 k2;exact⟨_,by rw[List.append_assoc];exact r1,by rw[List.map_append,List.append_assoc];exact r2,zNg k3 hBm⟩
  have out:∀{e1:Ex}{s1:S},(rn f (false::p) x (bu l.m l.sp q0)).run=some (e1,s1)→((∃q1,(bC l.m l.sp s1).run=some q1∧e1= .n∧∃j',j=j'+1∧It (l.stp rn f p x) j' q1 y)∨(∃q1,(bC l.m l.sx s1).run=some q1∧(∃id,e1= .x id)∧l.bx y=(e1,bu l.m l.sx q1))∨(∃q1,(bC l.m l.sr s1).run=some q1∧e1= .r∧l.bx y=(e1,bu l.m l.sr q1)))→
    x.wpIn (FF rr) 0 P (Exit.then (fun a' w'=>∃g':Nat×Hs×List Nat,(It (l.stp rn f p x) g'.1 g'.2.1 y∧∃B' Y' Mo',(noR x=true→g'.2.2=[])∧Wd P E w0 X (g'.2.2++F) (bu l.m l.sp g'.2.1).H B' w' Y' Mo'∧FrT n0 a' (bu l.m l.sp g'.2.1).L (g'.2.2.map Gv.mark++D) B' (rd w' Y')∧BLe B B'∧Le (rd w Y) (rd w' Y'))∧g'.1<j) Q) a0 w1:=fun h1 hh=>by
   refine hrn _ _ _ _ _ _ c1 h1 E w0 X _ n0 a0 _ B1 w1 Y1 Mo1 rr _ hr1 g1 g2 fun a' w' B' Y' Mo' bs hbs k1 k2 k3 k4=>?_;have hbs':noR x=true→bs++bs0=[]:=fun e=>by rw[hbs e,hb1 e];rfl
   rcases hh with⟨q1,hq,rfl,j',rfl,hit'⟩ | ⟨q1,hq,⟨id,rfl⟩,hy⟩ | ⟨q1,hq,rfl,hy⟩
   ·obtain⟨B2,r1,r2,r3⟩:=fin hq k1 k2 (g3.trans k3);exact⟨(j',q1,bs++bs0),⟨hit',B2,Y',Mo',hbs',r1,r2,r3,g4.trans k4⟩,Nat.lt_succ_self j'⟩
   ·obtain⟨B2,r1,r2,r3⟩:=fin hq k1 k2 (g3.trans k3);rw[hy]at hA;exact hA a' w' B2 Y' Mo' (bs++bs0) (fun e=>hbs' (by simpa[noR]using e)) r1 r2 r3 (g4.trans k4)
   ·obtain⟨B2,r1,r2,r3⟩:=fin hq k1 k2 (g3.trans k3);rw[hy]at hA;exact hA a' w' B2 Y' Mo' (bs++bs0) (fun e=>hbs' (by simpa[noR]using e)) r1 r2 r3 (g4.trans k4)
  cases hit with
  | go h k=>
   obtain⟨e1,s1,h1,h2⟩:=st h;refine out h1 ?_;cases e1 with
   | n=>obtain⟨q1,r1,r2⟩:=zM h2;cases r2;exact .inl ⟨_,r1,rfl,_,rfl,k⟩
   | x id=>obtain⟨q1,r1,r2⟩:=zM h2;cases r2
   | r=>obtain⟨q1,r1,r2⟩:=zM h2;cases r2
   | p t=>cases h2
  | out h=>
   obtain⟨e1,s1,h1,h2⟩:=st h;refine out h1 ?_;cases e1 with
   | n=>obtain⟨q1,r1,r2⟩:=zM h2;cases r2
   | x id=>obtain⟨q1,r1,r2⟩:=zM h2;cases r2;exact .inr (.inl ⟨q1,r1,⟨id,rfl⟩,rfl⟩)
   | r=>obtain⟨q1,r1,r2⟩:=zM h2;cases r2;exact .inr (.inr ⟨q1,r1,rfl,rfl⟩)
   | p t=>cases h2
noncomputable def Lp.row(l:Lp)(h:Hs→DT (Ex×Hs))(s:S):DT (Ex×S):=bif Nat.beq l.m (ln s.H)then(bC l.m l.sp s).bind fun q=>(h q).bind fun y=> .ret (l.bx y)else .no
noncomputable def eqP:List Bool→List Bool→Bool
 | [],[]=>true
 | a::p,b::q=>zYm a b&&eqP p q
 | _,_=>false
theorem zTb:∀{p q:List Bool},eqP p q=true→p=q
 | [],[],_=>rfl
 | a::p,b::q,h=>by
  simp only[eqP,Bool.and_eq_true]at h;rw[zTb h.2];congr 1;cases a<;>cases b<;>first | rfl | cases h.1
noncomputable def loT:List (Nat×List Bool×(S→DT (Ex×S)))→Lo
 | [],_,_,_=>none
 | (g,p',h)::l,f,p,s=>bif Nat.beq g f&&eqP p' p then some (h s)else loT l f p s
theorem jG:rY P (loT []):=fun _ _ _ _ h=>by cases h
theorem yZ{t:List (Nat×List Bool×(S→DT (Ex×S)))}(ht:rY P (loT t)){h:Hs→DT (Ex×Hs)}(hrn:lQ P rn)(hc:cAt P f p=some (.loop x))(hh:∀q y,(h q).run=some y→∃n,It (l.stp rn f p x) n q y):rY P (loT ((f,p,l.row h)::t)):=by
 intro f' p' s d hd x' hx' e s' hrun;simp only[loT]at hd;cases hb:Nat.beq f f'&&eqP p p' with
 | false=>rw[hb,cond_false]at hd;exact ht f' p' s d hd x' hx' e s' hrun
 | true=>
  rw[hb,cond_true]at hd;cases hd;simp only[Bool.and_eq_true]at hb;obtain rfl:=qB hb.1;obtain rfl:=zTb hb.2;rw[hc]at hx';cases hx';unfold Lp.row at hrun;cases hm:Nat.beq l.m (ln s.H)with
  | false=>rw[hm]at hrun;cases hrun
  | true=>
   rw[hm,cond_true]at hrun;have hm:=qB hm;rw[qN]at hm;obtain⟨q,h1,h2⟩:=zM hrun;obtain⟨y,h3,h4⟩:=zM h2;obtain⟨n,hn⟩:=hh q y h3;have:=qLj hrn hc hm h1 hn;have e4:l.bx y=(e,s'):=Option.some.inj h4;rw[e4]at this;exact this
end
@[match_pattern] abbrev limsT:Ty:= .list .lim
@[match_pattern] abbrev jI:Ty:= .prod .bool (.prod (.list .lim) (.list .lim))
noncomputable def qWs(A:Ty):T→Option (List A.den)
 | .ls _ A' l=>wN A' A l
 | .v (.slice none 0 0)=>some []
 | .sl cs n=>bif gN A then(match nY (n*A.size) cs with
  | some us=>(match chk A (n+1) us with
   | some l=>(match zOw .a A l []with
    | some x=>bif Nat.beq (ln x) n then some x.reverse else none
    | none=>none)
   | none=>none)
  | none=>none)else none
 | _=>none
noncomputable def qJh:Ty→T→Option T
 | .list A,t=>(match qWs A t with
  | some l=>some (.ls .a A l)
  | none=>none)
 | .prod A B,.ag cs=>(match nG .a (.prod A B) cs with
  | some x=>some (.ag (cellsD .a (.prod A B) x))
  | none=>none)
 | .int k,.v (.int k' a)=>bif Nat.beq (kind k) (kind k')then some (.v (.int k' a))else none
 | .bool,.v (.bool b)=>some (.v (.bool b))
 | .str,.v (.string b)=>some (.v (.string b))
 | _,_=>none
noncomputable def zOp:List Ty→List T→Option (List T)
 | [],[]=>some []
 | A::As,t::ts=>(match qJh A t,zOp As ts with
  | some x,some r=>some (x::r)
  | _,_=>none)
 | _,_=>none
section
variable {P:Program}{B:Bm}{r:Rd}{f k:Nat}{az cz:List T}{tv:T}{nw:Bool}
theorem aA.of_flat{p:Nat→Prop}{g:Tg}{A:Ty}{x:List A.den}{vs:List Value}{b o c:Nat}(hg:∀(A:Ty)(l:List A.den)(v:Value),Rep B r (.ls g A l) v→qA r p (.list A) l [v])(hA:gN A=true)(h:zN B r (flatR g A x) vs)(hr:∀(j:Nat)(v:Value),vs[j]?=some v→r ⟨b,o+j,none⟩=some v)(hp:p b)(hc:x.length≤c)(hm:c≤maxLen):
  aA r p A.size (fun y us=>qA r p A y us) (some ⟨b,o,none⟩) c x.reverse:=by
 refine⟨by simpa using hc,hm,.inr ⟨b,o,rfl,hp,fun j y hy=>?_⟩⟩
 have hj:j<x.length:=by
  have:=(List.getElem?_eq_some_iff.1 hy).1;simpa using this
 have hlen:x.length*A.size=vs.length:=by
  have:=h.length;rwa[jV]at this
 have hj1:(j+1)*A.size≤x.length*A.size:=Nat.mul_le_mul_right _ hj;rw[Nat.add_mul,Nat.one_mul]at hj1;have hul:((vs.drop (j*A.size)).take A.size).length=A.size:=by
  rw[List.length_take,List.length_drop];omega
 have hget:∀(q:Nat)(v:Value),((vs.drop (j*A.size)).take A.size)[q]?=some v→vs[j*A.size+q]?=some v:=fun q v hq=>by
  rw[List.getElem?_take]at hq;split at hq
  ·rwa[List.getElem?_drop]at hq
  ·cases hq
 refine⟨(vs.drop (j*A.size)).take A.size,hul,?_,fun q v hq=>hr _ _ (hget q v hq)⟩;refine qA.of_reps (B2:=B) hg A hA y _ (zN.of (by rw[jB,hul]) fun q t v ht hv=>?_)
 have h4:=zCw g A x j y hy q t ht;obtain⟨v',h6,h7⟩:=h.get h4;rw[hget q v hv]at h6;cases h6;exact h7
theorem qNn{A:Ty}{t:T}{l:List A.den}{v:Value}(h:qWs A t=some l)(hR:Rep B r t v):Rep B r (.ls .a A l) v:=by
 unfold qWs at h;split at h
 ·obtain⟨rfl,he⟩:=lW h;obtain rfl:=eq_of_heq he;cases hR with
  | ls h1=>exact .ls (qA.mono (Le.refl _) (fun b _=>Bm.In.any) _ _ _ h1)
 ·cases h;obtain⟨rfl,_⟩:=hR.vI;exact .ls ⟨none,0,rfl,Nat.le_refl _,Nat.zero_le _,.inl rfl⟩
 ·rename_i cs n;cases hA:gN A with
  | false=>rw[hA]at h;cases h
  | true=>
   rw[hA,cond_true]at h;split at h
   ·rename_i us hu;split at h
    ·rename_i ch hch;split at h
     ·rename_i x hx;cases hn:Nat.beq (ln x) n with
      | false=>rw[hn]at h;cases h
      | true=>
       rw[hn,cond_true]at h;cases h;have hn:=qB hn;rw[qN]at hn;subst hn;have hb:=hR.dn;obtain⟨ad,c,rfl,hc,hh⟩:=hR.slI;have hm:=hR.slB;obtain⟨_,rfl⟩:=fG _ _ _ hu;have he:=chk_ok _ _ hch;rcases hh with⟨h0,rfl⟩ | ⟨b,o,rfl,hcl⟩
       ·have:=List.eq_nil_of_length_eq_zero h0;subst this;exact .ls ⟨ad,c,rfl,Nat.zero_le _,hm,.inl rfl⟩
       ·obtain⟨fv,g1,g2⟩:=hcl.fun;have hRs:zN B r (cs.take (x.length*A.size)) ((List.range (cs.take (x.length*A.size)).length).map fv):=zN.of (by simp) fun j t v e e'=>by
         rw[List.getElem?_map]at e';obtain⟨j',e1,rfl⟩:=Option.map_eq_some_iff.1 e';have hj:=(List.getElem?_eq_some_iff.1 e1);obtain⟨hj1,hj2⟩:=hj;rw[List.getElem_range]at hj2;subst hj2;rw[List.getElem?_take]at e;split at e
         ·exact g2 _ _ e
         ·cases e
        have hk:=zGa ch [] hx (by simpa[flatR,←he]using hRs)
        refine .ls ⟨some ⟨b,o,none⟩,c,by rw[List.length_reverse],aA.of_flat (g:= .a) (fun A l v h=>by cases h with | ls h=>exact h) hA hk.1 (fun j v hv=>?_) Bm.In.any hc hm⟩
        rw[List.getElem?_map]at hv;obtain⟨j',e1,rfl⟩:=Option.map_eq_some_iff.1 hv;obtain⟨hj1,hj2⟩:=List.getElem?_eq_some_iff.1 e1;rw[List.getElem_range]at hj2;subst hj2;have hj3:j<cs.length:=by
         have:j<(cs.take (x.length*A.size)).length:=by simpa using hj1
         exact Nat.lt_of_lt_of_le this (List.length_take_le' _ _)
        exact g1 j cs[j] (by simp[hj3])
     ·cases h
    ·cases h
   ·cases h
 ·cases h
theorem qJi{A:Ty}{t t':T}{v:Value}(h:qJh A t=some t')(hR:Rep B r t v):Rep B r t' v:=by
 unfold qJh at h;split at h
 ·split at h
  ·rename_i l hl;cases h;exact qNn hl hR
  ·cases h
 ·split at h
  ·rename_i A C cs x hx;cases h;obtain⟨vs,rfl,hvs⟩:=hR.agI;exact Rep.mkAg (lV _ hx hvs).1
  ·cases h
 ·rename_i k k' a;cases hk:Nat.beq (kind k) (kind k')with
  | false=>rw[hk]at h;cases h
  | true=>rw[hk]at h;cases h;exact hR
 ·cases h;exact hR
 ·cases h;exact hR
 ·cases h
theorem zOq:∀{As:List Ty}{az cz:List T}{vs:List Value},zOp As az=some cz→zN B r az vs→zN B r cz vs
 | [],[],cz,vs,h,hR=>by cases h;exact hR
 | A::As,t::ts,cz,v::vs,h,hR=>by
  simp only[zOp]at h;cases h1:qJh A t with
  | none=>simp[h1]at h
  | some x=>
   cases h2:zOp As ts with
   | none=>simp[h1,h2]at h
   | some rr=>
    simp only[h1,h2,Option.some.injEq]at h;subst h;exact⟨qJi h1 hR.1,zOq h2 hR.2⟩
 | [],_::_,_,_,h,_=>by cases h
 | _::_,[],_,_,h,_=>by cases h
 | _::_,_::_,_,[],_,hR=>hR.elim
theorem KnP.arg(h:KnP P k f cz tv nw)(ha:∀(B:Bm)(r:Rd)(vs:List Value),zN B r az vs→zN B r cz vs):KnP P k f az tv nw:=fun B w X qM R hI hk hX hR hK=>h B w X qM R hI hk hX (ha B _ _ hR) hK
noncomputable def odR(As:List Ty)(h:List T→DT (T×Bool))(az:List T):DT (T×Bool):=match zOp As az with
 | some cz=>h cz
 | none=> .no
noncomputable def odT:List (Nat×(List T→DT (T×Bool)))→Od
 | [],_=>none
 | (g,h)::l,f=>bif Nat.beq g f then some h else odT l f
theorem xU:vS P (odT []):=fun _ _ h=>by cases h
theorem zX{t:List (Nat×(List T→DT (T×Bool)))}{h:List T→DT (T×Bool)}(ht:vS P (odT t))(hh:∀az tv nw,(h az).run=some (tv,nw)→∀k,KnP P k f az tv nw):vS P (odT ((f,h)::t)):=by
 intro g h' e;simp only[odT]at e;cases hb:Nat.beq f g with
 | false=>rw[hb,cond_false]at e;exact ht g h' e
 | true=>rw[hb,cond_true]at e;cases e;obtain rfl:=qB hb;exact hh
theorem xK{As:List Ty}{h:List T→DT (T×Bool)}(hh:∀cz tv nw,(h cz).run=some (tv,nw)→∀k,KnP P k f cz tv nw):∀az tv nw,(odR As h az).run=some (tv,nw)→∀k,KnP P k f az tv nw:=fun az tv nw e k=>by
 unfold odR at e;split at e
 ·rename_i cz hc;exact(hh cz tv nw e k).arg fun B r vs hR=>zOq hc hR
 ·cases e
theorem xE{OD:Od}{LO:Lo}(hm:P.follows .mixedOrders=true)(hO:vS P OD)(hL:rY P LO){n:Nat}(h:((yU P (evD P OD LO n) f (cz.map (unN 12)) []).bind kM).run=some (tv,nw))(hc:(cz.all (clean 12)&&clean 12 tv)=true)(k:Nat):KnP P k f cz tv nw:=by
 obtain⟨⟨t,H1⟩,h1,h2⟩:=zM h;simp only[Bool.and_eq_true]at hc;exact(qDe (k:=0) hm (wZ hm hO hL n) h1 h2).clean hc.1 hc.2 k
noncomputable def zZk:T→Option (List Nat)
 | .ls _ .lim l=>some l
 | t=>zTq t
noncomputable def arX:T→Option Ar
 | .ag [.v (.bool b),x,y]=>(match zZk x,zZk y with
  | some l,some l2=>some (.r ⟨b,l,l2⟩)
  | _,_=>none)
 | t=>arT t
noncomputable def zSm:List T→Option (List Ar)
 | []=>some []
 | t::l=>match arX t,zSm l with
  | some a,some r=>some (a::r)
  | _,_=>none
noncomputable def unX:Ar→T
 | .r a=> .ag [.v (.bool a.neg),.ls .a .lim a.ln,.ls .a .lim a.ld]
 | .i n=> .v (.int .i64 n)
 | .b b=> .v (.bool b)
 | .s s=> .v (.string s)
noncomputable def qXp:Rs→T
 | .one a=>unX a
 | .tup l=> .tu (l.map unX)
variable {X:Hid}{w:World}
theorem qUm{g:Tg}{l:List Nat}{v:Value}(h:Rep B (rd w X) (.ls g .lim l) v):∃ad n c,v= .slice ad n c∧zL (rd w X) ad n c l:=by
 obtain⟨ad,c,rfl,hn,hm,hh⟩:=h.lsI;refine⟨ad,_,c,rfl,rfl,hn,hm,?_,?_⟩
 ·rcases hh with rfl | ⟨b,o,rfl,_,k⟩
  ·intro x hx;cases hx
  ·intro x hx;obtain⟨i,hi⟩:=List.getElem?_of_mem hx;obtain⟨vs,_,g2,_⟩:=k i x hi;exact g2.2
 ·rcases hh with rfl | ⟨b,o,rfl,_,k⟩
  ·exact .inl rfl
  ·refine .inr ⟨b,o,rfl,fun j v hv=>?_⟩;simp only[U32,List.getElem?_map]at hv;cases hx:l[j]? with
   | none=>rw[hx]at hv;cases hv
   | some x=>
    rw[hx]at hv;cases hv;obtain⟨vs,g1,g2,g3⟩:=k j x hx;obtain⟨rfl,_⟩:=g2;have:=g3 0 _ rfl;rw[qJ];have e:o+(j*Ty.lim.size+0)=o+j:=by show o+(j*1+0)=o+j;omega
    rwa[e]at this
theorem qEq{ad:Option Addr}{n c:Nat}{l:List Nat}(h:zL (rd w X) ad n c l):Rep B (rd w X) (.ls .a .lim l) (.slice ad n c):=by
 have e:=h.hlen;subst e;refine .ls ⟨ad,c,rfl,h.hcap,h.hbig,?_⟩;rcases h.hat with rfl | ⟨b,o,rfl,ha⟩
 ·exact .inl rfl
 ·refine .inr ⟨b,o,rfl,Bm.In.any,fun i x hx=>⟨[.int .u32 (.ofNat x)],rfl,⟨rfl,h.hlt x (List.mem_of_getElem? hx)⟩,fun j v hv=>?_⟩⟩;cases j with
  | succ j=>simp at hv
  | zero=>
   cases hv;have:=ha i (.int .u32 (.ofNat x)) (by simp only[U32,List.getElem?_map,hx];rfl)
   rw[qJ]at this;have e:o+(i*Ty.lim.size+0)=o+i:=by show o+(i*1+0)=o+i;omega
   rwa[e]
theorem zWo{t:T}{l:List Nat}{v:Value}(h:zZk t=some l)(hR:Rep B (rd w X) t v):∃ad n c,v= .slice ad n c∧zL (rd w X) ad n c l:=by
 unfold zZk at h;split at h
 ·cases h;exact qUm hR
 ·exact zMl h hR
theorem qSe{t:T}{a:Ar}{v:Value}(h:arX t=some a)(hR:Rep B (rd w X) t v):ArV X w a v:=by
 unfold arX at h;split at h
 ·rename_i b x y;cases h1:zZk x with
  | none=>simp[h1]at h
  | some l=>
   cases h2:zZk y with
   | none=>simp[h1,h2]at h
   | some l2=>
    simp only[h1,h2,Option.some.injEq]at h;subst h;obtain⟨vs,rfl,hvs⟩:=hR.agI;match vs,hvs with
    | [v1,v2,v3],⟨g1,g2,g3,_⟩=>
     obtain⟨rfl,_⟩:=g1.vI;obtain⟨a1,n1,c1,rfl,k1⟩:=zWo h1 g2;obtain⟨a2,n2,c2,rfl,k2⟩:=zWo h2 g3;exact⟨_,_,_,_,_,_,rfl,k1,k2⟩
 ·exact qBl h hR
theorem zLn:∀{ts:List T}{az:List Ar}{vs:List Value},zSm ts=some az→zN B (rd w X) ts vs→zSd X w az vs
 | [],az,[],h,_=>by simp[zSm]at h;subst h;trivial
 | t::ts,az,v::vs,h,hR=>by
  simp only[zSm]at h;cases h1:arX t with
  | none=>simp[h1]at h
  | some a=>
   cases h2:zSm ts with
   | none=>simp[h1,h2]at h
   | some r=>
    simp only[h1,h2,Option.some.injEq]at h;subst h;exact⟨qSe h1 hR.1,zLn h2 hR.2⟩
 | [],_,_::_,_,hR=>hR.elim
 | _::_,_,[],_,hR=>hR.elim
theorem qIj{a:Ar}{v:Value}(h:ArV X w a v):Rep B (rd w X) (unX a) v:=by
 cases a with
 | r a=>
  obtain⟨_,_,_,_,_,_,rfl,h1,h2⟩:=h;exact Rep.mkAg (vs:=[.bool a.neg,_,_]) ⟨.v rfl,qEq h1,qEq h2,trivial⟩
 | i n=>cases h;exact .v rfl
 | b b=>cases h;exact .v rfl
 | s s=>cases h;exact .v rfl
theorem zXy:∀{az:List Ar}{vs:List Value},zSd X w az vs→zN B (rd w X) (az.map unX) vs
 | [],[],_=>trivial
 | _::_,_::_,h=>⟨qIj h.1,zXy h.2⟩
 | [],_::_,h=>h.elim
 | _::_,[],h=>h.elim
theorem zXx{y:Rs}{v:Value}(h:RsV X w y v):Rep B (rd w X) (qXp y) v:=by
 cases y with
 | one a=>exact qIj h
 | tup l=>
  obtain⟨vs,rfl,h⟩:=h;exact Rep.mkTu (zXy h)
noncomputable def kcD(p:List Ar→Option Rs)(nw:Bool)(az:List T):DT (T×Bool):=match zSm az with
 | some az=>(ofO (p az)).bind fun y=> .ret (qXp y,nw)
 | none=> .no
theorem vG{p:List Ar→Option Rs}{nw nw':Bool}(hc:KC P f p nw):∀az tv,(kcD p nw az).run=some (tv,nw')→∀k,KnP P k f az tv nw':=by
 intro az tv h k;unfold kcD at h;split at h
 ·rename_i az2 h1;obtain⟨y,h2,h3⟩:=zM h;rw[xC]at h2;cases h3;intro B w X qM R _ _ hX hR hk;refine(hc w X hX az2 qM (zLn h1 hR) y h2).mono ?_;rintro e w' ⟨hu,v,rfl,hv⟩;exact hk v w' hu (zXx hv)
 ·cases h
end
noncomputable def us':Nat→List Sl
 | 0=>[]
 | n+1=> .u::us' n
noncomputable def lpc(P:Program)(f:Nat)(p:List Bool):Code:=match cAt P f p with
 | some (.loop x)=>x
 | _=> .skip
def fol{α γ:Type}(g:Nat→α→α⊕γ)(d:α→γ):Nat→Nat→α→γ
 | 0,_,a=>d a
 | k+1,i,a=>match g i a with
  | .inl b=>fol g d k (i+1) b
  | .inr y=>y
section
variable {P:Program}{f:Nat}
noncomputable def kcT(p:List Ar→DT Rs)(nw:Bool)(az:List T):DT (T×Bool):=match zSm az with
 | some az=>(p az).bind fun y=> .ret (qXp y,nw)
 | none=> .no
theorem zTl{p:List Ar→DT Rs}{nw:Bool}(hc:KC P f (fun az=>(p az).run) nw):∀az tv nw',(kcT p nw az).run=some (tv,nw')→∀k,KnP P k f az tv nw':=by
 intro az tv nw' h k;unfold kcT at h;split at h
 ·rename_i az2 h1;obtain⟨y,h2,h3⟩:=zM h;cases h3;intro B w X qM R _ _ hX hR hk;refine(hc w X hX az2 qM (zLn h1 hR) y h2).mono ?_;rintro e w' ⟨hu,v,rfl,hv⟩;exact hk v w' hu (zXx hv)
 ·cases h
end
theorem zW{a b:Nat}(h:a<b):Nat.blt a b=true:=by rw[Nat.blt_eq];exact h
theorem yF{a b:Nat}(h:b≤a):Nat.blt a b=false:=by
 cases e:Nat.blt a b with
 | false=>rfl
 | true=>rw[Nat.blt_eq]at e;omega
theorem kL{a b:Nat}(h:a≤b):Nat.ble a b=true:=by rw[Nat.ble_eq];exact h
theorem jW(a:Nat):Nat.beq a a=true:=Nat.beq_refl a
end Go.Ev
namespace Go.Ev
open Go Go.Gv Go.RowKit Go.ChangeShapes IntKind
def Ty.bts:Ty→Nat
 | .lim=>4
 | .int .i64=>8
 | .int .u64=>8
 | .int .i32=>4
 | .int .u32=>4
 | .int .i16=>2
 | .int .u16=>2
 | .int _=>1
 | .bool=>1
 | .str=>1
 | .list _=>24
 | .prod A B=>A.bts+B.bts
def fP:(A:Ty)→A.den→Prop
 | .lim,a=>a<4294967296
 | .int .i64,a=> -9223372036854775808≤a∧a≤9223372036854775807
 | .int _,_=>True
 | .bool,_=>True
 | .str,_=>True
 | .list A,l=>l.length*A.bts≤140737488351232∧∀x∈l,fP A x
 | .prod A B,x=>fP A x.1∧fP B x.2
mutual
inductive TyF (P:Program):Ty→TypeId→Prop
  | lim {t:TypeId} (h:P.underlying t=some (.int .u32)):TyF P .lim t
  | int {t:TypeId} {k:IntKind} (h:P.underlying t=some (.int k)):TyF P (.int k) t
  | bool {t:TypeId} (h:P.underlying t=some .bool):TyF P .bool t
  | list {t e:TypeId} {A:Ty} (h:P.underlying t=some (.slice e)) (hs:P.cellsOf e=A.size) (hb:A.bts≤P.bytesOf e) (he:TyF P A e):TyF P (.list A) t
  | arr {t e:TypeId} {n:Nat} {A:Ty} (h:P.underlying t=some (.array n e)) (hs:P.cellsOf t=A.size) (hf:ArF P A e n):TyF P A t
  | struct {t:TypeId} {A:Ty} {fs:Array Field} (h:P.underlying t=some (.struct fs)) (hs:P.cellsOf t=A.size) (hf:FsF P A 0 fs.toList):TyF P A t
inductive ArF (P:Program):Ty→TypeId→Nat→Prop
  | one {A:Ty} {e:TypeId} (hs:P.cellsOf e=A.size) (h:TyF P A e):ArF P A e 1
  | cons {A B:Ty} {e:TypeId} {n:Nat} (hs:P.cellsOf e=A.size) (h:TyF P A e) (hl:ArF P B e n):ArF P (.prod A B) e (n+1)
inductive FsF (P:Program):Ty→Nat→List Field→Prop
  | one {A:Ty} {off:Nat} {f:Field} (ho:f.offset=off) (hs:P.cellsOf f.type=A.size) (h:TyF P A f.type):FsF P A off [f]
  | cons {A B:Ty} {off:Nat} {f:Field} {l:List Field} (ho:f.offset=off) (hs:P.cellsOf f.type=A.size) (h:TyF P A f.type) (hl:FsF P B (off+A.size) l):FsF P (.prod A B) off (f::l)
end
section
variable {H:Type}{enc:TypeId×Value→H}{P:Program}{w:World}{spare:Nat→Bool}{held:Bool}
def Opn(enc:TypeId×Value→H)(P:Program)(w:World)(spare:Nat→Bool)(held:Bool)(A:Ty)(t:TypeId):Prop:=∀(n:Nat)(cs:List Value)(y:DataW H×List MemPlace),nC enc P w spare held n t cs y→∃x:A.den,fP A x∧qA (rd w X0) (fun _=>True) A x cs
def qAx(enc:TypeId×Value→H)(P:Program)(w:World)(spare:Nat→Bool)(held:Bool)(A:Ty)(off:Nat)(l:List Field):Prop:=∀(cs:List Value),cs.length=off+A.size→(∀f∈l,∃n y,nC enc P w spare held n f.type ((cs.drop f.offset).take (P.cellsOf f.type)) y)→∃x:A.den,fP A x∧qA (rd w X0) (fun _=>True) A x (cs.drop off)
theorem qMn{t:TypeId}(h:P.underlying t=some (.int .u32)):Opn enc P w spare held .lim t:=by
 intro n cs y k;obtain⟨z,rfl,_,hw⟩:=DataW.trod_int h k.1;have hz:0≤z∧z<4294967296:=by
  simp[Lit.wf,IntKind.min,IntKind.max,IntKind.signed,IntKind.bits]at hw;omega
 refine⟨z.toNat,show z.toNat<4294967296 by omega,?_,show z.toNat<4294967296 by omega⟩
 rw[Int.ofNat_eq_natCast,Int.toNat_of_nonneg hz.1]
theorem qMm{t:TypeId}{kk:IntKind}(h:P.underlying t=some (.int kk)):Opn enc P w spare held (.int kk) t:=by
 intro n cs y k';obtain⟨z,rfl,_,hw⟩:=DataW.trod_int h k'.1;refine⟨z,?_,rfl⟩;cases kk<;>first | trivial | skip
 simp[Lit.wf,IntKind.min,IntKind.max,IntKind.signed,IntKind.bits]at hw;exact⟨show -9223372036854775808≤z by omega,show z≤9223372036854775807 by omega⟩
theorem qFz{t:TypeId}(h:P.underlying t=some .bool):Opn enc P w spare held .bool t:=by
 intro n cs y k;obtain⟨b,rfl,_⟩:=DataW.trod_bool h k.1;exact⟨b,trivial,rfl⟩
theorem qGb{t e:TypeId}{A:Ty}(h:P.underlying t=some (.slice e))(hs:P.cellsOf e=A.size)(hb:A.bts≤P.bytesOf e)(ih:Opn enc P w spare held A e):Opn enc P w spare held (.list A) t:=by
 intro n cs y k;obtain⟨ad,len,cap,xs,rfl,hx,hl⟩:=qMk (α:=A.den) (El:=fun r a x=>fP A x∧∃us,us.length=A.size∧qA r (fun _=>True) A x us∧At r a us) (bts:=P.bytesOf e) h hs A.size_pos rfl (fun n cs y b off hz hcl hat=>by
  obtain⟨x,hv,hR⟩:=ih n cs y hz;exact⟨x,hv,cs,hcl,hR,hat⟩) k
 refine⟨xs,⟨?_,?_⟩,ad,cap,?_,?_⟩
 ·have:xs.length*A.bts≤xs.length*P.bytesOf e:=Nat.mul_le_mul_left _ hb;omega
 ·intro x hx';rcases hx.hat with rfl | ⟨b,off,_,ha⟩
  ·cases hx'
  ·obtain⟨i,hi⟩:=List.getElem?_of_mem hx';exact(ha i x hi).1
 ·rw[hx.hlen]
 ·refine⟨by rw[←hx.hlen];exact hx.hcap,hx.hbig,hx.hat.imp id fun⟨b,off,e,ha⟩=>⟨b,off,e,trivial,fun i x hi=>?_⟩⟩
  obtain⟨_,us,h1,h2,h3⟩:=ha i x hi;refine⟨us,h1,h2,fun j v hv=>?_⟩;have:=h3 j v hv;rwa[qJ,Nat.add_assoc]at this
theorem zUe{t:TypeId}{A:Ty}{fs:Array Field}(h:P.underlying t=some (.struct fs))(hs:P.cellsOf t=A.size)(ih:qAx enc P w spare held A 0 fs.toList):Opn enc P w spare held A t:=by
 intro n cs y k;have hl:=flen h k hs;obtain⟨x,hv,hR⟩:=ih cs (by rw[hl,Nat.zero_add]) fun f hf=>by
  obtain⟨i,hi⟩:=List.getElem?_of_mem hf;exact fld h k i (by simpa using hi) rfl
 exact⟨x,hv,by simpa using hR⟩
theorem qSf{t e:TypeId}{n fuel:Nat}{cs:List Value}{x:DataW H×List MemPlace}(ht:P.underlying t=some (.array n e))(h:nC enc P w spare held fuel t cs x)(i:Nat)(hi:i<n):
  ∃m y,nC enc P w spare held m e ((cs.drop (i*P.cellsOf e)).take (P.cellsOf e)) y:=by
 obtain⟨xs,m,_,hx,_,hl,hf⟩:=DataW.trod_array ht h.1;have:=hf i hi;refine⟨m,xs[i]'(by omega),this.trans (List.getElem?_eq_getElem _),fun b off hm=>h.2.1 b off ?_,fun k hk=>h.2.2 k ?_⟩
 ·rw[hx];exact List.mem_flatMap.2 ⟨_,List.getElem_mem _,hm⟩
 ·rw[hx];simp only[DataW.weights,ht];exact qXt (d:=(xs[i]'(by omega)).1) hk (List.mem_map.2 ⟨_,List.getElem_mem _,rfl⟩)
def qAw(enc:TypeId×Value→H)(P:Program)(w:World)(spare:Nat→Bool)(held:Bool)(A:Ty)(e:TypeId)(n:Nat):Prop:=∀(cs:List Value),cs.length=A.size→(∀i,i<n→∃m y,nC enc P w spare held m e ((cs.drop (i*P.cellsOf e)).take (P.cellsOf e)) y)→∃x:A.den,fP A x∧qA (rd w X0) (fun _=>True) A x cs
theorem qMl{t e:TypeId}{n:Nat}{A:Ty}(h:P.underlying t=some (.array n e))(hs:P.cellsOf t=A.size)(ih:qAw enc P w spare held A e n):Opn enc P w spare held A t:=by
 intro m cs y k;obtain⟨_,_,_,_,hl,_⟩:=DataW.trod_array h k.1;exact ih cs (hl.trans hs) fun i hi=>qSf h k i hi
theorem qFy{A:Ty}{e:TypeId}(hs:P.cellsOf e=A.size)(ih:Opn enc P w spare held A e):qAw enc P w spare held A e 1:=by
 intro cs hl hf;obtain⟨m,y,k⟩:=hf 0 Nat.one_pos;rw[Nat.zero_mul,List.drop_zero,hs,List.take_of_length_le (by omega)]at k
 exact ih m _ y k
theorem zZp{A1 B1:Ty}{e:TypeId}{n:Nat}(hs:P.cellsOf e=A1.size)(ih:Opn enc P w spare held A1 e)(ih2:qAw enc P w spare held B1 e n):qAw enc P w spare held (.prod A1 B1) e (n+1):=by
 intro cs hl hf;obtain⟨m,y,k⟩:=hf 0 (Nat.succ_pos n);rw[Nat.zero_mul,List.drop_zero,hs]at k;obtain⟨x,hv,hR⟩:=ih m _ y k;have hl':cs.length=A1.size+B1.size:=hl;obtain⟨x2,hv2,hR2⟩:=ih2 (cs.drop A1.size) (by rw[List.length_drop];omega) fun i hi=>by
  obtain⟨m,y,k⟩:=hf (i+1) (Nat.succ_lt_succ hi);rw[hs,Nat.add_mul,Nat.one_mul,Nat.add_comm]at k;exact⟨m,y,by rw[hs,List.drop_drop];exact k⟩
 exact⟨(x,x2),⟨hv,hv2⟩,cs.take A1.size,cs.drop A1.size,(List.take_append_drop _ _).symm,hR,hR2⟩
theorem qMo{A:Ty}{off:Nat}{f:Field}(ho:f.offset=off)(hs:P.cellsOf f.type=A.size)(ih:Opn enc P w spare held A f.type):qAx enc P w spare held A off [f]:=by
 intro cs hl hf;obtain⟨n,y,k⟩:=hf _ List.mem_cons_self;obtain⟨x,hv,hR⟩:=ih n _ y k;refine⟨x,hv,?_⟩;rw[ho,hs,List.take_of_length_le (by rw[List.length_drop];omega)]at hR
 exact hR
theorem qGa{A1 B1:Ty}{off:Nat}{f:Field}{l:List Field}(ho:f.offset=off)(hs:P.cellsOf f.type=A1.size)(ih:Opn enc P w spare held A1 f.type)(ih2:qAx enc P w spare held B1 (off+A1.size) l):qAx enc P w spare held (.prod A1 B1) off (f::l):=by
 intro cs hl hf;obtain⟨n,y,k⟩:=hf _ List.mem_cons_self;obtain⟨x,hv,hR⟩:=ih n _ y k;obtain⟨x2,hv2,hR2⟩:=ih2 cs (by rw[hl];show off+(A1.size+B1.size)=_;omega) fun f hf'=>hf f (List.mem_cons_of_mem _ hf')
 refine⟨(x,x2),⟨hv,hv2⟩,(cs.drop off).take A1.size,(cs.drop off).drop A1.size,(List.take_append_drop _ _).symm,?_,?_⟩
 ·rw[ho,hs]at hR;exact hR
 ·rw[List.drop_drop];exact hR2
theorem TyF.open{A:Ty}{t:TypeId}(h:TyF P A t):Opn enc P w spare held A t:=
 TyF.rec (motive_1:=fun A t _=>Opn enc P w spare held A t) (motive_2:=fun A e n _=>qAw enc P w spare held A e n) (motive_3:=fun A off l _=>qAx enc P w spare held A off l) (fun h=>qMn h) (fun h=>qMm h) (fun h=>qFz h) (fun h hs hb _ ih=>qGb h hs hb ih) (fun h hs _ ih=>qMl h hs ih) (fun h hs _ ih=>zUe h hs ih) (fun hs _ ih=>qFy hs ih) (fun hs _ _ ih ih2=>zZp hs ih ih2) (fun ho hs _ ih=>qMo ho hs ih) (fun ho hs _ _ ih ih2=>qGa ho hs ih ih2) h
end
section
variable {H:Type}{enc:TypeId×Value→H}{P:Program}{w:World}{spare:Nat→Bool}{held:Bool}
theorem zXd{t e:TypeId}{A:Ty}{v:Value}{d:DataW H}{ps:List MemPlace}{r:Reach}{base:Nat}(ht:P.underlying t=some (.slice e))(hF:TyF P (.list A) t)(hok:Value.okWide P w r base t v)(h:DataW.Trod enc P w 0 spare held t v d ps)(hz:w.noneFrozen ps)(hw:∀n∈d.weights P t,n≤140737488351232)(B:Bm):
  ∃x:List A.den,fP (.list A) x∧Rep B (rd w X0) (.ls .a A x) v:=by
 obtain⟨a,len,cap,rfl⟩:=Go.WideShapes.okWide_slice ht hok;obtain⟨n,h⟩:=h;have h:nC enc P w spare held n t _ _:=⟨h,hz,hw⟩;simp only[Value.cells]at h;obtain⟨x,hv,hR⟩:=TyF.open hF n _ _ h;exact⟨x,hv,.ls (qA.mono (Le.refl _) (fun _ _=>Bm.In.any) _ _ _ hR)⟩
theorem qMj{t:TypeId}{A:Ty}{v:Value}{d:DataW H}{ps:List MemPlace}{r:Reach}{base:Nat}(ht:(∃fs,P.underlying t=some (.struct fs))∨∃n e,P.underlying t=some (.array n e))(hF:TyF P A t)(hok:Value.okWide P w r base t v)(h:DataW.Trod enc P w 0 spare held t v d ps)(hz:w.noneFrozen ps)(hw:∀n∈d.weights P t,n≤140737488351232)(B:Bm):
  ∃x:A.den,fP A x∧Rep B (rd w X0) (.ag (cellsD .a A x)) v:=by
 have hv:∃cs,v= .agg cs:=by
  rcases ht with⟨fs,ht⟩ | ⟨n,e,ht⟩<;>(simp only[Value.okWide,ht]at hok;obtain⟨cs,h1,_⟩:=hok;exact⟨cs,h1⟩)
 obtain⟨cs,rfl⟩:=hv;obtain⟨n,h⟩:=h;have h:nC enc P w spare held n t _ _:=⟨h,hz,hw⟩;simp only[Value.cells]at h;obtain⟨x,hv,hR⟩:=TyF.open hF n _ _ h;refine⟨x,hv,?_⟩;have:=Rep.mkAg (B:=B) (r:=rd w X0) (qA.reps (g:= .a) A x cs.toList (qA.mono (Le.refl _) (fun _ _=>Bm.In.any) _ _ _ hR));simpa using this
end
end Go.Ev
namespace Go.Proofs.YtdfmdiakjdggbaaGreatDoor
open Go Go.Gv Go.Ev Go.RowKit IntKind
theorem kAdd:KC Tryz.prog 34 (pRR fun a b=>some (opR a b (a.rat+b.rat),opE a b (a.rat+b.rat))) true:=zWi fun w X hX a va ha b vb hb y hy=>by
 obtain⟨_,_,_,_,_,_,rfl,h1,h2⟩:=ha;obtain⟨_,_,_,_,_,_,rfl,h3,h4⟩:=hb;cases hy;exact qWe w X hX a _ _ _ h1 _ _ _ h2 b _ _ _ h3 _ _ _ h4
theorem kMul:KC Tryz.prog 49 (pRR fun a b=>some (opR a b (a.rat*b.rat),opE a b (a.rat*b.rat))) true:=zWi fun w X hX a va ha b vb hb y hy=>by
 obtain⟨_,_,_,_,_,_,rfl,h1,h2⟩:=ha;obtain⟨_,_,_,_,_,_,rfl,h3,h4⟩:=hb;cases hy;exact qWh w X hX a _ _ _ h1 _ _ _ h2 b _ _ _ h3 _ _ _ h4
theorem kSub:KC Tryz.prog 48 (pRR fun a b=>some (opR a b (a.rat-b.rat),opE a b (a.rat-b.rat))) true:=zWi fun w X hX a va ha b vb hb y hy=>by
 obtain⟨_,_,_,_,_,_,rfl,h1,h2⟩:=ha;obtain⟨_,_,_,_,_,_,rfl,h3,h4⟩:=hb;cases hy;exact qWj w X hX a _ _ _ h1 _ _ _ h2 b _ _ _ h3 _ _ _ h4
theorem kDiv:KC Tryz.prog 80 (pRR fun a b=>bif Nat.beq (val b.ln) 0 then none else some (opR a b (a.rat / b.rat),opE a b (a.rat / b.rat))) true:=zWi fun w X hX a va ha b vb hb y hy=>by
 obtain⟨_,_,_,_,_,_,rfl,h1,h2⟩:=ha;obtain⟨_,_,_,_,_,_,rfl,h3,h4⟩:=hb;cases h0:Nat.beq (val b.ln) 0 with
 | true=>simp[h0]at hy
 | false=>
  simp only[h0,cond_false]at hy;cases hy;exact qWg w X hX a _ _ _ h1 _ _ _ h2 b _ _ _ h3 _ _ _ h4 (fun e=>by rw[e]at h0;cases h0)
theorem kCmp:KC Tryz.prog 33 (pRI fun a b=>(vP a b,mO a b)) true:=qYv fun w X hX a va ha b vb hb=>by
 obtain⟨_,_,_,_,_,_,rfl,h1,h2⟩:=ha;obtain⟨_,_,_,_,_,_,rfl,h3,h4⟩:=hb;exact qWf w X hX a _ _ _ h1 _ _ _ h2 b _ _ _ h3 _ _ _ h4
theorem kChk:KC Tryz.prog 75 (pR Raw.chk) true:=kc_r fun w X hX a va ha=>by
 obtain⟨_,_,_,_,_,_,rfl,h1,h2⟩:=ha;exact vM w X hX a _ _ _ h1 _ _ _ h2
theorem qPt:KC Tryz.prog 73 (pR Raw.chk) true:=kc_r fun w X hX a va ha=>by
 obtain⟨_,_,_,_,_,_,rfl,h1,h2⟩:=ha;exact zDo w X hX a _ _ _ h1 _ _ _ h2
theorem qPv:KC Tryz.prog 47 (pI fun n=>Raw.of (n:Rat)) true:=kc_i fun w n h1 h2=>qNf w (old w) (fun k _ h=>h) n h1 h2
theorem qEb:KC Tryz.prog 51 (pI fun n=>Raw.of (n:Rat)) true:=kc_i fun w n h1 h2=>qHi w (old w) (fun k _ h=>h) n h1 h2
theorem kOf:KC Tryz.prog 126 (pII fun n m=>Raw.of (mkRat (sgn (!(decide (n<0)==decide (m<0))) n.natAbs) m.natAbs)) true:=qPw fun w n m h1 h2 h3 h4 h5=>qZh w (old w) (fun k _ h=>h) n m h1 h2 h3 h4 h5
theorem kOf6:KC Tryz.prog 53 (pII fun n m=>Raw.of (mkRat (sgn (decide (n<0)!=decide (m<0)) n.natAbs) m.natAbs)) true:=qPw fun w n m h1 h2 h3 h4 h5=>qWi w (old w) (fun k _ h=>h) n m h1 h2 h3 h4 h5
theorem kEq:KC Tryz.prog 37 (pB fun a b=>decide (a=b)) true:=kc_b fun w X hX a va ha b vb hb=>by
 obtain⟨_,_,_,_,_,_,rfl,h1,h2⟩:=ha;obtain⟨_,_,_,_,_,_,rfl,h3,h4⟩:=hb;exact zSe w X hX a _ _ _ h1 _ _ _ h2 b _ _ _ h3 _ _ _ h4
noncomputable def zTx:List (Nat×(List T→Option (T×Bool))):=[(34,kcE (pRR fun a b=>some (opR a b (a.rat+b.rat),opE a b (a.rat+b.rat))) true),(49,kcE (pRR fun a b=>some (opR a b (a.rat*b.rat),opE a b (a.rat*b.rat))) true),(48,kcE (pRR fun a b=>some (opR a b (a.rat-b.rat),opE a b (a.rat-b.rat))) true),(80,kcE (pRR fun a b=>bif Nat.beq (val b.ln) 0 then none else some (opR a b (a.rat / b.rat),opE a b (a.rat / b.rat))) true),(33,kcE (pRI fun a b=>(vP a b,mO a b)) true),(75,kcE (pR Raw.chk) true),(73,kcE (pR Raw.chk) true),(47,kcE (pI fun n=>Raw.of (n:Rat)) true),(51,kcE (pI fun n=>Raw.of (n:Rat)) true),(126,kcE (pII fun n m=>Raw.of (mkRat (sgn (!(decide (n<0)==decide (m<0))) n.natAbs) m.natAbs)) true),(53,kcE (pII fun n m=>Raw.of (mkRat (sgn (decide (n<0)!=decide (m<0)) n.natAbs) m.natAbs)) true),(37,kcE (pB fun a b=>decide (a=b)) true)]
theorem qVb:qI Tryz.prog (xD zTx):=qIc fun g p hm ts tv nw h k=>by
 simp only[zTx,List.mem_cons,List.not_mem_nil,or_false,Prod.mk.injEq]at hm;rcases hm with⟨rfl,rfl⟩ | ⟨rfl,rfl⟩ | ⟨rfl,rfl⟩ | ⟨rfl,rfl⟩ | ⟨rfl,rfl⟩ | ⟨rfl,rfl⟩ | ⟨rfl,rfl⟩ | ⟨rfl,rfl⟩ | ⟨rfl,rfl⟩ | ⟨rfl,rfl⟩ | ⟨rfl,rfl⟩ | ⟨rfl,rfl⟩
 ·exact lN kAdd h k
 ·exact lN kMul h k
 ·exact lN kSub h k
 ·exact lN kDiv h k
 ·exact lN kCmp h k
 ·exact lN kChk h k
 ·exact lN qPt h k
 ·exact lN qPv h k
 ·exact lN qEb h k
 ·exact lN kOf h k
 ·exact lN kOf6 h k
 ·exact lN kEq h k
end Go.Proofs.YtdfmdiakjdggbaaGreatDoor
namespace Go.Proofs.YtdfmdiakjdggbaaGreatDoor
open Go Go.RowKit Go.Shelf IntKind
set_option maxRecDepth 100000
set_option maxHeartbeats 1000000
def qPg:Go.Shelf.Ren:=⟨fun | 166=>201 | 240=>257 | 276=>276 | n=>n,fun | 0=>0 | 3=>3 | 4=>4 | 5=>5 | 9=>9 | 20=>20 | 37=>99 | 70=>257 | 72=>259 | 75=>261 | 80=>266 | 164=>329 | n=>n,fun n=>n⟩
theorem qSj:Go.Proofs.Lays.n166 Tryz.prog qPg:={mixed:=by kernel_rfl,f166:=Tryz.func201.trans (congrArg some (by kernel_rfl)),f240:=Tryz.func257.trans (congrArg some (by kernel_rfl)),f276:=Tryz.func276.trans (congrArg some (by kernel_rfl)),t0:=Tryz.underlying0,a0:=Tryz.isAgg0,z0:=Tryz.sizeOf0,v0:=Tryz.zeroValue0,t3:=Tryz.underlying3,a3:=Tryz.isAgg3,z3:=Tryz.sizeOf3,v3:=Tryz.zeroValue3,t4:=Tryz.underlying4,a4:=Tryz.isAgg4,z4:=Tryz.sizeOf4,v4:=Tryz.zeroValue4,t9:=Tryz.underlying9,a9:=Tryz.isAgg9,z9:=Tryz.sizeOf9,v9:=Tryz.zeroValue9,t20:=Tryz.underlying20,a20:=Tryz.isAgg20,z20:=Tryz.sizeOf20,v20:=Tryz.zeroValue20,t37:=Tryz.underlying99,a37:=Tryz.isAgg99,z37:=Tryz.sizeOf99,v37:=Tryz.zeroValue99,t70:=Tryz.underlying257,a70:=Tryz.isAgg257,z70:=Tryz.sizeOf257,v70:=Tryz.zeroValue257,t72:=Tryz.underlying259,a72:=Tryz.isAgg259,z72:=Tryz.sizeOf259,v72:=Tryz.zeroValue259,t75:=Tryz.underlying261,a75:=Tryz.isAgg261,z75:=Tryz.sizeOf261,v75:=Tryz.zeroValue261,t164:=Tryz.underlying329,a164:=Tryz.isAgg329,z164:=Tryz.sizeOf329,v164:=Tryz.zeroValue329}
def qPf:Go.Shelf.Ren:=⟨fun | 167=>203 | 240=>257 | 276=>276 | n=>n,fun | 0=>0 | 3=>3 | 4=>4 | 5=>5 | 9=>9 | 20=>20 | 37=>99 | 70=>257 | 72=>259 | 75=>261 | 80=>266 | 164=>329 | n=>n,fun n=>n⟩
theorem qSg:Go.Proofs.Lays.n167 Tryz.prog qPf:={mixed:=by kernel_rfl,f167:=Tryz.func203.trans (congrArg some (by kernel_rfl)),f240:=Tryz.func257.trans (congrArg some (by kernel_rfl)),f276:=Tryz.func276.trans (congrArg some (by kernel_rfl)),t0:=Tryz.underlying0,a0:=Tryz.isAgg0,z0:=Tryz.sizeOf0,v0:=Tryz.zeroValue0,t4:=Tryz.underlying4,a4:=Tryz.isAgg4,z4:=Tryz.sizeOf4,v4:=Tryz.zeroValue4,t5:=Tryz.underlying5,a5:=Tryz.isAgg5,z5:=Tryz.sizeOf5,v5:=Tryz.zeroValue5,t9:=Tryz.underlying9,a9:=Tryz.isAgg9,z9:=Tryz.sizeOf9,v9:=Tryz.zeroValue9,t20:=Tryz.underlying20,a20:=Tryz.isAgg20,z20:=Tryz.sizeOf20,v20:=Tryz.zeroValue20,t37:=Tryz.underlying99,a37:=Tryz.isAgg99,z37:=Tryz.sizeOf99,v37:=Tryz.zeroValue99,t70:=Tryz.underlying257,a70:=Tryz.isAgg257,z70:=Tryz.sizeOf257,v70:=Tryz.zeroValue257,t72:=Tryz.underlying259,a72:=Tryz.isAgg259,z72:=Tryz.sizeOf259,v72:=Tryz.zeroValue259,t75:=Tryz.underlying261,a75:=Tryz.isAgg261,z75:=Tryz.sizeOf261,v75:=Tryz.zeroValue261,t164:=Tryz.underlying329,a164:=Tryz.isAgg329,z164:=Tryz.sizeOf329,v164:=Tryz.zeroValue329}
def qPh:Go.Shelf.Ren:=⟨fun | 169=>204 | n=>n,fun | 70=>257 | 9=>9 | 0=>0 | 72=>259 | 37=>99 | 127=>313 | 3=>3 | 5=>5 | n=>n,fun n=>n⟩
theorem qSk:Go.Proofs.Lays.n169 Tryz.prog qPh:={mixed:=by kernel_rfl,f169:=Tryz.func204.trans (congrArg some (by kernel_rfl)),t0:=Tryz.underlying0,a0:=Tryz.isAgg0,z0:=Tryz.sizeOf0,v0:=Tryz.zeroValue0,t3:=Tryz.underlying3,a3:=Tryz.isAgg3,z3:=Tryz.sizeOf3,v3:=Tryz.zeroValue3,t9:=Tryz.underlying9,a9:=Tryz.isAgg9,z9:=Tryz.sizeOf9,v9:=Tryz.zeroValue9,t37:=Tryz.underlying99,a37:=Tryz.isAgg99,z37:=Tryz.sizeOf99,v37:=Tryz.zeroValue99,t70:=Tryz.underlying257,a70:=Tryz.isAgg257,z70:=Tryz.sizeOf257,v70:=Tryz.zeroValue257,t72:=Tryz.underlying259,a72:=Tryz.isAgg259,z72:=Tryz.sizeOf259,v72:=Tryz.zeroValue259,t127:=Tryz.underlying313,a127:=Tryz.isAgg313,z127:=Tryz.sizeOf313,v127:=Tryz.zeroValue313}
def qYh:Go.Shelf.Ren:=⟨fun | 171=>202 | 243=>258 | 246=>277 | 283=>290 | 284=>291 | 285=>292 | 286=>293 | 129=>310 | 317=>311 | 318=>312 | 319=>313 | 320=>314 | 337=>320 | 338=>321 | n=>n,fun | 3=>3 | 9=>9 | 2=>2 | 4=>4 | 171=>341 | 0=>0 | 53=>226 | 37=>99 | 5=>5 | 173=>344 | 212=>358 | 51=>214 | 20=>20 | 213=>359 | 46=>185 | 232=>369 | 233=>370 | n=>n,fun | 17=>0 | 18=>1 | 19=>2 | n=>n⟩
theorem qSh:Go.Proofs.LaysM.n171 Tryz.prog qYh:={mixed:=by kernel_rfl,f129:=Tryz.func310.trans (congrArg some (by kernel_rfl)),f171:=Tryz.func202.trans (congrArg some (by kernel_rfl)),f243:=Tryz.func258.trans (congrArg some (by kernel_rfl)),f246:=Tryz.func277.trans (congrArg some (by kernel_rfl)),f283:=Tryz.func290.trans (congrArg some (by kernel_rfl)),f284:=Tryz.func291.trans (congrArg some (by kernel_rfl)),f285:=Tryz.func292.trans (congrArg some (by kernel_rfl)),f286:=Tryz.func293.trans (congrArg some (by kernel_rfl)),f317:=Tryz.func311.trans (congrArg some (by kernel_rfl)),f318:=Tryz.func312.trans (congrArg some (by kernel_rfl)),f319:=Tryz.func313.trans (congrArg some (by kernel_rfl)),f320:=Tryz.func314.trans (congrArg some (by kernel_rfl)),f337:=Tryz.func320.trans (congrArg some (by kernel_rfl)),f338:=Tryz.func321.trans (congrArg some (by kernel_rfl)),t0:=Tryz.underlying0,a0:=Tryz.isAgg0,z0:=Tryz.sizeOf0,v0:=Tryz.zeroValue0,t2:=Tryz.underlying2,a2:=Tryz.isAgg2,z2:=Tryz.sizeOf2,v2:=Tryz.zeroValue2,t3:=Tryz.underlying3,a3:=Tryz.isAgg3,z3:=Tryz.sizeOf3,v3:=Tryz.zeroValue3,t4:=Tryz.underlying4,a4:=Tryz.isAgg4,z4:=Tryz.sizeOf4,v4:=Tryz.zeroValue4,t5:=Tryz.underlying5,a5:=Tryz.isAgg5,z5:=Tryz.sizeOf5,v5:=Tryz.zeroValue5,t9:=Tryz.underlying9,a9:=Tryz.isAgg9,z9:=Tryz.sizeOf9,v9:=Tryz.zeroValue9,t20:=Tryz.underlying20,a20:=Tryz.isAgg20,z20:=Tryz.sizeOf20,v20:=Tryz.zeroValue20,t37:=Tryz.underlying99,a37:=Tryz.isAgg99,z37:=Tryz.sizeOf99,v37:=Tryz.zeroValue99,t46:=Tryz.underlying185,a46:=Tryz.isAgg185,z46:=Tryz.sizeOf185,v46:=Tryz.zeroValue185,t51:=Tryz.underlying214,a51:=Tryz.isAgg214,z51:=Tryz.sizeOf214,v51:=Tryz.zeroValue214,t53:=Tryz.underlying226,a53:=Tryz.isAgg226,z53:=Tryz.sizeOf226,v53:=Tryz.zeroValue226,t171:=Tryz.underlying341,a171:=Tryz.isAgg341,z171:=Tryz.sizeOf341,v171:=Tryz.zeroValue341,t173:=Tryz.underlying344,a173:=Tryz.isAgg344,z173:=Tryz.sizeOf344,v173:=Tryz.zeroValue344,t212:=Tryz.underlying358,a212:=Tryz.isAgg358,z212:=Tryz.sizeOf358,v212:=Tryz.zeroValue358,t213:=Tryz.underlying359,a213:=Tryz.isAgg359,z213:=Tryz.sizeOf359,t232:=Tryz.underlying369,a232:=Tryz.isAgg369,z232:=Tryz.sizeOf369,v232:=Tryz.zeroValue369,t233:=Tryz.underlying370,a233:=Tryz.isAgg370,z233:=Tryz.sizeOf370,v233:=Tryz.zeroValue370,g17:=by kernel_rfl,g18:=by kernel_rfl,g19:=by kernel_rfl,i0:=by kernel_rfl,i2:=by kernel_rfl,i3:=by kernel_rfl,i4:=by kernel_rfl,i5:=by kernel_rfl,i9:=by kernel_rfl,i20:=by kernel_rfl,i37:=by kernel_rfl,i46:=by kernel_rfl,i51:=by kernel_rfl,i53:=by kernel_rfl,i171:=by kernel_rfl,i173:=by kernel_rfl,i212:=by kernel_rfl,i232:=by kernel_rfl,i233:=by kernel_rfl,m17:=by kernel_rfl,m18:=by kernel_rfl,m19:=by kernel_rfl}
theorem bSX:Builder.Extra Tryz.prog qPg:={sizeBuilder:=by kernel_rfl,liesBuilder:=by kernel_rfl,t5:=Tryz.underlying5,a5:=Tryz.isAgg5,z5:=Tryz.sizeOf5,v5:=Tryz.zeroValue5,infoByte:=by kernel_rfl,cellsByte:=by kernel_rfl,sizeByte:=by kernel_rfl,neB5:=by decide}
theorem bBX:Builder.Extra Tryz.prog qPf:={sizeBuilder:=by kernel_rfl,liesBuilder:=by kernel_rfl,t5:=Tryz.underlying5,a5:=Tryz.isAgg5,z5:=Tryz.sizeOf5,v5:=Tryz.zeroValue5,infoByte:=by kernel_rfl,cellsByte:=by kernel_rfl,sizeByte:=by kernel_rfl,neB5:=by decide}
theorem bTX:Builder.Extra Tryz.prog qPh:={sizeBuilder:=by kernel_rfl,liesBuilder:=by kernel_rfl,t5:=Tryz.underlying5,a5:=Tryz.isAgg5,z5:=Tryz.sizeOf5,v5:=Tryz.zeroValue5,infoByte:=by kernel_rfl,cellsByte:=by kernel_rfl,sizeByte:=by kernel_rfl,neB5:=by decide}
theorem zJc(B b:Nat)(bs:List Value)(s:ByteArray)(w:World)(h:Lib.IsBuilder 259 5 B b bs w)(hlen:bs.length+s.size≤140737488355328)(hBw:B≤w.heap.size):
  Calls Tryz.prog 201 #[.pointer (some ⟨b,0,none⟩),.string s] w fun e w'=>e= .returned (.tuple #[.int .i64 s.size,.nilIface])∧(Lib.BuilderAt 259 5 B b (.pointer (some ⟨b,0,none⟩)) (bs++Lib.strCells s) w'∧Below B w w'):=Any.Builder_WriteString qSj bSX B b bs s w h hlen hBw
theorem zRy(B b:Nat)(bs:List Value)(c:Int)(w:World)(h:Lib.IsBuilder 259 5 B b bs w)(hlen:bs.length+1≤140737488355328)(hBw:B≤w.heap.size):
  Calls Tryz.prog 203 #[.pointer (some ⟨b,0,none⟩),.int .u8 c] w fun e w'=>e= .returned .nilIface∧(Lib.BuilderAt 259 5 B b (.pointer (some ⟨b,0,none⟩)) (bs++[.int .u8 c]) w'∧Below B w w'):=Any.Builder_WriteByte qSg bBX B b bs c w h hlen hBw
theorem qHx(B b:Nat)(l:List UInt8)(w:World)(h:Lib.IsBuilder 259 5 B b (Lib.byteCells l) w)(hBw:B≤w.heap.size):
  Calls Tryz.prog 204 #[.pointer (some ⟨b,0,none⟩)] w fun e w'=>e= .returned (.string ⟨l.toArray⟩)∧Below B w w':=Any.Builder_String_any qSk bTX B b l w h hBw
theorem qUb(i:Int)(h0: -9223372036854775808≤i)(h1:i≤9223372036854775807)(w:World)(ht:Lib.TabIs Tryz.prog w "internal/strconv.uint64pow10" .u64 Lib.pow10Tab):Calls Tryz.prog 202 #[.int .i64 i] w fun e w'=>e= .returned (.string ⟨(Lib.itoa i).toArray⟩)∧∃k os,w'=Sort.grow (w.drewN k) os:=Any.strconv_Itoa qSh i h0 h1 w ht
theorem qQn:Tryz.prog.globalNamed "internal/strconv.uint64pow10" =some 0:=by kernel_rfl
theorem qNa{l:List (String×DataW Unit)}{W:World}(h:laidMetH Tryz.prog l W)(hf:l.filter (fun x=>x.1== "internal/strconv.uint64pow10")=[("internal/strconv.uint64pow10",Lib.tabData .u64 Lib.pow10Tab)]):Lib.TabIs Tryz.prog W "internal/strconv.uint64pow10" .u64 Lib.pow10Tab:=by
 have h1:=h.filter fun x=>x.1== "internal/strconv.uint64pow10";rw[hf,MakeChecks.laidMetH_plain _ _ _ (by kernel_rfl)]at h1
 exact Lib.tabIs_of_head (rest:=[]) qQn (by kernel_rfl) Tryz.underlying358 Tryz.underlying185 (by kernel_rfl) (by kernel_rfl) h1
end Go.Proofs.YtdfmdiakjdggbaaGreatDoor
namespace Go.Proofs.YtdfmdiakjdggbaaGreatDoor
open Go Go.RowKit IntKind
def qJx:Nat→Nat→List UInt8
 | 0,_=>[]
 | n+1,x=>bif Nat.blt x 10 then[UInt8.ofNat (48+x)]else qJx n (x / 10)++[UInt8.ofNat (48+x % 10)]
theorem zVu:∀{n x:Nat},x<10^n→0<n→qJx n x=Lib.decDigits x
 | 0,_,_,h=>absurd h (by omega)
 | n+1,x,h,_=>by
  rw[Lib.decDigits,qJx];by_cases h1:x<10
  ·have:Nat.blt x 10=true:=by simpa[Nat.blt_eq]using h1
   simp[h1,this]
  ·have:Nat.blt x 10=false:=by
    cases hb:Nat.blt x 10
    ·rfl
    ·rw[Nat.blt_eq]at hb;exact absurd hb h1
   rw[Nat.pow_succ]at h;have hn:0<n:=by
    rcases Nat.eq_zero_or_pos n with rfl | h'
    ·simp at h;omega
    ·exact h'
   rw[zVu (n:=n) (x:=x / 10) (by omega) hn]
   simp[h1,this]
def zYv(x:Nat):List UInt8:=qJx 20 x
theorem zVv{x:Nat}(h:x≤9223372036854775807):Lib.itoa (x:Int)=zYv x:=by
 rw[Lib.itoa_nonneg];exact(zVu (by omega) (by omega)).symm
theorem qCr{x:Nat}(h:x≤9223372036854775807):(zYv x).length≤21:=by
 rw[←zVv h];exact Lib.itoa_length_le _ (by omega) (by omega)
def zEu:List Nat→List UInt8
 | []=>[]
 | x::l=>zYv x++(32::zEu l)
theorem zDb:∀(l:List Nat)(x:Nat),zEu (l++[x])=(zEu l++zYv x)++[32]
 | [],x=>by simp[zEu]
 | y::l,x=>by simp[zEu,zDb l x,List.append_assoc]
theorem qUd{T e:TypeId}{B b:Nat}{bs:List Value}{w:World}(h:Lib.IsBuilder T e B b bs w)(k:Nat)(os:Array Obj):Lib.IsBuilder T e B b bs (Sort.grow (w.drewN k) os):=by
 have q:∀p,Lib.BuilderAt T e B b p bs w→Lib.BuilderAt T e B b p bs (Sort.grow (w.drewN k) os):=fun p h=>by
  have hl:=h.lt;obtain⟨h1,v,h2,h3,h4⟩:=h;exact⟨h1,v,by rw[Lib.heap_grow_old w k os b hl];exact h2,Lib.ownsRow_grow h3 k os,h4⟩
 exact h.elim (fun h=> .inl (q _ h)) fun h=> .inr (q _ h)
set_option maxHeartbeats 4000000 in
set_option maxRecDepth 1000000 in
theorem qEd(b off c:Nat)(l:List Nat)(w:World)(hl:l.length*22≤140737488355328)(hx:∀x∈l,x≤9223372036854775807)(ht:Lib.TabIs Tryz.prog w "internal/strconv.uint64pow10" .u64 Lib.pow10Tab)(hc:∀(k x:Nat),l[k]?=some x→w.cell? ⟨b,off+k,none⟩=some (.int .i64 x)):
  Calls Tryz.prog 130 #[.slice (some ⟨b,off,none⟩) l.length c] w fun e w'=>e= .returned (.string ⟨(zEu l).toArray⟩)∧Below w.heap.size w w':=by
 go_enter Tryz.func130,Tryz.ntmps130
 go_wp2
 go_loopw [8] (fun i wr=>∃k:Nat,k≤l.length∧i= .int .i64 k∧Lib.IsBuilder 259 5 w.heap.size w.heap.size (Lib.byteCells (zEu (l.take k))) wr∧Below w.heap.size w wr∧(zEu (l.take k)).length≤22*k) (fun i _=>l.length-(intOf i).toNat)
 case atStart=>exact⟨0,Nat.zero_le _,rfl,Lib.fresh_isBuilder 259 5 w,(Below.refl _ w).alloc (Nat.le_refl _) _,by simp[zEu]⟩
 case round=>
  obtain⟨k,hk,rfl,hI,hbw,hle⟩:=hrel;have hsz:=hbw.size;by_cases hlt:k<l.length
  ·obtain⟨x,hx1⟩:∃x,l[k]?=some x:=⟨l[k],by simp[hlt]⟩
   have hxl:=hx x (List.mem_of_getElem? hx1);have hcw:=hc k x hx1;have hcx:wr.cell? ⟨b,off+k,none⟩=some (.int .i64 x):=(hbw.cell (p:=⟨b,off+k,none⟩) (World.block_lt_of_cell? _ _ hcw)).trans hcw
   go_wp2_with (go_at_call 202;refine(qUb x (by omega) (by omega) _ (Lib.tabBelow_of_tabIs ht _ hbw)).mono ?_;rintro e w1 ⟨rfl,kk,os,rfl⟩)
   rw[zVv hxl];have hI':=qUd hI kk os;have hbw':=hbw.trans (Lib.below_grow w.heap.size _ hsz kk os);have hsz':=hbw'.size;have hdl:=qCr hxl
   go_wp2_with (go_at_call 201;refine(zJc w.heap.size w.heap.size _ _ _ hI' (by rw[Lib.byteCells_length];show _+(zYv x).toArray.size≤_;simp;omega) hsz').mono ?_)
   rintro e w2 ⟨rfl,h2,b2⟩;have hI2:Lib.IsBuilder 259 5 w.heap.size w.heap.size (Lib.byteCells (zEu (l.take k)++zYv x)) w2:=by
    rw[Lib.byteCells_append];exact Or.inr h2
   have hsz2:w.heap.size≤w2.heap.size:=Nat.le_trans hsz' b2.size
   go_wp2_with (go_at_call 203;refine(zRy w.heap.size w.heap.size _ 32 _ hI2 (by rw[Lib.byteCells_length];simp;omega) hsz2).mono ?_)
   rintro e w3 ⟨rfl,h3,b3⟩
   go_wp2
   go_roundw
   case rel=>
    have ht:l.take (k+1)=l.take k++[x]:=by rw[List.take_add_one,hx1];rfl
    refine⟨k+1,by omega,by go_num,?_,(hbw'.trans b2).trans b3,?_⟩
    ·rw[ht,zDb,Lib.byteCells_append];exact Or.inr h3
    ·rw[ht,zDb];simp only[List.length_append,List.length_cons,List.length_nil];omega
   case measure=>simp[intOf];omega
  ·have:k=l.length:=by omega
   subst this;rw[List.take_length]at hI
   go_wp2_with (go_at_call 204;refine(qHx w.heap.size w.heap.size (zEu l) _ hI hsz).mono ?_)
   rintro e w1 ⟨rfl,b1⟩
   go_wp2
   go_ret
   exact⟨rfl,hbw.trans b1⟩
end Go.Proofs.YtdfmdiakjdggbaaGreatDoor
namespace Go.Proofs.YtdfmdiakjdggbaaGreatDoor
open Go Go.Gv Go.Ev IntKind
noncomputable def zTm:List T→Option (List Nat)
 | []=>some []
 | t::l=>match t with
  | .v (.int .i64 (.ofNat x))=>bif Nat.blt x 9223372036854775808 then(match zTm l with | some r=>some (x::r) | none=>none)else none
  | _=>none
noncomputable def qUf:List T→Option (T×Bool)
 | [.sl (t::cs) n]=>bif Nat.beq (ln (t::cs)) n&&Nat.blt n 1000 then(match zTm (t::cs)with | some l=>some (.v (.string ⟨(zEu l).toArray⟩),true) | none=>none)else none
 | _=>none
theorem zWl{B:Bm}{r:Rd}:∀{cs:List T}{l:List Nat},zTm cs=some l→l.length=cs.length∧(∀x∈l,x≤9223372036854775807)∧∀(k x:Nat),l[k]?=some x→∃t,cs[k]?=some t∧∀v,Rep B r t v→v= .int .i64 x
 | [],l,h=>by simp only[zTm,Option.some.injEq]at h;subst h;simp
 | t::cs,l,h=>by
  simp only[zTm]at h;split at h
  ·rename_i x;cases hb:Nat.blt x 9223372036854775808 with
   | false=>simp[hb]at h
   | true=>
    simp only[hb,cond_true]at h;cases hr:zTm cs with
    | none=>simp[hr]at h
    | some q=>
     simp only[hr,Option.some.injEq]at h;subst h;obtain⟨h1,h2,h3⟩:=zWl (B:=B) (r:=r) hr;rw[Nat.blt_eq]at hb;have hb:=Nat.le_of_lt_succ hb;refine⟨by simp[h1],fun y hy=>?_,fun k y hk=>?_⟩
     ·rcases List.mem_cons.1 hy with rfl | hy
      ·exact hb
      ·exact h2 y hy
     ·cases k with
      | zero=>simp at hk;subst hk;exact⟨_,rfl,fun v hv=>hv.vI.1⟩
      | succ k=>simpa using h3 k y (by simpa using hk)
  ·cases h
theorem qUg{ts:List T}{tv:T}{nw:Bool}(h:qUf ts=some (tv,nw))(k:Nat):KnP Tryz.prog k 130 ts tv nw:=by
 unfold qUf at h;split at h
 ·rename_i t cs n;cases hb:Nat.beq (ln (t::cs)) n&&Nat.blt n 1000 with
  | false=>simp[hb]at h
  | true=>
   simp only[hb,cond_true]at h;simp only[Bool.and_eq_true,Nat.blt_eq]at hb;have hn:=qB hb.1;rw[qN]at hn;cases hk:zTm (t::cs)with
   | none=>simp[hk]at h
   | some l=>
    simp only[hk,Option.some.injEq,Prod.mk.injEq]at h;obtain⟨rfl,rfl⟩:=h;intro B w X qM R hI _ hX hR hK;obtain⟨h1,h2,h3⟩:=zWl (B:=B) (r:=rd w X) hk;match qM,hR with
    | [v],⟨hv,_⟩=>
     cases hv with
     | @sl _ _ b o c hnc f hf hg hm=>
      have hlen:l.length=n:=by rw[h1,←hn]
      subst hlen;refine(qEd b o c l w (by omega) h2 (hI (by rw[qQn];exact fun h=>by cases h)) fun j x hj=>?_).mono ?_
      ·obtain⟨t',ht,hv⟩:=h3 j x hj;rw[←hv _ (hg j t' ht)];exact qU (hf j t' ht)
      ·rintro e w' ⟨rfl,hb⟩;exact hK _ w' (Upd.of_below hb) (.v rfl)
 ·cases h
noncomputable def tb0:List (Nat×(List T→Option (T×Bool))):=(130,qUf)::zTx
theorem qIe:qI Tryz.prog (xD tb0):=zIb (fun _ _ _ h k=>qUg h k) qVb
end Go.Proofs.YtdfmdiakjdggbaaGreatDoor
namespace Go.Ev
open Go Go.Gv Go.RowKit IntKind
def Vk(v v':Value):Prop:=(zTw v=true→v'=v)∧∀k a,v= .int k a→∃b,v'= .int k b
theorem yN.ov{r r':Rd}{p:Nat→Prop}(hr:∀b j v,r ⟨b,j,none⟩=some v→∃v',r' ⟨b,j,none⟩=some v'∧Vk v v'):
  ∀(A:Ty)(x:A.den)(vs vs':List Value),yN r p A x vs→vs'.length=vs.length→(∀(j:Nat)(v v':Value),vs[j]?=some v→vs'[j]?=some v'→Vk v v')→yN r' p A x vs'
 | .lim,x,vs,vs',h,hl,hv=>by
  obtain⟨a,rfl⟩:=h;match vs',hl with
  | [v'],_=>obtain⟨b,rfl⟩:=(hv 0 _ v' rfl rfl).2 _ _ rfl;exact⟨b,rfl⟩
 | .int k,x,vs,vs',h,hl,hv=>by
  obtain⟨a,rfl⟩:=h;match vs',hl with
  | [v'],_=>obtain⟨b,rfl⟩:=(hv 0 _ v' rfl rfl).2 _ _ rfl;exact⟨b,rfl⟩
 | .bool,x,vs,vs',h,hl,hv=>by
  have h:vs=[.bool x]:=h;subst h;match vs',hl with
  | [v'],_=>obtain rfl:=(hv 0 _ v' rfl rfl).1 rfl;exact rfl
 | .str,x,vs,vs',h,hl,hv=>by
  have h:vs=[.string x]:=h;subst h;match vs',hl with
  | [v'],_=>obtain rfl:=(hv 0 _ v' rfl rfl).1 rfl;exact rfl
 | .list A,l,vs,vs',h,hl,hv=>by
  obtain⟨ad,c,rfl,h1,h2,h3⟩:=h;match vs',hl with
  | [v'],_=>
   obtain rfl:=(hv 0 _ v' rfl rfl).1 rfl;refine⟨ad,c,rfl,h1,h2,h3.imp id fun⟨b,o,e,hb,k⟩=>⟨b,o,e,hb,fun i x hx=>?_⟩⟩;obtain⟨us,g1,g2,g3⟩:=k i x hx;have cell:∀(j:Nat)(v:Value),us[j]?=some v→∃v',r' ⟨b,o+(i*A.size+j),none⟩=some v'∧Vk v v':=fun j v hj=>hr _ _ _ (g3 j v hj);refine⟨(List.range us.length).map fun j=>(r' ⟨b,o+(i*A.size+j),none⟩).getD .nilFunc,by simp[g1],yN.ov hr A x us _ g2 (by simp) fun j v v' hj hj'=>?_,fun j v hj=>?_⟩
   ·obtain⟨u,hu,hk⟩:=cell j v hj;have hlt:j<us.length:=(List.getElem?_eq_some_iff.1 hj).1;simp[hlt,hu]at hj';subst hj';exact hk
   ·have hlt:j<us.length:=by
     have:=(List.getElem?_eq_some_iff.1 hj).1;simpa using this
    obtain⟨u,hu,_⟩:=cell j us[j] (by simp[hlt])
    simp[hlt,hu]at hj;subst hj;exact hu
 | .prod A B,x,vs,vs',h,hl,hv=>by
  obtain⟨u,w,rfl,h1,h2⟩:=h;refine⟨vs'.take u.length,vs'.drop u.length,(List.take_append_drop _ _).symm,yN.ov hr A _ _ _ h1 (by simp at hl ⊢;omega) fun j v v' hj hj'=>?_,yN.ov hr B _ _ _ h2 (by simp at hl ⊢;omega) fun j v v' hj hj'=>?_⟩
  ·have hlt:=(List.getElem?_eq_some_iff.1 hj).1;rw[List.getElem?_take,if_pos hlt]at hj';exact hv j v v' (by rw[List.getElem?_append_left hlt];exact hj) hj'
  ·rw[List.getElem?_drop]at hj';exact hv (u.length+j) v v' (by rw[List.getElem?_append_right (by omega),Nat.add_sub_cancel_left];exact hj) hj'
theorem qA.at'{r r':Rd}{p:Nat→Prop}(hr:∀b j v,p b→r ⟨b,j,none⟩=some v→r' ⟨b,j,none⟩=some v):∀(A:Ty)(x:A.den)(vs:List Value),qA r p A x vs→qA r' p A x vs
 | .lim,_,_,h=>h
 | .int _,_,_,h=>h
 | .bool,_,_,h=>h
 | .str,_,_,h=>h
 | .list A,l,_,⟨ad,c,e,h⟩=>⟨ad,c,e,h.1,h.2.1,h.2.2.imp id fun⟨b,o,e,hp,k⟩=>⟨b,o,e,hp,fun i x hx=>by
  obtain⟨vs,h1,h2,h3⟩:=k i x hx;exact⟨vs,h1,qA.at' hr A x vs h2,fun j v hv=>hr _ _ _ hp (h3 j v hv)⟩⟩⟩
 | .prod A B,_,_,⟨u,w,e,h1,h2⟩=>⟨u,w,e,qA.at' hr A _ _ h1,qA.at' hr B _ _ h2⟩
def LeN(N:Nat)(r r':Rd):Prop:=∀(p:Addr)(v:Value),p.block<N→r p=some v→r' p=some v
theorem LeN.trans{N:Nat}{a b c:Rd}(h:LeN N a b)(k:LeN N b c):LeN N a c:=fun p v hi e=>k p v hi (h p v hi e)
theorem qEk{N:Nat}{a b:Rd}(h:Le a b):LeN N a b:=fun _ v _ e=>h _ v e
structure OvR(N:Nat)(r r':Rd):Prop where
 old:LeN N r r'
 all:∀b j v,r ⟨b,j,none⟩=some v→∃v',r' ⟨b,j,none⟩=some v'∧Vk v v'
theorem qGr{N:Nat}{w w':World}(h:Ov N w w')(Y:Hid):OvR N (rd w Y) (rd w' Y) where
 old:=fun p v hb e=>lF e (h.block p.block hb) (yK e)
 all:=fun b j v e=>by
  have hc:=qU e;have hf:w'.frozen? ⟨b,j,none⟩=false:=(h.frz _ _ hc).trans (tJ e);cases v with
  | int k a=>
   obtain⟨y,hy⟩:=h.ints _ _ _ hc;exact⟨_,vR hy (yK e) hf,show Vk _ _ from⟨fun e=>(by cases e),fun k' a' e=>by cases e;exact⟨y,rfl⟩⟩⟩
  | _=>exact⟨_,vR (h.keep _ _ hc rfl) (yK e) hf,show Vk _ _ from⟨fun _=>rfl,fun k a e=>(by cases e)⟩⟩
noncomputable def wsh:Nat→T→T
 | 0,_=> .u
 | k+1,t=>match t with
  | .v x=> .v x
  | .ls g A l=>(match g with
   | .o=> .ls .o A l
   | .n=> .hv A l
   | .a=> .u)
  | .hv A l=> .hv A l
  | .ag cs=> .ag (cs.map (wsh k))
  | .tu cs=> .tu (cs.map (wsh k))
  | .fn f cs=> .fn f (cs.map (wsh k))
  | .os i o n c=> .os i o n c
  | .og i o n=> .og i o n
  | .op i o=> .op i o
  | .om i=> .om i
  | _=> .u
section
variable {B:Bm}{r r':Rd}
theorem qIp (hO : OvR B.N r r') : ∀ (k : Nat) {t : T} {v : Value}, Rep B r t v → Rep B r' (wsh k t) v
 | 0, _, _, _ => .u
 | k + 1, t, v, h => by
  have all : ∀ {cs : List T} {q : Nat → Option Value} {f : Nat → Value}, (∀ (j : Nat) (t : T), cs[j]? = some t → q j = some (f j)) → (∀ (j : Nat) (t : T), cs[j]? = some t → Rep B r t (f j)) → (∀ (j : Nat) (t : T), (cs.map (wsh k))[j]? = some t → q j = some (f j)) ∧ ∀ (j : Nat) (t : T), (cs.map (wsh k))[j]? = some t → Rep B r' t (f j) := fun h1 h2 => by
   refine ⟨fun j t e => ?_, fun j t e => ?_⟩ <;> (rw [List.getElem?_map] at e; obtain ⟨x, hx, rfl⟩ := Option.map_eq_some_iff.1 e)
   ·exact h1 j x hx
   ·exact qIp hO k (h2 j x hx)
  cases h with
  | v h => exact .v h
  | os h => exact .os h
  | og h h1 h2 h3 => exact .og h h1 h2 h3
  | op h => exact .op h
  | om h => exact .om h
  | @ag cs vs f hl h g => exact .ag f (by simpa using hl) (all (q := fun j => vs[j]?) h g).1 (all (q := fun j => vs[j]?) h g).2
  | @tu cs vs f hl h g => exact .tu f (by simpa using hl) (all (q := fun j => vs[j]?) h g).1 (all (q := fun j => vs[j]?) h g).2
  | @fn _ cs vs f hl h g => exact .fn f (by simpa using hl) (all (q := fun j => vs[j]?) h g).1 (all (q := fun j => vs[j]?) h g).2
  | @ls g A l v h =>
   cases g with
   | a => exact .u
   | o => exact .ls (qA.at' (fun b j v hb e => hO.old ⟨b, j, none⟩ v (hb.2 rfl) e) _ _ _ h)
   | n => exact .hv (yN.ov hO.all _ _ _ [v] (qA.h _ _ _ h) rfl fun j u u' e e' => by
     rw [e] at e'; cases e'
     exact ⟨fun _ => rfl, fun _ a e => ⟨a, e⟩⟩)
  | @hv A l v h => exact .hv (yN.ov hO.all _ _ _ [v] h rfl fun j u u' e e' => by
     rw [e] at e'; cases e'
     exact ⟨fun _ => rfl, fun _ a e => ⟨a, e⟩⟩)
  | _ => exact .u
theorem zCj(hO:OvR B.N r r')(k:Nat):∀{ts:List T}{vs:List Value},zN B r ts vs→zN B r' (ts.map (wsh k)) vs
 | [],[],_=>trivial
 | _::_,_::_,h=>⟨qIp hO k h.1,zCj hO k h.2⟩
 | [],_::_,h=>h.elim
 | _::_,[],h=>h.elim
end
noncomputable def qOe:TO→TO
 | .row cs e=> .row (cs.map (wsh 9)) e
 | .gro (.l cs) e=> .gro (.l (cs.map (wsh 9))) e
 | _=> .gone
noncomputable def zAk:List TO→List TO→List TO
 | _,[]=>[]
 | [],_::H=> .gone::zAk [] H
 | o0::H0,o::H=>(bif jN o0 then qOe o else .gone)::zAk H0 H
theorem zIn:∀(H0 H:List TO),(zAk H0 H).length=H.length
 | [],[]=>rfl
 | _::_,[]=>rfl
 | [],_::H=>by simp[zAk,zIn [] H]
 | _::H0,_::H=>by simp[zAk,zIn H0 H]
theorem mH:∀(H0 H:List TO)(i:Nat)(o:TO),(zAk H0 H)[i]?=some o→o≠.gone→∃o0 o1,H0[i]?=some o0∧jN o0=true∧H[i]?=some o1∧o=qOe o1
 | [],[],i,o,h,_=>by simp[zAk]at h
 | _::_,[],i,o,h,_=>by simp[zAk]at h
 | [],_::H,0,o,h,hg=>by simp[zAk]at h;exact absurd h.symm hg
 | [],_::H,i+1,o,h,hg=>by
  obtain⟨o0,_,e,_⟩:=mH [] H i o (by simpa[zAk]using h) hg
  simp at e
 | a::H0,b::H,0,o,h,hg=>by
  cases hl:jN a with
  | false=>simp[zAk,hl]at h;exact absurd h.symm hg
  | true=>simp[zAk,hl]at h;exact⟨a,b,rfl,hl,rfl,h.symm⟩
 | a::H0,b::H,i+1,o,h,hg=>by
  obtain⟨o0,o1,h1,h2,h3,h4⟩:=mH H0 H i o (by simpa[zAk]using h) hg
  exact⟨o0,o1,by simpa using h1,h2,by simpa using h3,h4⟩
def Old(H0:List TO)(B:Bm):Prop:=∀(i:Nat)(o:TO),H0[i]?=some o→jN o=true→∃b C,B i=some (b,C)∧b<B.N
theorem Old.mono{H0:List TO}{B B':Bm}(h:Old H0 B)(hB:BLe B B'):Old H0 B':=fun i o ho hl=>by
 obtain⟨b,C,h1,h2⟩:=h i o ho hl;exact⟨b,C,hB _ _ h1,hB.n▸h2⟩
section
variable {P:Program}{E:Nat→Prop}{w0:World}{X:Hid}{F:List Nat}{H0 H:List TO}{B B':Bm}{w w':World}{Y:Hid}{Mo:List (Nat×Obj)}{r r':Rd}
theorem qOf(hO:OvR B.N r r'){C:Nat}{o:TO}{ob:Obj}(h:RO P B r C o ob)(hl:jN (qOe o)=true):RO P B r' C (qOe o) ob:=by
 cases h with
 | row h=>exact .row (zCj hO 9 h)
 | @gro cs e c i0 hi hs hC h=>
  cases cs with
  | l cs=>
   refine .gro hi hs hC ?_;have:=zCj hO 9 h;show zN B r' (cs.map (wsh 9)) (c.toList.take (cs.map (wsh 9)).length);rw[List.length_map];exact this
  | d g A x=>cases hl
 | map=>cases hl
 | mapd=>cases hl
 | loop=>cases hl
theorem Wd.wash(h:Wd P E w0 X F H B w Y Mo)(hF:∀b∈F,b<B.N)(hH:Old H0 B)(hO:Ov B.N w w'):Wd P E w0 X F (zAk H0 H) B w' Y (Mo.filter fun p=>decide (p.1<B.N)) where
 st:=by
  have hsub:((Mo.filter fun p=>decide (p.1<B.N))++jK F).Sublist (Mo++jK F):=List.Sublist.append_right List.filter_sublist _;have hlt:∀p∈(Mo.filter fun p=>decide (p.1<B.N))++jK F,p.1<B.N:=fun p hp=>by
   rcases List.mem_append.1 hp with hp | hp
   ·exact of_decide_eq_true (List.mem_filter.1 hp).2
   ·unfold jK at hp;obtain⟨b,hb,rfl⟩:=List.mem_map.1 hp;exact hF b hb
  refine⟨⟨hO.os.trans h.st.upd.os,hO.tape.trans h.st.upd.tape,hO.output.trans h.st.upd.output,Nat.le_trans h.st.upd.size hO.size,fun k hk he=>?_⟩,fun k o hy=>Nat.lt_of_lt_of_le (h.st.lt k o hy) hO.size,h.st.hid,fun p hp=>?_,?_,h.st.ltX⟩
  ·exact(hO.block k (by rw[h.bN];exact hk)).trans (h.st.upd.block k hk he)
  ·obtain⟨g1,g2,g3⟩:=h.st.own p (hsub.subset hp);exact⟨(hO.block _ (hlt p hp)).trans g1,g2,g3⟩
  ·exact h.st.nd.sublist (hsub.map _)
 ob:=fun i o ho hl=>by
  obtain⟨o0,o1,h1,h2,h3,rfl⟩:=mH H0 H i o ho (fun e=>by rw[e]at hl;cases hl)
  have hl1:jN o1=true:=by cases o1<;>first | rfl | cases hl
  obtain⟨b,C,ob,g1,g2,g3⟩:=h.ob i o1 h3 hl1;obtain⟨b',C',k1,k2⟩:=hH i o0 h1 h2;rw[g1]at k1;cases k1;exact⟨b,C,ob,g1,List.mem_filter.2 ⟨g2,decide_eq_true k2⟩,qOf (qGr hO Y) g3 hl⟩
 fz:=fun i cs ho=>by
  obtain⟨o0,o1,_,_,_,e⟩:=mH H0 H i _ ho (by simp)
  cases o1 with
  | gro c e'=>cases c<;>cases e
  | _=>cases e
 nn:=fun i hi=>h.nn i (by rwa[zIn]at hi)
 inj:=fun i j oi oj p q hi li hj lj hp hq e=>by
  obtain⟨_,o1,_,_,h3,rfl⟩:=mH H0 H i oi hi (fun e=>by rw[e]at li;cases li)
  obtain⟨_,o2,_,_,h4,rfl⟩:=mH H0 H j oj hj (fun e=>by rw[e]at lj;cases lj)
  exact h.inj i j o1 o2 p q h3 (by cases o1<;>first | rfl | cases li) h4 (by cases o2<;>first | rfl | cases lj) hp hq e
 bN:=h.bN
 iv:=h.iv
end
def zFu(P:Program)(E:Nat→Prop)(w0:World)(X:Hid)(F:List Nat)(n:Nat)(D:List Deferred)(e:Ex)(s:S)(B:Bm)(r:Rd)(Q:Exit→Act→World→Prop):Prop:=
 ∀a' w' B' Y' Mo',Wd P E w0 X F s.H B' w' Y' Mo'→FrT n a' s.L D B' (rd w' Y')→BLe B B'→LeN B.N r (rd w' Y')→QOk Q B' (rd w' Y') a' w' e
def TrO(P:Program)(H0:List TO)(c:Code)(s:S)(e:Ex)(s':S):Prop:=
 ∀(E:Nat→Prop)(w0:World)(X:Hid)(F:List Nat)(n:Nat)(a:Act)(D:List Deferred)(B:Bm)(w:World)(Y:Hid)(Mo:List (Nat×Obj))(rr:Option Nat)(Q:Exit→Act→World→Prop),
  noR c=true→(∀b∈F,b<B.N)→Old H0 B→Wd P E w0 X F s.H B w Y Mo→FrT n a s.L D B (rd w Y)→zFu P E w0 X F n D e s' B (rd w Y) Q→c.wpIn (FF rr) 0 P Q a w
theorem Tr.o{P:Program}{H0:List TO}{c:Code}{s s':S}{e:Ex}(h:Tr P c s e s'):TrO P H0 c s e s':=
 fun E w0 X F n a D B w Y Mo rr Q hq _ _ hW hF hA=>h E w0 X F n a D B w Y Mo rr Q (.inr hq) hW hF fun a' w' B' Y' Mo' bs hbs g1 g2 g3 g4=>by
  obtain rfl:=hbs hq;exact hA a' w' B' Y' Mo' g1 g2 g3 (qEk g4)
theorem zFu.next{P:Program}{E:Nat→Prop}{w0:World}{X:Hid}{F:List Nat}{n:Nat}{D:List Deferred}{e:Ex}{s':S}{B B':Bm}{r r':Rd}{Q:Exit→Act→World→Prop}(h:zFu P E w0 X F n D e s' B r Q)(h3:BLe B B')(h4:LeN B.N r r'):zFu P E w0 X F n D e s' B' r' Q:=
 fun a2 w2 B2 Y2 Mo2 k1 k2 k3 k4=>h a2 w2 B2 Y2 Mo2 k1 k2 (h3.trans k3) (h4.trans (by rw[h3.n];exact k4))
abbrev OvF:=Nat→Option Ty
def argV:Ty→List Value→Value→Prop
 | .list _,vs,v=>vs=[v]
 | _,vs,v=>v= .agg vs.toArray
def zSg(P:Program)(OV:OvF):Prop:=∀k A,OV k=some A→∀(N:Nat)(w:World)(Y:Hid)(v:Value)(x:A.den)(vs:List Value),N≤w.heap.size→yN (rd w Y) (fun b=>N≤b) A x vs→argV A vs v→
 Calls P k #[v] w (fun e w'=>∃u,e= .returned u∧(u= .tuple #[]∧Ov N w w'))
noncomputable def hvA(A:Ty):T→Bool
 | .ls .n A' _=>A.beq A'
 | .hv A' _=>A.beq A'
 | .v (.slice none 0 0)=>true
 | _=>false
noncomputable def isB:T→Bool
 | .v (.bool _)=>true
 | _=>false
noncomputable def hvC:Ty→List T→Bool
 | .list A,[t]=>hvA A t
 | .bool,[t]=>isB t
 | .prod A B,ts=>match nY A.size ts with
  | some u=>hvC A u&&hvC B (bS ts A.size)
  | none=>false
 | _,_=>false
noncomputable def hvV:Ty→T→Bool
 | .list A,t=>hvA A t
 | A,.ag cs=>hvC A cs
 | _,_=>false
noncomputable def ovA(P:Program)(OV:OvF)(L:List T)(o:Oper):Bool:=match o.guard with
 | some _=>false
 | none=>match o.op with
  | .call c=>(match c.callee with
   | .value f=>(match evO L f with
    | .fn k []=>(match c.args.toList with
     | [x]=>(match OV k with
      | some A=>jE P k&&hvV A (evO L x)
      | none=>false)
     | _=>false)
    | _=>false)
   | _=>false)
  | _=>false
noncomputable def ovO(H0:List TO)(o:Oper)(s:S):S:=⟨dst o.dst (.tu []) (s.L.map (wsh 9)),zAk H0 s.H⟩
noncomputable def zQt(P:Program)(OV:OvF)(H0:List TO)(OD:Od)(rn:Rd')(ops:Array Oper):List Oper→S→DT S
 | [],s=> .ret s
 | o::l,s=>bif ovA P OV s.L o then zQt P OV H0 OD rn ops l (ovO H0 o s)else(opD P OD rn ops o s).bind (zQt P OV H0 OD rn ops l)
abbrev Lv:=List TO→Lo
noncomputable def qNr(P:Program)(OV:OvF)(H0:List TO)(OD:Od)(LV:Lv)(rn ro:Rd')(f:Nat)(p:List Bool)(c:Code)(s:S):DT (Ex×S):=match c with
 | .seq x y=>(ro f (false::p) x s).bind (qXd (ro f (true::p) y))
 | .cond c x y=>qCf (ro f (false::p) x) (ro f (true::p) y) s c
 | .block id x=>(ro f (false::p) x s).bind (blkD id)
 | .region _ ops false=>bif nS ops then(zQt P OV H0 OD rn ops ops.toList s).bind qUy else .no
 | .loop x=>(match LV H0 f p s with
  | some d=>d
  | none=>rn f p (.loop x) s)
 | c=>rn f p c s
def zOd(P:Program)(LV:Lv):Prop:=∀H0 f p s d,LV H0 f p s=some d→∀x,cAt P f p=some (.loop x)→∀e s',d.run=some (e,s')→TrO P H0 (.loop x) s e s'
noncomputable def ovD(P:Program)(OV:OvF)(H0:List TO)(OD:Od)(LO:Lo)(LV:Lv):Nat→Rd'
 | 0=>fun _ _ _ _=> .no
 | k+1=>qNr P OV H0 OD LV (evD P OD LO k) (ovD P OV H0 OD LO LV k)
noncomputable def zNn:List TO→List TO→Bool
 | [],_=>true
 | o1::H1,[]=>!jN o1&&zNn H1 []
 | o1::H1,o0::H0=>(!jN o1||jN o0)&&zNn H1 H0
theorem zNo:∀{H1 H0:List TO},zNn H1 H0=true→∀(i:Nat)(o:TO),H1[i]?=some o→jN o=true→∃o0,H0[i]?=some o0∧jN o0=true
 | [],_,_,i,o,ho,_=>by simp at ho
 | o1::H1,[],h,i,o,ho,hl=>by
  simp only[zNn,Bool.and_eq_true]at h;cases i with
  | zero=>simp at ho;subst ho;rw[hl]at h;simp at h
  | succ i=>
   obtain⟨o0,e,_⟩:=zNo h.2 i o (by simpa using ho) hl
   simp at e
 | o1::H1,o0::H0,h,i,o,ho,hl=>by
  simp only[zNn,Bool.and_eq_true]at h;cases i with
  | zero=>simp at ho;subst ho;exact⟨o0,rfl,by simpa[hl]using h.1⟩
  | succ i=>simpa using zNo h.2 i o (by simpa using ho) hl
theorem TrO.sub{P:Program}{H0 H1:List TO}{c:Code}{s s':S}{e:Ex}(hs:zNn H1 H0=true)(h:TrO P H1 c s e s'):TrO P H0 c s e s':=
 fun E w0 X F n a D B w Y Mo rr Q hq hFm h0 hW hF hA=>h E w0 X F n a D B w Y Mo rr Q hq hFm (fun i o ho hl=>by
  obtain⟨o0,e1,e2⟩:=zNo hs i o ho hl;exact h0 i o0 e1 e2) hW hF hA
noncomputable def lvT(H1:List TO)(t:List (Nat×List Bool×(S→DT (Ex×S)))):Lv:=fun H0 f p s=>bif zNn H1 H0 then loT t f p s else none
section
variable {P:Program}{OV:OvF}{OD:Od}{LO:Lo}{LV:Lv}{rn:Rd'}{H0 H:List TO}{L:List T}{ops:Array Oper}{o:Oper}{s s':S}{E:Nat→Prop}{w0:World}{X:Hid}{F:List Nat}{B:Bm}{w:World}{Y:Hid}{Mo:List (Nat×Obj)}{n:Nat}{a:Act}{D:List Deferred}{rr:Option Nat}{rest:List Oper}{Q:Exit→Act→World→Prop}
theorem qDs{A:Ty}{t:T}{v:Value}{r:Rd}(h:hvA A t=true)(hR:Rep B r t v):∃l:List A.den,yN r (fun b=>B.N≤b) (.list A) l [v]:=by
 unfold hvA at h;split at h
 ·obtain rfl:=Ty.beq_eq h;cases hR with
  | ls hR=>exact⟨_,yN.mono (Le.refl _) (fun b k=>k.1 rfl) _ _ _ (qA.h _ _ _ hR)⟩
 ·obtain rfl:=Ty.beq_eq h;cases hR with
  | hv hR=>exact⟨_,yN.mono (Le.refl _) (fun b k=>k.1 rfl) _ _ _ hR⟩
 ·obtain⟨rfl,_⟩:=hR.vI;exact⟨[],none,0,rfl,Nat.le_refl _,Nat.zero_le _,.inl rfl⟩
 ·cases h
theorem zTj{r:Rd}:∀(A:Ty)(ts:List T)(vs:List Value),hvC A ts=true→zN B r ts vs→∃x:A.den,yN r (fun b=>B.N≤b) A x vs
 | .list A,[t],[v],h,hR=>qDs (A:=A) h hR.1
 | .bool,[t],[v],h,hR=>by
  unfold hvC isB at h;split at h
  ·rename_i b;obtain⟨rfl,_⟩:=hR.1.vI;exact⟨b,rfl⟩
  ·cases h
 | .prod A C,ts,vs,h,hR=>by
  simp only[hvC]at h;cases ht:nY A.size ts with
  | none=>rw[ht]at h;cases h
  | some u=>
   rw[ht]at h;simp only[Bool.and_eq_true]at h;obtain⟨hle,rfl⟩:=fG _ _ _ ht;have e:ts=ts.take A.size++bS ts A.size:=by rw[zAx,List.take_append_drop]
   rw[e]at hR;have hs:=zN.split (ts:=ts.take A.size) (us:=bS ts A.size) hR;obtain⟨x,hx⟩:=zTj A _ _ h.1 hs.1;obtain⟨y,hy⟩:=zTj C _ _ h.2 hs.2;exact⟨(x,y),_,_,(List.take_append_drop _ _).symm,hx,hy⟩
 | .list _,[],_,h,_=>by cases h
 | .list _,_::_::_,_,h,_=>by cases h
 | .list _,[_],[],_,hR=>hR.elim
 | .list _,[_],_::_::_,_,hR=>hR.2.elim
 | .bool,[],_,h,_=>by cases h
 | .bool,_::_::_,_,h,_=>by cases h
 | .bool,[_],[],_,hR=>hR.elim
 | .bool,[_],_::_::_,_,hR=>hR.2.elim
 | .lim,_,_,h,_=>by cases h
 | .int _,_,_,h,_=>by cases h
 | .str,_,_,h,_=>by cases h
theorem qTu{A:Ty}{t:T}{v:Value}{r:Rd}(h:hvV A t=true)(hR:Rep B r t v):∃(x:A.den)(vs:List Value),yN r (fun b=>B.N≤b) A x vs∧argV A vs v:=by
 have ag:∀{A:Ty}{cs:List T},hvC A cs=true→t= .ag cs→∃(x:A.den)(vs:List Value),yN r (fun b=>B.N≤b) A x vs∧v= .agg vs.toArray:=fun{A cs}h e=>by
  rw[e]at hR;obtain⟨vs,rfl,hvs⟩:=hR.agI;obtain⟨x,hx⟩:=zTj A cs vs h hvs;exact⟨x,vs,hx,rfl⟩
 cases A with
 | list A=>obtain⟨l,hl⟩:=qDs (A:=A) h hR;exact⟨l,[v],hl,rfl⟩
 | lim=>cases t<;>first | (cases h;done) | exact ag h rfl
 | int k=>cases t<;>first | (cases h;done) | exact ag h rfl
 | bool=>cases t<;>first | (cases h;done) | exact ag h rfl
 | str=>cases t<;>first | (cases h;done) | exact ag h rfl
 | prod A C=>cases t<;>first | (cases h;done) | exact ag h rfl
theorem qZf(hOV:zSg P OV)(h:ovA P OV s.L o=true)(hn:yS o.op=true)(hFm:∀b∈F,b<B.N)(hH:Old H0 B)(hW:Wd P E w0 X F s.H B w Y Mo)(hF:FrT n a s.L D B (rd w Y))
  (hk:∀a' w' Mo',Wd P E w0 X F (ovO H0 o s).H B w' Y Mo'→FrT n a' (ovO H0 o s).L D B (rd w' Y)→LeN B.N (rd w Y) (rd w' Y)→wpListIn (FF rr) 0 P ops Q rest a' w'):wpListIn (FF rr) 0 P ops Q (o::rest) a w:=by
 unfold ovA at h;have hnd:kW o.op=true:=by rw[←zBm];exact hn
 split at h
 ·cases h
 ·rename_i hg;split at h
  ·rename_i c hop;split at h
   ·rename_i f hcl;split at h
    ·rename_i k hf;split at h
     ·rename_i x hx;split at h
      ·rename_i A hA;simp only[Bool.and_eq_true]at h;have hfx:=hF.rep f;rw[hf]at hfx;obtain⟨caps,hv,hcs⟩:=hfx.fnI;obtain rfl:caps=[]:=by cases caps<;>first | rfl | exact hcs.elim
       obtain⟨l,vs,hl,hav⟩:=qTu h.2 (hF.rep x);have hwant:Region.wanted o (yielded ops a.tmps)=true:=by simp[Region.wanted,hg]
       show if Region.wanted o (yielded ops a.tmps)then _ else _
       rw[hwant,if_pos rfl];refine zIw hnd ?_;unfold Oper.wp;rw[dI hop hcl hv h.1 w];have e1:(c.args.toList.map a.eval++[]).toArray=#[a.eval x]:=by rw[hx];rfl
       rw[e1];refine(hOV k A hA B.N w Y _ l vs hW.bNle hl hav).mono fun e w1 he=>?_;obtain⟨u,rfl,rfl,hov⟩:=he;have hO:=qGr hov Y;refine hk _ w1 _ (hW.wash hFm hH hov) ?_ hO.old;have h0:FrT n a (s.L.map (wsh 9)) D B (rd w1 Y):=⟨hF.size,zCj hO 9 hF.reps,hF.defers⟩;exact h0.put o.dst (Rep.mkTu (vs:=[]) trivial)
      ·cases h
     ·cases h
    ·cases h
   ·cases h
  ·cases h
theorem zHk(hOV:zSg P OV)(hm:P.follows .mixedOrders=true)(hO:vS P OD)(hrn:lQ P rn):∀(l:List Oper)(s s':S){a:Act}{w:World}{B:Bm}{Y:Hid}{Mo:List (Nat×Obj)},(zQt P OV H0 OD rn ops l s).run=some s'→l.all (fun o=>yS o.op)=true→(∀b∈F,b<B.N)→Old H0 B→Wd P E w0 X F s.H B w Y Mo→FrT n a s.L D B (rd w Y)→
  zFu P E w0 X F n D .n s' B (rd w Y) Q→wpListIn (FF rr) 0 P ops Q l a w
 | [],s,s',a,w,B,Y,Mo,h,_,_,_,hW,hF,hA=>by
  cases h;exact hA a w B Y Mo hW hF (BLe.refl B) (fun _ _ _ e=>e)
 | o::l,s,s',a,w,B,Y,Mo,h,hn,hFm,hH,hW,hF,hA=>by
  simp only[List.all_cons,Bool.and_eq_true]at hn;simp only[zQt]at h;cases ho:ovA P OV s.L o with
  | true=>
   rw[ho,cond_true]at h;exact qZf hOV ho hn.1 hFm hH hW hF fun a' w' Mo' g1 g2 g3=>zHk hOV hm hO hrn l _ s' h hn.2 hFm hH g1 g2 (hA.next (BLe.refl B) g3)
  | false=>
   rw[ho,cond_false]at h;obtain⟨s1,h1,h2⟩:=zM h;exact sQ (zSo hm hO hrn) zTv (zUb h1) hn.1 hW hF fun a' w' B' Y' Mo' g1 g2 g3 g4=>zHk hOV hm hO hrn l s1 s' h2 hn.2 (fun b hb=>g3.n▸hFm b hb) (hH.mono g3) g1 g2 (hA.next g3 (qEk g4))
theorem zUg(hOV:zSg P OV)(hm:P.follows .mixedOrders=true)(hO:vS P OD)(hL:rY P LO)(hV:zOd P LV):∀(k f:Nat)(p:List Bool)(c:Code)(s:S)(e:Ex)(s':S),cAt P f p=some c→(ovD P OV H0 OD LO LV k f p c s).run=some (e,s')→TrO P H0 c s e s'
 | 0,f,p,c,s,e,s',_,h=>by cases h
 | k+1,f,p,c,s,e,s',hc,h=>by
  have hk:=zUg hOV hm hO hL hV k;have hev:=wZ hm hO hL k;have h:(qNr P OV H0 OD LV (evD P OD LO k) (ovD P OV H0 OD LO LV k) f p c s).run=some (e,s'):=h;have old:(evD P OD LO k f p c s).run=some (e,s')→TrO P H0 c s e s':=fun h=>(hev f p c s e s' hc h).o;cases c with
  | seq x y=>
   intro E w0 X F n a D B w Y Mo rr Q hr hFm hH hW hF hA;simp only[noR,Bool.and_eq_true]at hr;have c1:cAt P f (false::p)=some x:=by simp[cAt,hc,tN]
   have c2:cAt P f (true::p)=some y:=by simp[cAt,hc,tN]
   obtain⟨⟨e1,s1⟩,h1,h2⟩:=zM h;refine wpIn_seq (hk _ _ _ _ _ _ c1 h1 E w0 X F n a D B w Y Mo rr _ hr.1 hFm hH hW hF fun a' w' B' Y' Mo' g1 g2 g3 g4=>?_);cases e1 with
   | n=>exact hk _ _ _ _ _ _ c2 h2 E w0 X _ n a' _ B' w' Y' Mo' rr Q hr.2 (fun b hb=>g3.n▸hFm b hb) (hH.mono g3) g1 g2 (hA.next g3 g4)
   | x id=>cases h2;exact hA a' w' B' Y' Mo' g1 g2 g3 g4
   | r=>cases h2;exact hA a' w' B' Y' Mo' g1 g2 g3 g4
   | p t=>cases h2;exact hA a' w' B' Y' Mo' g1 g2 g3 g4
  | cond c x y=>
   intro E w0 X F n a D B w Y Mo rr Q hr hFm hH hW hF hA;simp only[noR,Bool.and_eq_true]at hr;have c1:cAt P f (false::p)=some x:=by simp[cAt,hc,tN]
   have c2:cAt P f (true::p)=some y:=by simp[cAt,hc,tN]
   have hcr:=hF.rep c;obtain⟨b,eb,hb⟩:=qCg h;rw[eb]at hcr;cases b with
   | true=>exact wpIn_cond_true hcr.bool (hk _ _ _ _ _ _ c1 hb E w0 X F n a D B w Y Mo rr Q hr.1 hFm hH hW hF hA)
   | false=>exact wpIn_cond_false hcr.bool (hk _ _ _ _ _ _ c2 hb E w0 X F n a D B w Y Mo rr Q hr.2 hFm hH hW hF hA)
  | block id x=>
   intro E w0 X F n a D B w Y Mo rr Q hr hFm hH hW hF hA;have c1:cAt P f (false::p)=some x:=by simp[cAt,hc,tN]
   obtain⟨⟨e1,s1⟩,h1,h2⟩:=zM h;refine jZ (hk _ _ _ _ _ _ c1 h1 E w0 X F n a D B w Y Mo rr _ hr hFm hH hW hF fun a' w' B' Y' Mo' g1 g2 g3 g4=>?_);cases e1 with
   | n=>cases h2;exact hA a' w' B' Y' Mo' g1 g2 g3 g4
   | r=>cases h2;exact hA a' w' B' Y' Mo' g1 g2 g3 g4
   | p t=>cases h2;exact hA a' w' B' Y' Mo' g1 g2 g3 g4
   | x j=>
    cases h2;have:=hA a' w' B' Y' Mo' g1 g2 g3 g4;cases hj:Nat.beq j id with
    | true=>rw[hj]at this;obtain rfl:=qB hj;exact sJ this
    | false=>rw[hj]at this;exact zAq hj this
  | region id ops draw=>
   cases draw with
   | true=>exact old h
   | false=>
    intro E w0 X F n a D B w Y Mo rr Q hr hFm hH hW hF hA;simp only[qNr]at h;cases hok:nS ops with
    | false=>simp[hok,DT.run]at h
    | true=>
     rw[hok,cond_true]at h;obtain⟨s1,h1,h2⟩:=zM h;cases h2;exact wpIn_region_list (zHk hOV hm hO hev _ _ _ h1 hok hFm hH hW hF hA)
  | loop x=>
   simp only[qNr]at h;cases hv:LV H0 f p s with
   | some d=>
    rw[hv]at h;exact hV H0 f p s d hv x hc e s' h
   | none=>
    rw[hv]at h;exact old h
  | _=>exact old h
end
noncomputable def aP:Nat→T→T
 | 0,_=> .u
 | k+1,t=>match t with
  | .v x=> .v x
  | .ls _ A l=> .ls .o A l
  | .sl cs n=> .sl (cs.map (aP k)) n
  | .st cs n=> .st (cs.map (aP k)) n
  | .fp cs=> .fp (cs.map (aP k))
  | .ag cs=> .ag (cs.map (aP k))
  | .tu cs=> .tu (cs.map (aP k))
  | .fn f cs=> .fn f (cs.map (aP k))
  | .fb f cs=> .fb f (cs.map (aP k))
  | .os i o n c=> .os i o n c
  | .og i o n=> .og i o n
  | .op i o=> .op i o
  | .om i=> .om i
  | .yl i=> .yl i
  | _=> .u
noncomputable def aB:Nat→T→T
 | 0,_=> .u
 | k+1,t=>match t with
  | .v x=> .v x
  | .ls g A l=>(match g with
   | .n=> .ls .n A l
   | _=> .ls .a A l)
  | .hv A l=> .hv A l
  | .sl cs n=> .sl (cs.map (aB k)) n
  | .st cs n=> .st (cs.map (aB k)) n
  | .fp cs=> .fp (cs.map (aB k))
  | .ag cs=> .ag (cs.map (aB k))
  | .tu cs=> .tu (cs.map (aB k))
  | .fn f cs=> .fn f (cs.map (aB k))
  | .fb f cs=> .fb f (cs.map (aB k))
  | .os i o n c=> .os i o n c
  | .og i o n=> .og i o n
  | .op i o=> .op i o
  | .om i=> .om i
  | .yl i=> .yl i
  | _=> .u
noncomputable def zTz:TO→TO
 | .row cs e=> .row (cs.map (aP 9)) e
 | .gro (.l cs) e=> .gro (.l (cs.map (aP 9))) e
 | .gro (.d _ A x) e=> .gro (.d .o A x) e
 | _=> .gone
noncomputable def qBg:TO→TO
 | .row cs e=> .row (cs.map (aB 9)) e
 | .gro (.l cs) e=> .gro (.l (cs.map (aB 9))) e
 | .gro (.d .n A x) e=> .gro (.d .n A x) e
 | .gro (.d _ A x) e=> .gro (.d .a A x) e
 | _=> .gone
section
variable {B B':Bm}{r:Rd}
theorem zBo(hB:∀i p,B i=some p→B' i=some p)(hr:∀b j v,r ⟨b,j,none⟩=some v→b<B'.N):∀(k:Nat){t:T}{v:Value},Rep B r t v→Rep B' r (aP k t) v
 | 0,_,_,_=> .u
 | k+1,t,v,h=>by
  have all:∀{cs:List T}{q:Nat→Option Value}{f:Nat→Value},(∀(j:Nat)(t:T),cs[j]?=some t→q j=some (f j))→(∀(j:Nat)(t:T),cs[j]?=some t→Rep B r t (f j))→(∀(j:Nat)(t:T),(cs.map (aP k))[j]?=some t→q j=some (f j))∧∀(j:Nat)(t:T),(cs.map (aP k))[j]?=some t→Rep B' r t (f j):=fun h1 h2=>by
   refine⟨fun j t e=>?_,fun j t e=>?_⟩<;>(rw[List.getElem?_map]at e;obtain⟨x,hx,rfl⟩:=Option.map_eq_some_iff.1 e)
   ·exact h1 j x hx
   ·exact zBo hB hr k (h2 j x hx)
  cases h with
  | v h=>exact .v h
  | os h=>exact .os (hB _ _ h)
  | og h h1 h2 h3=>exact .og (hB _ _ h) h1 h2 h3
  | op h=>exact .op (hB _ _ h)
  | om h=>exact .om (hB _ _ h)
  | yl h=>exact .yl (hB _ _ h)
  | @sl cs n b o c hn f h g hm=>exact .sl hn f (all (q:=fun j=>r ⟨b,o+j,none⟩) h g).1 (all (q:=fun j=>r ⟨b,o+j,none⟩) h g).2 hm
  | sl0 hm=>exact .sl0 hm
  | @st cs n b o f h g=>exact .st f (all (q:=fun j=>r ⟨b,o+j,none⟩) h g).1 (all (q:=fun j=>r ⟨b,o+j,none⟩) h g).2
  | st0=>exact .st0
  | @fp cs b o f h g=>exact .fp f (all (q:=fun j=>r ⟨b,o+j,none⟩) h g).1 (all (q:=fun j=>r ⟨b,o+j,none⟩) h g).2
  | @ag cs vs f hl h g=>exact .ag f (by simpa using hl) (all (q:=fun j=>vs[j]?) h g).1 (all (q:=fun j=>vs[j]?) h g).2
  | @tu cs vs f hl h g=>exact .tu f (by simpa using hl) (all (q:=fun j=>vs[j]?) h g).1 (all (q:=fun j=>vs[j]?) h g).2
  | @fn _ cs vs f hl h g=>exact .fn f (by simpa using hl) (all (q:=fun j=>vs[j]?) h g).1 (all (q:=fun j=>vs[j]?) h g).2
  | @fb _ cs vs f hl h g=>exact .fb f (by simpa using hl) (all (q:=fun j=>vs[j]?) h g).1 (all (q:=fun j=>vs[j]?) h g).2
  | ls h=>exact .ls (qA.new (fun b j v e=>⟨fun e=>(by cases e),fun _=>hr b j v e⟩) _ _ _ h)
  | _=>exact .u
theorem mM(hB:∀i p,B i=some p→B' i=some p)(hN:B'.N≤B.N):∀(k:Nat){t:T}{v:Value},Rep B r t v→Rep B' r (aB k t) v
 | 0,_,_,_=> .u
 | k+1,t,v,h=>by
  have all:∀{cs:List T}{q:Nat→Option Value}{f:Nat→Value},(∀(j:Nat)(t:T),cs[j]?=some t→q j=some (f j))→(∀(j:Nat)(t:T),cs[j]?=some t→Rep B r t (f j))→(∀(j:Nat)(t:T),(cs.map (aB k))[j]?=some t→q j=some (f j))∧∀(j:Nat)(t:T),(cs.map (aB k))[j]?=some t→Rep B' r t (f j):=fun h1 h2=>by
   refine⟨fun j t e=>?_,fun j t e=>?_⟩<;>(rw[List.getElem?_map]at e;obtain⟨x,hx,rfl⟩:=Option.map_eq_some_iff.1 e)
   ·exact h1 j x hx
   ·exact mM hB hN k (h2 j x hx)
  have nw:∀b,B.In .n b→B'.In .n b:=fun b h=>Bm.In.nw (Nat.le_trans hN (h.1 rfl));cases h with
  | v h=>exact .v h
  | os h=>exact .os (hB _ _ h)
  | og h h1 h2 h3=>exact .og (hB _ _ h) h1 h2 h3
  | op h=>exact .op (hB _ _ h)
  | om h=>exact .om (hB _ _ h)
  | yl h=>exact .yl (hB _ _ h)
  | @sl cs n b o c hn f h g hm=>exact .sl hn f (all (q:=fun j=>r ⟨b,o+j,none⟩) h g).1 (all (q:=fun j=>r ⟨b,o+j,none⟩) h g).2 hm
  | sl0 hm=>exact .sl0 hm
  | @st cs n b o f h g=>exact .st f (all (q:=fun j=>r ⟨b,o+j,none⟩) h g).1 (all (q:=fun j=>r ⟨b,o+j,none⟩) h g).2
  | st0=>exact .st0
  | @fp cs b o f h g=>exact .fp f (all (q:=fun j=>r ⟨b,o+j,none⟩) h g).1 (all (q:=fun j=>r ⟨b,o+j,none⟩) h g).2
  | @ag cs vs f hl h g=>exact .ag f (by simpa using hl) (all (q:=fun j=>vs[j]?) h g).1 (all (q:=fun j=>vs[j]?) h g).2
  | @tu cs vs f hl h g=>exact .tu f (by simpa using hl) (all (q:=fun j=>vs[j]?) h g).1 (all (q:=fun j=>vs[j]?) h g).2
  | @fn _ cs vs f hl h g=>exact .fn f (by simpa using hl) (all (q:=fun j=>vs[j]?) h g).1 (all (q:=fun j=>vs[j]?) h g).2
  | @fb _ cs vs f hl h g=>exact .fb f (by simpa using hl) (all (q:=fun j=>vs[j]?) h g).1 (all (q:=fun j=>vs[j]?) h g).2
  | @ls g A l v h=>
   cases g with
   | n=>exact .ls (qA.mono (Le.refl _) nw _ _ _ h)
   | a=>exact .ls (qA.mono (Le.refl _) (fun b _=>Bm.In.any) _ _ _ h)
   | o=>exact .ls (qA.mono (Le.refl _) (fun b _=>Bm.In.any) _ _ _ h)
  | hv h=>exact .hv (yN.mono (Le.refl _) nw _ _ _ h)
  | _=>exact .u
theorem zN.mapT{f:T→T}(h:∀{t:T}{v:Value},Rep B r t v→Rep B' r (f t) v):∀{ts:List T}{vs:List Value},zN B r ts vs→zN B' r (ts.map f) vs
 | [],[],_=>trivial
 | _::_,_::_,k=>⟨h k.1,zN.mapT h k.2⟩
 | [],_::_,k=>k.elim
 | _::_,[],k=>k.elim
theorem zN.cellsD{g g':Tg}(h:∀(A:Ty)(l:List A.den)(v:Value),Rep B r (.ls g A l) v→Rep B' r (.ls g' A l) v):∀(A:Ty)(x:A.den){vs:List Value},zN B r (cellsD g A x) vs→zN B' r (cellsD g' A x) vs
 | .lim,x,[v],k=>⟨by obtain⟨rfl,hs⟩:=k.1.vI;exact .v hs,trivial⟩
 | .int _,x,[v],k=>⟨by obtain⟨rfl,hs⟩:=k.1.vI;exact .v hs,trivial⟩
 | .bool,x,[v],k=>⟨by obtain⟨rfl,hs⟩:=k.1.vI;exact .v hs,trivial⟩
 | .str,x,[v],k=>⟨by obtain⟨rfl,hs⟩:=k.1.vI;exact .v hs,trivial⟩
 | .list A,x,[v],k=>⟨h A x v k.1,trivial⟩
 | .lim,_,[],k=>k.elim
 | .int _,_,[],k=>k.elim
 | .bool,_,[],k=>k.elim
 | .str,_,[],k=>k.elim
 | .list _,_,[],k=>k.elim
 | .lim,_,_::_::_,k=>k.2.elim
 | .int _,_,_::_::_,k=>k.2.elim
 | .bool,_,_::_::_,k=>k.2.elim
 | .str,_,_::_::_,k=>k.2.elim
 | .list _,_,_::_::_,k=>k.2.elim
 | .prod A C,x,vs,k=>by
  have hs:=zN.split (ts:=Go.Ev.cellsD g A x.1) (us:=Go.Ev.cellsD g C x.2) k;have:=(zN.cellsD h A _ hs.1).app (zN.cellsD h C _ hs.2);rwa[List.take_append_drop]at this
theorem zN.flatR{g g':Tg}(h:∀(A:Ty)(l:List A.den)(v:Value),Rep B r (.ls g A l) v→Rep B' r (.ls g' A l) v)(A:Ty):∀(l:List A.den){vs:List Value},zN B r (flatR g A l) vs→zN B' r (flatR g' A l) vs
 | [],[],_=>trivial
 | [],_::_,k=>k.elim
 | x::l,vs,k=>by
  have hs:=zN.split (ts:=Go.Ev.flatR g A l) (us:=Go.Ev.cellsD g A x) k;have:=(zN.flatR h A l hs.1).app (zN.cellsD h A x hs.2);rwa[List.take_append_drop]at this
variable {P:Program}
theorem qLz(hB:∀i p,B i=some p→B' i=some p)(hr:∀b j v,r ⟨b,j,none⟩=some v→b<B'.N){C:Nat}{o:TO}{ob:Obj}(h:RO P B r C o ob)(hl:jN (zTz o)=true):RO P B' r C (zTz o) ob:=by
 cases h with
 | row h=>exact .row (zN.mapT (zBo hB hr 9) h)
 | @gro cs e c i0 hi hs hC h=>
  cases cs with
  | l cs=>
   refine .gro hi hs hC ?_;have:=zN.mapT (zBo hB hr 9) h;show zN B' r (cs.map (aP 9)) (c.toList.take (cs.map (aP 9)).length);rw[List.length_map];exact this
  | d g A x=>
   refine .gro hi hs hC ?_;have:=zN.flatR (g':= .o) (B':=B') (fun A l v h=>zBo hB hr 1 h) A x h;show zN B' r (flatR .o A x) (c.toList.take (flatR .o A x).length);rw[jV];have e:(Cs.d g A x).list.length=x.length*A.size:=jV g A x;rwa[e]at this
 | map=>cases hl
 | mapd=>cases hl
 | loop=>cases hl
theorem qJd(hB:∀i p,B i=some p→B' i=some p)(hN:B'.N≤B.N){C:Nat}{o:TO}{ob:Obj}(h:RO P B r C o ob)(hl:jN (qBg o)=true):RO P B' r C (qBg o) ob:=by
 cases h with
 | row h=>exact .row (zN.mapT (mM hB hN 9) h)
 | @gro cs e c i0 hi hs hC h=>
  cases cs with
  | l cs=>
   refine .gro hi hs hC ?_;have:=zN.mapT (mM hB hN 9) h;show zN B' r (cs.map (aB 9)) (c.toList.take (cs.map (aB 9)).length);rw[List.length_map];exact this
  | d g A x=>
   have key:∀g',(∀(A:Ty)(l:List A.den)(v:Value),Rep B r (.ls g A l) v→Rep B' r (.ls g' A l) v)→RO P B' r C (.gro (.d g' A x) e) (.cells c e (0,0)):=fun g' hg=>by
    refine .gro hi hs hC ?_;have:=zN.flatR (g':=g') (B':=B') hg A x h;show zN B' r (flatR g' A x) (c.toList.take (flatR g' A x).length);rw[jV];have e:(Cs.d g A x).list.length=x.length*A.size:=jV g A x;rwa[e]at this
   cases g with
   | n=>exact key .n fun A l v h=>mM hB hN 1 h
   | a=>exact key .a fun A l v h=>mM hB hN 1 h
   | o=>exact key .a fun A l v h=>mM hB hN 1 h
 | map=>cases hl
 | mapd=>cases hl
 | loop=>cases hl
end
theorem zKt{o:TO}(h:jN (zTz o)=true):jN o=true:=by cases o<;>first | rfl | cases h
theorem zYj{o:TO}(h:jN (qBg o)=true):jN o=true:=by cases o<;>first | rfl | cases h
theorem qLy{o:TO}{cs:List T}:zTz o≠.fz cs:=by
 intro e;cases o with
 | gro c t=>cases c<;>cases e
 | _=>cases e
theorem qJc{o:TO}{cs:List T}:qBg o≠.fz cs:=by
 intro e;cases o with
 | gro c t=>
  cases c with
  | l=>cases e
  | d g=>cases g<;>cases e
 | _=>cases e
section
variable {P:Program}{E E':Nat→Prop}{w0 w1:World}{X:Hid}{F:List Nat}{H:List TO}{B B':Bm}{w:World}{Y:Hid}{Mo:List (Nat×Obj)}
theorem Wd.base{g:TO→TO}(h:Wd P E w0 X F H B w Y Mo)(hS:St E' w1 X w Y (Mo++jK F))(hB:B'.f=B.f)(hN:B'.N=w1.heap.size)(hi:∀w',Upd E' w1 w'→Iv P w')(hl:∀{o:TO},jN (g o)=true→jN o=true)(hz:∀{o:TO}{cs:List T},g o≠.fz cs)
  (hg:∀{C:Nat}{o:TO}{ob:Obj},RO P B (rd w Y) C o ob→jN (g o)=true→RO P B' (rd w Y) C (g o) ob):Wd P E' w1 X F (H.map g) B' w Y Mo where
 st:=hS
 ob:=fun i o ho hlo=>by
  rw[List.getElem?_map]at ho;obtain⟨o1,h1,rfl⟩:=Option.map_eq_some_iff.1 ho;obtain⟨b,C,ob,g1,g2,g3⟩:=h.ob i o1 h1 (hl hlo);exact⟨b,C,ob,by rw[hB];exact g1,g2,hg g3 hlo⟩
 fz:=fun i cs ho=>by
  rw[List.getElem?_map]at ho;obtain⟨o1,_,e⟩:=Option.map_eq_some_iff.1 ho;exact absurd e hz
 nn:=fun i hi=>by rw[hB];exact h.nn i (by simpa using hi)
 inj:=fun i j oi oj p q hi li hj lj hp hq e=>by
  rw[List.getElem?_map]at hi hj;obtain⟨o1,h1,rfl⟩:=Option.map_eq_some_iff.1 hi;obtain⟨o2,h2,rfl⟩:=Option.map_eq_some_iff.1 hj;rw[hB]at hp hq;exact h.inj i j o1 o2 p q h1 (hl li) h2 (hl lj) hp hq e
 bN:=hN
 iv:=hi
end
def noP:Ex→Bool
 | .p _=>false
 | _=>true
noncomputable def oldS(s:S):S:=⟨s.L.map (aP 9),s.H.map zTz⟩
noncomputable def anyS(s:S):S:=⟨s.L.map (aB 9),s.H.map qBg⟩
theorem TrO.re{P:Program}{c:Code}{s s':S}{e:Ex}(h:TrO P (s.H.map zTz) c (oldS s) e s')(hq:noR c=true)(he:noP e=true):Tr P c s e (anyS s'):=by
 intro E w0 X F n a D B w Y Mo rr Q hr hW hF hA;let E':Nat→Prop:=fun k=>E k∨∃o,(k,o)∈Mo++jK F
 have back:∀{w':World},Upd E' w w'→Upd E w0 w':=fun{w'}k=>
  ⟨k.os.trans hW.st.upd.os,k.tape.trans hW.st.upd.tape,k.output.trans hW.st.upd.output,Nat.le_trans hW.st.upd.size k.size,fun i hi hE=>by
   refine(k.block i (Nat.lt_of_lt_of_le hi hW.st.upd.size) fun e=>?_).trans (hW.st.upd.block i hi hE);rcases e with e | ⟨o,ho⟩
   ·exact hE e
   ·rcases(hW.st.own _ ho).2.1 with h1 | h1
    ·exact Nat.not_lt.2 h1 hi
    ·exact hE h1⟩
 have hlt:∀p∈Mo++jK F,p.1<w.heap.size:=fun p hp=>(Array.getElem?_eq_some_iff.1 (hW.st.own p hp).1).1;have hS:St E' w X w Y (Mo++jK F):=⟨Upd.refl _ _,hW.st.lt,hW.st.hid,fun p hp=>⟨(hW.st.own p hp).1,.inr (.inr ⟨p.2,hp⟩),(hW.st.own p hp).2.2⟩,hW.st.nd,fun k o hx=>Nat.lt_of_lt_of_le (hW.st.ltX k o hx) hW.st.upd.size⟩;have hrd:∀b j v,rd w Y ⟨b,j,none⟩=some v→b<w.heap.size:=fun b j v e=>World.block_lt_of_cell? w ⟨b,j,none⟩ (qU e);let Bn:Bm:=⟨B.f,w.heap.size⟩
 have hB1:∀i p,B i=some p→Bn i=some p:=fun _ _ h=>h;have hrd1:∀b j v,rd w Y ⟨b,j,none⟩=some v→b<Bn.N:=hrd;refine h E' w X F n a D Bn w Y Mo rr Q hq (fun b hb=>?_) (fun i o ho hl=>?_) (hW.base hS rfl rfl (fun w' k=>hW.iv w' (back k)) zKt qLy fun k hl=>qLz hB1 hrd1 k hl) ⟨hF.size,zN.mapT (zBo hB1 hrd1 9) hF.reps,hF.defers⟩ ?_
 ·have:∃q∈jK F,q.1=b:=by
   unfold jK;exact⟨_,List.mem_map.2 ⟨b,hb,rfl⟩,rfl⟩
  obtain⟨q,hq,rfl⟩:=this;exact hlt q (List.mem_append_right _ hq)
 ·rw[List.getElem?_map]at ho;obtain⟨o1,h1,rfl⟩:=Option.map_eq_some_iff.1 ho;obtain⟨b,C,ob,g1,g2,_⟩:=hW.ob i o1 h1 (zKt hl);exact⟨b,C,g1,hlt _ (List.mem_append_left _ g2)⟩
 ·intro a' w' B' Y' Mo' g1 g2 g3 g4;have hN:w0.heap.size≤B'.N:=by rw[←g3.n];exact hW.st.upd.size
  have hst:St E w0 X w' Y' (Mo'++jK F):=⟨back g1.st.upd,g1.st.lt,g1.st.hid,fun p hp=>by
   obtain⟨k1,k2,k3⟩:=g1.st.own p hp;refine⟨k1,?_,k3⟩;rcases k2 with k2 | k2 | ⟨o,ho⟩
   ·exact .inl (Nat.le_trans hW.st.upd.size k2)
   ·exact .inr k2
   ·exact(hW.st.own _ ho).2.1,g1.st.nd,hW.st.ltX⟩
  have hN':(⟨B'.f,B.N⟩:Bm).N≤B'.N:=by rw[show(⟨B'.f,B.N⟩:Bm).N=w0.heap.size from hW.bN];exact hN
  have hB2:∀i p,B' i=some p→(⟨B'.f,B.N⟩:Bm) i=some p:=fun _ _ h=>h;have:=hA a' w' ⟨B'.f,B.N⟩ Y' Mo' [] (fun _=>rfl) (g1.base (B':=⟨B'.f,B.N⟩) hst rfl hW.bN hW.iv zYj qJc fun k hl=>qJd hB2 hN' k hl) ⟨g2.size,zN.mapT (mM hB2 hN' 9) g2.reps,g2.defers⟩ ⟨g3.le,rfl⟩ fun p v e=>g4 p v (World.block_lt_of_cell? w p (qU e)) e;cases e with
  | p t=>cases he
  | _=>exact this
theorem qUl{P:Program}{x:Code}{R:S→DT (Ex×S)}(hR:∀s e s',(R s).run=some (e,s')→Tr P x s e s')(N:Nat)(s:S)(e:Ex)(s':S)(h:(zTs R N s).run=some (e,s')):Tr P (.loop x) s e s':=by
 intro E w0 X F n a D B w Y Mo rr Q hr hW hF hA;have hr1:rr=none∨noR x=true:=hr.imp id fun h=>by simpa[noR]using h
 refine pK (γ:=Nat×S×List Nat) (fun g a w=>(zTs R g.1 g.2.1).run=some (e,s')∧∃B' Y' Mo',(noR x=true→g.2.2=[])∧Wd P E w0 X (g.2.2++F) g.2.1.H B' w Y' Mo'∧FrT n a g.2.1.L (g.2.2.map Gv.mark++D) B' (rd w Y')∧BLe B B'∧Le (rd _ Y) (rd w Y'))
  (fun g=>g.1) (N,s,[]) ⟨h,B,Y,Mo,fun _=>rfl,hW,hF,BLe.refl B,Le.refl _⟩ ?_
 rintro⟨j,s0,bs0⟩ a0 w1 ⟨hstep,B1,Y1,Mo1,hb1,g1,g2,g3,g4⟩;simp only at hstep hb1 g1 g2;cases j with
 | zero=>cases hstep
 | succ j=>
 obtain⟨⟨e1,s1⟩,h1,h2⟩:=zM hstep;refine hR _ _ _ h1 E w0 X _ n a0 _ B1 w1 Y1 Mo1 rr _ hr1 g1 g2 fun a' w' B' Y' Mo' bs hbs k1 k2 k3 k4=>?_;have hbs':noR x=true→bs++bs0=[]:=fun e=>by rw[hbs e,hb1 e];rfl
 have k1':Wd P E w0 X (bs++bs0++F) s1.H B' w' Y' Mo':=by rw[List.append_assoc];exact k1
 have k2':FrT n a' s1.L ((bs++bs0).map Gv.mark++D) B' (rd w' Y'):=by rw[List.map_append,List.append_assoc];exact k2
 cases e1 with
 | n=>exact⟨(j,s1,bs++bs0),⟨h2,B',Y',Mo',hbs',k1',k2',g3.trans k3,g4.trans k4⟩,Nat.lt_succ_self j⟩
 | x id=>cases h2;exact hA a' w' B' Y' Mo' (bs++bs0) (fun e=>hbs' (by simpa[noR]using e)) k1' k2' (g3.trans k3) (g4.trans k4)
 | r=>cases h2;exact hA a' w' B' Y' Mo' (bs++bs0) (fun e=>hbs' (by simpa[noR]using e)) k1' k2' (g3.trans k3) (g4.trans k4)
 | p t=>cases h2;exact hA a' w' B' Y' Mo' (bs++bs0) (fun e=>hbs' (by simpa[noR]using e)) k1' k2' (g3.trans k3) (g4.trans k4)
noncomputable def anyD:Ex×S→DT (Ex×S)
 | (.p _,_)=> .no
 | (e,s)=> .ret (e,anyS s)
noncomputable def rndO(P:Program)(OV:OvF)(OD:Od)(LO:Lo)(LV:Lv)(k f:Nat)(p:List Bool)(x:Code)(s:S):DT (Ex×S):=(ovD P OV (s.H.map zTz) OD LO LV k f (false::p) x (oldS s)).bind anyD
noncomputable def loO(P:Program)(OV:OvF)(OD:Od)(LO:Lo)(LV:Lv)(k N f0:Nat)(p0:List Bool)(x:Code):Lo:=fun f p s=>bif Nat.beq f f0&&p.beq p0 then some (zTs (rndO P OV OD LO LV k f0 p0 x) N s)else none
theorem qNm{P:Program}{OV:OvF}{OD:Od}{LO:Lo}{LV:Lv}(hOV:zSg P OV)(hm:P.follows .mixedOrders=true)(hO:vS P OD)(hL:rY P LO)(hV:zOd P LV){k f:Nat}{p:List Bool}{x:Code}(hc:cAt P f p=some (.loop x))(hq:noR x=true)(s:S)(e:Ex)(s':S)(h:(rndO P OV OD LO LV k f p x s).run=some (e,s')):Tr P x s e s':=by
 have c1:cAt P f (false::p)=some x:=by simp[cAt,hc,tN]
 obtain⟨⟨e1,s1⟩,h1,h2⟩:=zM h;have:=zUg hOV hm hO hL hV k f _ x _ e1 s1 c1 h1;cases e1 with
 | p t=>cases h2
 | n=>cases h2;exact this.re hq rfl
 | x id=>cases h2;exact this.re hq rfl
 | r=>cases h2;exact this.re hq rfl
theorem qUk{P:Program}{OV:OvF}{OD:Od}{LO:Lo}{LV:Lv}(hOV:zSg P OV)(hm:P.follows .mixedOrders=true)(hO:vS P OD)(hL:rY P LO)(hV:zOd P LV){k N f0:Nat}{p0:List Bool}{x:Code}(hq:noR x=true)(hx:cAt P f0 p0=some (.loop x)):rY P (loO P OV OD LO LV k N f0 p0 x):=by
 intro f p s d h y hc e s' hd;unfold loO at h;cases hb:Nat.beq f f0&&p.beq p0 with
 | false=>simp[hb]at h
 | true=>
  simp only[hb,cond_true,Option.some.injEq]at h;subst h;simp only[Bool.and_eq_true]at hb;obtain rfl:=qB hb.1;obtain rfl:p=p0:=by
   have:=hb.2;exact LawfulBEq.eq_of_beq (α:=List Bool) this
  rw[hx]at hc;cases hc;exact qUl (fun s e s' h=>qNm hOV hm hO hL hV hx hq s e s' h) N s e s' hd
def RdO(P:Program)(H0:List TO)(rn:Rd'):Prop:=∀f p c s e s',cAt P f p=some c→(rn f p c s).run=some (e,s')→TrO P H0 c s e s'
theorem qVs{P:Program}{OV:OvF}{OD:Od}{LO:Lo}{LV:Lv}(hOV:zSg P OV)(hm:P.follows .mixedOrders=true)(hO:vS P OD)(hL:rY P LO)(hV:zOd P LV)(H0:List TO)(k:Nat):RdO P H0 (ovD P OV H0 OD LO LV k):=fun f p c s e s'=>zUg hOV hm hO hL hV k f p c s e s'
section
variable {P:Program}{rn:Rd'}{l:Lp}{f:Nat}{p:List Bool}{x:Code}{s:S}{H1:List TO}
theorem qEs(hrn:RdO P H1 rn)(hc:cAt P f p=some (.loop x)){n:Nat}{q:Hs}{y:Ex×Hs}(hm:l.m=s.H.length)(h0:(bC l.m l.sp s).run=some q)(h:It (l.stp rn f p x) n q y):TrO P H1 (.loop x) s (l.bx y).1 (l.bx y).2:=by
 intro E w0 X F n0 a D B w Y Mo rr Q hr hFm hOld hW hF hA;have c1:cAt P f (false::p)=some x:=by simp[cAt,hc,tN]
 have hnr:noR x=true:=by simpa[noR]using hr
 have hBm:∀i,l.m≤i→B i=none:=fun i hi=>hW.nn i (by rw[←hm];exact hi)
 refine pK (γ:=Nat×Hs) (fun g a2 w2=>It (l.stp rn f p x) g.1 g.2 y∧∃B' Y' Mo',Wd P E w0 X F (bu l.m l.sp g.2).H B' w2 Y' Mo'∧FrT n0 a2 (bu l.m l.sp g.2).L D B' (rd w2 Y')∧BLe B B'∧LeN B.N (rd w Y) (rd w2 Y'))
  (fun g=>g.1) (n,q) ?_ ?_
 ·obtain⟨src,k1,k2,_⟩:=zLr h0 hW hF;exact⟨h,_,Y,Mo,k1,k2,zNg (BLe.refl B) hBm,fun _ _ _ e=>e⟩
 ·rintro⟨j,q0⟩ a0 w1 ⟨hit,B1,Y1,Mo1,g1,g2,g3,g4⟩;simp only at hit g1 g2;have st:∀{z:Hs⊕(Ex×Hs)},l.stp rn f p x q0=some z→∃e1 s1,(rn f (false::p) x (bu l.m l.sp q0)).run=some (e1,s1)∧(l.end_ (e1,s1)).run=some z:=fun h=>by
   obtain⟨⟨e1,s1⟩,h1,h2⟩:=zM h;exact⟨e1,s1,h1,h2⟩
  have fin:∀{s1:S}{a':Act}{w':World}{B':Bm}{Y':Hid}{Mo':List (Nat×Obj)}{sp:Sp}{q1:Hs},(bC l.m sp s1).run=some q1→Wd P E w0 X F s1.H B' w' Y' Mo'→FrT n0 a' s1.L D B' (rd w' Y')→BLe B B'→
    ∃B2,Wd P E w0 X F (bu l.m sp q1).H B2 w' Y' Mo'∧FrT n0 a' (bu l.m sp q1).L D B2 (rd w' Y')∧BLe B B2:=fun hq k1 k2 k3=>by
   obtain⟨src,r1,r2,_⟩:=zLr hq k1 k2;exact⟨_,r1,r2,zNg k3 hBm⟩
  have out:∀{e1:Ex}{s1:S},(rn f (false::p) x (bu l.m l.sp q0)).run=some (e1,s1)→((∃q1,(bC l.m l.sp s1).run=some q1∧e1= .n∧∃j',j=j'+1∧It (l.stp rn f p x) j' q1 y)∨(∃q1,(bC l.m l.sx s1).run=some q1∧(∃id,e1= .x id)∧l.bx y=(e1,bu l.m l.sx q1))∨(∃q1,(bC l.m l.sr s1).run=some q1∧e1= .r∧l.bx y=(e1,bu l.m l.sr q1)))→
    x.wpIn (FF rr) 0 P (Exit.then (fun a' w'=>∃g':Nat×Hs,(It (l.stp rn f p x) g'.1 g'.2 y∧∃B' Y' Mo',Wd P E w0 X F (bu l.m l.sp g'.2).H B' w' Y' Mo'∧FrT n0 a' (bu l.m l.sp g'.2).L D B' (rd w' Y')∧BLe B B'∧LeN B.N (rd w Y) (rd w' Y'))∧g'.1<j) Q) a0 w1:=fun h1 hh=>by
   refine hrn _ _ _ _ _ _ c1 h1 E w0 X F n0 a0 D B1 w1 Y1 Mo1 rr _ hnr (fun b hb=>g3.n▸hFm b hb) (hOld.mono g3) g1 g2 fun a' w' B' Y' Mo' k1 k2 k3 k4=>?_;have k4':LeN B.N (rd w1 Y1) (rd w' Y'):=by rw[g3.n];exact k4
   rcases hh with⟨q1,hq,rfl,j',rfl,hit'⟩ | ⟨q1,hq,⟨id,rfl⟩,hy⟩ | ⟨q1,hq,rfl,hy⟩
   ·obtain⟨B2,r1,r2,r3⟩:=fin hq k1 k2 (g3.trans k3);exact⟨(j',q1),⟨hit',B2,Y',Mo',r1,r2,r3,g4.trans k4'⟩,Nat.lt_succ_self j'⟩
   ·obtain⟨B2,r1,r2,r3⟩:=fin hq k1 k2 (g3.trans k3);rw[hy]at hA;exact hA a' w' B2 Y' Mo' r1 r2 r3 (g4.trans k4')
   ·obtain⟨B2,r1,r2,r3⟩:=fin hq k1 k2 (g3.trans k3);rw[hy]at hA;exact hA a' w' B2 Y' Mo' r1 r2 r3 (g4.trans k4')
  cases hit with
  | go h k=>
   obtain⟨e1,s1,h1,h2⟩:=st h;refine out h1 ?_;cases e1 with
   | n=>obtain⟨q1,r1,r2⟩:=zM h2;cases r2;exact .inl ⟨_,r1,rfl,_,rfl,k⟩
   | x id=>obtain⟨q1,r1,r2⟩:=zM h2;cases r2
   | r=>obtain⟨q1,r1,r2⟩:=zM h2;cases r2
   | p t=>cases h2
  | out h=>
   obtain⟨e1,s1,h1,h2⟩:=st h;refine out h1 ?_;cases e1 with
   | n=>obtain⟨q1,r1,r2⟩:=zM h2;cases r2
   | x id=>obtain⟨q1,r1,r2⟩:=zM h2;cases r2;exact .inr (.inl ⟨q1,r1,⟨id,rfl⟩,rfl⟩)
   | r=>obtain⟨q1,r1,r2⟩:=zM h2;cases r2;exact .inr (.inr ⟨q1,r1,rfl,rfl⟩)
   | p t=>cases h2
theorem qEw:zOd P (lvT H1 []):=fun H0 f p s d h=>by
 simp only[lvT,loT]at h;cases hs:zNn H1 H0<;>rw[hs]at h<;>cases h
theorem qLl{t:List (Nat×List Bool×(S→DT (Ex×S)))}(ht:zOd P (lvT H1 t)){h:Hs→DT (Ex×Hs)}(hrn:RdO P H1 rn)(hc:cAt P f p=some (.loop x))(hh:∀q y,(h q).run=some y→∃n,It (l.stp rn f p x) n q y):zOd P (lvT H1 ((f,p,l.row h)::t)):=by
 intro H0 f' p' s d hd x' hx' e s' hrun;cases hs:zNn H1 H0 with
 | false=>simp only[lvT,hs,cond_false]at hd;cases hd
 | true=>
  have hd:loT ((f,p,l.row h)::t) f' p' s=some d:=by simpa only[lvT,hs,cond_true]using hd
  simp only[loT]at hd;cases hb:Nat.beq f f'&&eqP p p' with
  | false=>rw[hb,cond_false]at hd;exact ht H0 f' p' s d (by simpa only[lvT,hs,cond_true]using hd) x' hx' e s' hrun
  | true=>
   rw[hb,cond_true]at hd;cases hd;simp only[Bool.and_eq_true]at hb;obtain rfl:=qB hb.1;obtain rfl:=zTb hb.2;rw[hc]at hx';cases hx';unfold Lp.row at hrun;cases hm:Nat.beq l.m (ln s.H)with
   | false=>rw[hm]at hrun;cases hrun
   | true=>
    rw[hm,cond_true]at hrun;have hm:=qB hm;rw[qN]at hm;obtain⟨q,h1,h2⟩:=zM hrun;obtain⟨y,h3,h4⟩:=zM h2;obtain⟨n,hn⟩:=hh q y h3;have:=qEs hrn hc hm h1 hn;have e4:l.bx y=(e,s'):=Option.some.inj h4;rw[e4]at this;exact this.sub hs
end
section
variable {w:World}{Y:Hid}{N:Nat}
theorem yN.sl{A:Ty}{l:List A.den}{r:Rd}{p:Nat→Prop}{v:Value}(h:yN r p (.list A) l [v]):∃ad c,v= .slice ad l.length c∧l.length≤9223372036854775807∧aA r p A.size (fun x us=>yN r p A x us) ad c l:=by
 obtain⟨ad,c,e,h⟩:=h;cases e;exact⟨ad,c,rfl,Nat.le_trans h.1 h.2.1,h⟩
theorem aA.row{α:Type}{r:Rd}{p:Nat→Prop}{s:Nat}{R:α→List Value→Prop}{ad:Option Addr}{c:Nat}{l:List α}(h:aA r p s R ad c l){j:Nat}(hj:j<l.length):
  ∃b o vs,ad=some ⟨b,o,none⟩∧p b∧vs.length=s∧R l[j] vs∧∀(q:Nat)(v:Value),vs[q]?=some v→r ⟨b,o+(j*s+q),none⟩=some v:=by
 rcases h.2.2 with rfl | ⟨b,o,e,hb,k⟩
 ·simp at hj
 ·obtain⟨vs,h1,h2,h3⟩:=k j l[j] (by simp[hj])
  exact⟨b,o,vs,e,hb,h1,h2,h3⟩
theorem aA.uc{ad:Option Addr}{c:Nat}{l:List Nat}(h:aA (rd w Y) (fun b=>N≤b) Ty.lim.size (fun(x:Ty.lim.den)us=>yN (rd w Y) (fun b=>N≤b) .lim x us) ad c l):UC .u32 w N ad l.length:=fun j hj=>by
 obtain⟨b,o,vs,e,hb,_,⟨a,rfl⟩,k⟩:=h.row hj;have:=k 0 _ rfl;rw[show j*Ty.lim.size+0=j from by simp[Ty.size]]at this
 exact⟨b,o,a,e,hb,qU this,tJ this⟩
theorem yN.rt{x:jI.den}{vs:List Value}(h:yN (rd w Y) (fun b=>N≤b) jI x vs):∃a1 n1 c1 a2 n2 c2,vs=[.bool x.1,.slice a1 n1 c1,.slice a2 n2 c2]∧UC .u32 w N a1 n1∧UC .u32 w N a2 n2∧n1≤9223372036854775807∧n2≤9223372036854775807:=by
 obtain⟨u,z,rfl,hu,⟨u1,u2,rfl,h1,h2⟩⟩:=h;have hu:u=[.bool _]:=hu;subst hu;obtain⟨a1,c1,rfl,g1⟩:=h1;obtain⟨a2,c2,rfl,g2⟩:=h2;exact⟨a1,_,c1,a2,_,c2,rfl,g1.uc,g2.uc,Nat.le_trans g1.1 g1.2.1,Nat.le_trans g2.1 g2.2.1⟩
end
theorem dP{a b:Int}:ilt a b=true↔a<b:=by
 cases a with
 | ofNat a=>cases b with
  | ofNat b=>simp only[ilt,Nat.blt_eq,Int.ofNat_eq_natCast];omega
  | negSucc b=>simp only[ilt,Int.ofNat_eq_natCast,Int.negSucc_eq];constructor<;>intro h<;>first | cases h;done | omega
 | negSucc a=>cases b with
  | ofNat b=>simp only[ilt,Int.ofNat_eq_natCast,Int.negSucc_eq];constructor<;>intro h<;>first | omega | trivial
  | negSucc b=>simp only[ilt,Nat.blt_eq,Int.negSucc_eq];omega
theorem zPt{a b:Int}(h:b≤a):ilt a b=false:=by
 cases e:ilt a b with
 | false=>rfl
 | true=>rw[dP]at e;omega
theorem zBf{a b:Int}(h:a<b):ilt a b=true:=dP.2 h
theorem zPj{α:Type}(l:List α)(z:α):∀(k i:Nat),i+k=l.length→fol (fun i(a:List α)=>(.inl (nth z l i::a):List α⊕List α)) id k i (l.take i).reverse=l.reverse
 | 0,i,e=>by
  obtain rfl:i=l.length:=by omega
  simp[fol]
 | k+1,i,e=>by
  have hi:i<l.length:=by omega
  have h:nth z l i::(l.take i).reverse=(l.take (i+1)).reverse:=by
   rw[List.take_add_one,List.reverse_append,qP];simp[hi]
  simp only[fol,h];exact zPj l z k (i+1) (by omega)
theorem jH{a b:Int}:ieq a b=true↔a=b:=by
 cases a with
 | ofNat a=>cases b with
  | ofNat b=>simp only[ieq,Nat.beq_eq,Int.ofNat_eq_natCast];omega
  | negSucc b=>simp only[ieq,Int.ofNat_eq_natCast,Int.negSucc_eq];constructor<;>intro h<;>first | (cases h;done) | omega
 | negSucc a=>cases b with
  | ofNat b=>simp only[ieq,Int.ofNat_eq_natCast,Int.negSucc_eq];constructor<;>intro h<;>first | (cases h;done) | omega
  | negSucc b=>simp only[ieq,Nat.beq_eq,Int.negSucc_eq];omega
theorem kF{a b:Int}(h:a=b):ieq a b=true:=jH.2 h
theorem bW{a b:Int}(h:a≠b):ieq a b=false:=by
 cases e:ieq a b with
 | false=>rfl
 | true=>exact absurd (jH.1 e) h
theorem qKd{α:Type}{l:List α}:emp l=true↔l=[]:=by cases l<;>simp[emp]
section
variable {P:Program}{f k:Nat}{az:List T}{tv tv':T}{nw:Bool}
theorem KnP.res(h:KnP P k f az tv nw)(ht:∀(B:Bm)(r:Rd)(v:Value),Rep B r tv v→Rep B r tv' v):KnP P k f az tv' nw:=fun B w X qM R hI hk hX hR hK=>h B w X qM R hI hk hX hR fun v w' hu hv=>hK v w' hu (ht B _ v hv)
theorem KnP.old(h:KnP P k f az tv true):KnP P k f az tv false:=fun B w X qM R hI hk hX hR hK=>h B w X qM R hI hk hX hR fun v w' hu hv=>hK v w' hu (hv.mono (BLe.refl B) (Le.new hX))
theorem zMs{B:Bm}{r:Rd}{A:Ty}{v:Value}(h:Rep B r (.v (.slice none 0 0)) v):Rep B r (.ls .a A []) v:=by
 obtain⟨rfl,_⟩:=h.vI;exact .ls ⟨none,0,rfl,Nat.le_refl _,Nat.zero_le _,.inl rfl⟩
end
noncomputable def lpF(st:Hs→Option (Hs⊕(Ex×Hs))):Nat→Hs→Option (Ex×Hs)
 | 0,q=>match st q with
  | some (.inr y)=>some y
  | _=>none
 | n+1,q=>match st q with
  | some (.inl q')=>lpF st n q'
  | some (.inr y)=>some y
  | none=>none
theorem qEv{st:Hs→Option (Hs⊕(Ex×Hs))}:∀(n:Nat)(q:Hs){y:Ex×Hs},lpF st n q=some y→∃m,It st m q y
 | 0,q,y,h=>by
  simp only[lpF]at h;split at h
  ·rename_i z hz;cases h;exact⟨0,.out hz⟩
  ·cases h
 | n+1,q,y,h=>by
  simp only[lpF]at h;split at h
  ·rename_i q' hq;obtain⟨m,hm⟩:=qEv n q' h;exact⟨m+1,.go hq hm⟩
  ·rename_i z hz;cases h;exact⟨0,.out hz⟩
  ·cases h
inductive Sk where
  | i (k:IntKind)
  | b
  | l (g:Tg) (A:Ty)
  | p (g:Tg) (A:Ty) (g2:Tg) (A2:Ty)
  | c (t:T)
structure Sh where
 e:Ex
 hs:List Sk
 az:List (Tg×Ty)
 ks:List (List Sk)
noncomputable def iOf:T→Int
 | .v (.int _ a)=>a
 | _=>0
noncomputable def bOf:T→Bool
 | .v (.bool b)=>b
 | _=>false
noncomputable def lOf(A:Ty):T→List A.den
 | .ls _ B l=>(wN B A l).getD []
 | _=>[]
noncomputable def lnO:T→Nat
 | .ls _ _ l=>l.length
 | .v (.int _ (.ofNat n))=>n
 | _=>0
noncomputable def Tg.beq:Tg→Tg→Bool
 | .a,.a=>true
 | .n,.n=>true
 | .o,.o=>true
 | _,_=>false
noncomputable def qTo:T→T
 | .ag (t::_)=>t
 | _=> .u
noncomputable def qXg:T→T
 | .ag (_::t::_)=>t
 | _=> .u
noncomputable def skG:Sk→T→T
 | .i k,t=> .v (.int k (iOf t))
 | .b,t=> .v (.bool (bOf t))
 | .l g A,t=> .ls g A (lOf A t)
 | .p g A g2 A2,t=> .ag [.ls g A (lOf A (qTo t)),.ls g2 A2 (lOf A2 (qXg t))]
 | .c x,_=>x
noncomputable def skT:Sk→T→Bool
 | .i k,.v (.int k' _)=>Nat.beq (kind k) (kind k')
 | .b,.v (.bool _)=>true
 | .l g A,.ls g' B _=>g.beq g'&&B.beq A
 | .p g A g2 A2,.ag [.ls h B _,.ls h2 B2 _]=>(g.beq h&&B.beq A)&&(g2.beq h2&&B2.beq A2)
 | .c x,t=>eqU 12 x t
 | _,_=>false
theorem zTn{g:Tg}{A B:Ty}{l:List B.den}(h:B.beq A=true):T.ls g A (lOf A (.ls g B l))= .ls g B l:=by
 obtain rfl:=Ty.beq_eq h;have e:wN B B l=some l:=by unfold wN;rw[dif_pos h]
 show T.ls g B ((wN B B l).getD [])=_;rw[e];rfl
theorem Tg.beq_eq{g g':Tg}(h:g.beq g'=true):g=g':=by cases g<;>cases g'<;>first | rfl | cases h
theorem qHu:∀{s:Sk}{t:T},skT s t=true→skG s t=t:=by
 intro s t h;unfold skT at h;split at h
 ·rename_i k k' a;obtain rfl:=wP h;rfl
 ·rfl
 ·rename_i g A g' B l;simp only[Bool.and_eq_true]at h;obtain rfl:=Tg.beq_eq h.1;exact zTn h.2
 ·rename_i g A g2 A2 h' B l h2 B2 l2;simp only[Bool.and_eq_true]at h;obtain rfl:=Tg.beq_eq h.1.1;obtain rfl:=Tg.beq_eq h.2.1;simp only[skG,qTo,qXg,zTn h.1.2,zTn h.2.2]
 ·exact mQ 12 _ _ h
 ·cases h
noncomputable def hdT:List T→T
 | t::_=>t
 | []=> .u
noncomputable def qHv:List Sk→List T→List T
 | [],_=>[]
 | s::ss,ts=>skG s (hdT ts)::qHv ss ts.tail
noncomputable def qHw:List Sk→List T→Bool
 | [],[]=>true
 | s::ss,t::ts=>skT s t&&qHw ss ts
 | _,_=>false
theorem zNm:∀{ss:List Sk}{ts:List T},qHw ss ts=true→qHv ss ts=ts
 | [],[],_=>rfl
 | s::ss,t::ts,h=>by
  simp only[qHw,Bool.and_eq_true]at h;simp only[qHv,hdT,List.tail_cons,qHu h.1,zNm h.2]
 | [],_::_,h=>by cases h
 | _::_,[],h=>by cases h
noncomputable def qLb:List (List Sk)→List (List T)→List (List T)
 | [],_=>[]
 | s::ss,ts=>qHv s (ts.headD [])::qLb ss ts.tail
noncomputable def qLc:List (List Sk)→List (List T)→Bool
 | [],[]=>true
 | s::ss,t::ts=>qHw s t&&qLc ss ts
 | _,_=>false
theorem zWn:∀{ss:List (List Sk)}{ts:List (List T)},qLc ss ts=true→qLb ss ts=ts
 | [],[],_=>rfl
 | s::ss,t::ts,h=>by
  simp only[qLc,Bool.and_eq_true]at h;simp only[qLb,List.headD_cons,List.tail_cons,zNm h.1,zWn h.2]
 | [],_::_,h=>by cases h
 | _::_,[],h=>by cases h
noncomputable def azT:List (Tg×Ty)→List T→Bool
 | [],[]=>true
 | s::ss,t::ts=>skT (.l s.1 s.2) t&&azT ss ts
 | _,_=>false
noncomputable def azD{α:Type}(k:List T→DT α):List (Tg×Ty)→List T→List T→DT α
 | [],_,u=>k u.reverse
 | s::ss,ts,u=> .ite (emp (lOf s.2 (hdT ts))) (azD k ss ts.tail (.ls s.1 s.2 []::u)) (azD k ss ts.tail (.ls s.1 s.2 ((lOf s.2 (hdT ts)).headD s.2.zero::(lOf s.2 (hdT ts)).tail)::u))
theorem zSn{α:Type}{k:List T→DT α}{z:α}:∀{ss:List (Tg×Ty)}{ts u:List T},azT ss ts=true→(azD k ss ts u).run=some z→(k (u.reverse++ts)).run=some z
 | [],[],u,_,h=>by simpa[azD]using h
 | s::ss,t::ts,u,h,h2=>by
  simp only[azT,Bool.and_eq_true]at h;have e:T.ls s.1 s.2 (lOf s.2 t)=t:=qHu (s:= .l s.1 s.2) h.1;simp only[azD,hdT,List.tail_cons,DT.run]at h2;cases he:emp (lOf s.2 t)with
  | true=>
   rw[he,cond_true]at h2;have e2:lOf s.2 t=[]:=qKd.1 he;rw[e2]at e;rw[e]at h2;have:=zSn h.2 h2;simpa using this
  | false=>
   rw[he,cond_false]at h2;have e2:(lOf s.2 t).headD s.2.zero::(lOf s.2 t).tail=lOf s.2 t:=by
    cases hl:lOf s.2 t with
    | nil=>rw[hl]at he;cases he
    | cons a l=>rfl
   rw[e2,e]at h2;have:=zSn h.2 h2;simpa using this
 | [],_::_,_,h,_=>by cases h
 | _::_,[],_,h,_=>by cases h
noncomputable def exT:Ex→Ex→Bool
 | .x i,.x j=>Nat.beq i j
 | .r,.r=>true
 | _,_=>false
noncomputable def shT(sh:Sh):Option (Ex×Hs)→Bool
 | some (e,q)=>exT sh.e e&&(qHw sh.hs q.hs&&(azT sh.az q.az&&qLc sh.ks q.ks))
 | none=>false
noncomputable def hsO:Option (Ex×Hs)→Hs
 | some (_,q)=>q
 | none=>⟨[],[],[]⟩
noncomputable def vwD(y:Option (Ex×Hs)):List Sh→DT (Ex×Hs)
 | []=> .no
 | sh::r=> .ite (shT sh y) (azD (fun u=> .ret (sh.e,⟨qHv sh.hs (hsO y).hs,u,qLb sh.ks (hsO y).ks⟩)) sh.az (hsO y).az []) (vwD y r)
theorem qIm{y:Option (Ex×Hs)}{z:Ex×Hs}:∀{shs:List Sh},(vwD y shs).run=some z→y=some z
 | [],h=>by cases h
 | sh::r,h=>by
  simp only[vwD,DT.run]at h;cases hs:shT sh y with
  | false=>rw[hs,cond_false]at h;exact qIm h
  | true=>
   rw[hs,cond_true]at h;match y,hs with
   | some (e,q),hs=>
    simp only[shT,Bool.and_eq_true]at hs;obtain⟨h1,h2,h3,h4⟩:=hs;have h5:=zSn h3 h;simp only[hsO,List.reverse_nil,List.nil_append,zNm h2,zWn h4]at h5;cases h5;have:sh.e=e:=by
     revert h1;cases sh.e<;>cases e<;>intro h1<;>first | rfl | (cases h1;done) | (obtain rfl:=qB h1;rfl)
    rw[this]
noncomputable def lpR(st:Hs→Option (Hs⊕(Ex×Hs)))(fu:Hs→Nat)(shs:List Sh)(q:Hs):DT (Ex×Hs):=vwD (lpF st (fu q) q) shs
theorem xQ{st:Hs→Option (Hs⊕(Ex×Hs))}{fu:Hs→Nat}{shs:List Sh}:∀q y,(lpR st fu shs q).run=some y→∃n,It st n q y:=fun _ _ h=>qEv _ _ (qIm h)
noncomputable def orD{α:Type}:DT α→DT α→DT α
 | .no,d=>d
 | d,_=>d
theorem qVn{α:Type}{a b:DT α}{y:α}(h:(orD a b).run=some y):a.run=some y∨b.run=some y:=by
 cases a with
 | no=>exact .inr h
 | ret x=>exact .inl h
 | ite c x z=>exact .inl h
theorem qZa{P:Program}{rn:Rd'}{f:Nat}{p:List Bool}{x:Code}{l1 l2:Lp}{t:List (Nat×List Bool×(S→DT (Ex×S)))}{h1 h2:Hs→DT (Ex×Hs)}(ht:rY P (loT t))(hrn:lQ P rn)(hc:cAt P f p=some (.loop x))(k1:∀q y,(h1 q).run=some y→∃n,It (l1.stp rn f p x) n q y)(k2:∀q y,(h2 q).run=some y→∃n,It (l2.stp rn f p x) n q y):rY P (loT ((f,p,fun s=>orD (l1.row h1 s) (l2.row h2 s))::t)):=by
 have o1:=yZ ht hrn hc k1;have o2:=yZ ht hrn hc k2;intro f' p' s d hd x' hx' e s' hrun;simp only[loT]at hd;cases hb:Nat.beq f f'&&eqP p p' with
 | false=>rw[hb,cond_false]at hd;exact ht f' p' s d hd x' hx' e s' hrun
 | true=>
  rw[hb,cond_true]at hd;cases hd;rcases qVn hrun with h | h
  ·exact o1 f' p' s _ (by simp only[loT,hb,cond_true]) x' hx' e s' h
  ·exact o2 f' p' s _ (by simp only[loT,hb,cond_true]) x' hx' e s' h
theorem kS{st:Hs→Option (Hs⊕(Ex×Hs))}{α γ:Type}{iv:Nat→α→Hs}{g:Nat→α→α⊕γ}{d:α→γ}{out:γ→Ex×Hs}{n:Nat}(J:Nat→α→Prop)
  (h1:∀i a,i<n→J i a→st (iv i a)=some (match g i a with | .inl b=> .inl (iv (i+1) b) | .inr y=> .inr (out y)))
  (h2:∀i a b,i<n→J i a→g i a= .inl b→J (i+1) b) (h3:∀a,J n a→st (iv n a)=some (.inr (out (d a)))):∀k i a,i+k=n→J i a→lpF st k (iv i a)=some (out (fol g d k i a))
 | 0,i,a,e,hJ=>by
  obtain rfl:i=n:=by omega
  simp only[lpF,h3 a hJ,fol]
 | k+1,i,a,e,hJ=>by
  have hi:i<n:=by omega
  simp only[lpF,h1 i a hi hJ,fol];cases hg:g i a with
  | inl b=>exact kS J h1 h2 h3 k (i+1) b (by omega) (h2 i a b hi hJ hg)
  | inr y=>rfl
end Go.Ev
namespace Go.Proofs.YtdfmdiakjdggbaaGreatDoor
open Go Go.Gv Go.RowKit IntKind
set_option maxRecDepth 100000
set_option maxHeartbeats 1000000
theorem zOf(w:World)(N:Nat)(hN:N≤w.heap.size)(ad:Option Addr)(len cap:Nat)(h:UC .u32 w N ad len)(hb:len≤9223372036854775807):Calls Tryz.prog 168 #[.slice ad len cap] w (fun e w'=>∃v,e= .returned v∧(v= .tuple #[]∧Ov N w w')):=by
 refine zen Tryz.func168 ?_;have G0:St E0 w X0 w X0 []:=St.start (zT _);refine zz 6<|zlp Tryz.f168 [] [1,0] (fun(k:Nat)=>[(0,.slice ad len cap),(2,.int .i64 (k:Int))]) (fun(k:Nat)w1=>Ov N w w1∧k≤len) (fun k=>len-k) 0 ⟨Ov.refl _ _,Nat.zero_le _⟩ ?_;rintro k w2 K2 hK2 ⟨hO2,hkl⟩;refine zz 9<|zt 6 (p:=(k:Int)<(len:Int)) (fun F3=>?_) (fun F3=>?_);obtain⟨blk,off,x,rfl,hNb,hc,hf⟩:=(h.up hO2) k (by omega)
 refine zz 8<|zi (b:=blk) (off:=off) (len:=len) (cap:=cap) (kd:= .i64) (i:=(k:Int)) 1 (off+k)<|zst (y:= .int .u32 77) hc hf<|zz 6<|zw 8 (x:=(k:Int)+1)<|zz 2 ?_;refine yE (fun a h=>hK2 (k+1) _ a h ⟨hO2.trans (Ov.set hc hNb),by omega⟩ ?_)
 first | omega | (simp<;>omega)
 refine zz 5<|zr' (v:= .tuple #[]) ?_;exact⟨_,rfl,rfl,hO2⟩
theorem zJg(w:World)(N:Nat)(hN:N≤w.heap.size)(ad:Option Addr)(len cap:Nat)(h:UC .u32 w N ad len)(hb:len≤9223372036854775807):Calls Tryz.prog 93 #[.slice ad len cap] w (fun e w'=>∃v,e= .returned v∧(v= .tuple #[]∧Ov N w w')):=by
 refine zen Tryz.func93 ?_;have G0:St E0 w X0 w X0 []:=St.start (zT _);refine zz 2<|zcF (zOf _ N hN ad len cap h hb) ?_;rintro v3 w3 ⟨rfl,hO3⟩;refine zz 1<|zr' (v:= .tuple #[]) ?_;exact⟨_,rfl,rfl,hO3⟩
theorem zYi(w:World)(N:Nat)(hN:N≤w.heap.size)(sb:Bool)(a1:Option Addr)(a2 a3:Nat)(a4:Option Addr)(a5 a6:Nat)(h1:UC .u32 w N a1 a2)(h2:UC .u32 w N a4 a5)(hb1:a2≤9223372036854775807)(hb2:a5≤9223372036854775807):Calls Tryz.prog 42 #[.agg #[.bool sb,.slice a1 a2 a3,.slice a4 a5 a6]] w (fun e w'=>∃v,e= .returned v∧(v= .tuple #[]∧Ov N w w')):=by
 refine zen Tryz.func42 ?_;have G0:St E0 w X0 w X0 []:=St.start (zT _);refine zz 2<|zn pn (.cells #[.bool sb,.slice a1 a2 a3,.slice a4 a5 a6] 28 (0,0)) G0 fun b3 w3 Y3 G3 C3 Q3=>zz 5<|zo 0 G3 ?_;have hO0:=Ov.upd Q3 hN;refine zcF (zJg _ N (Nat.le_trans hN hO0.size) a1 a2 a3 (h1.up hO0) hb1) ?_;rintro v5 w5 ⟨rfl,hO5⟩;have hOa:=hO0.trans hO5;refine zz 4<|zl (hO5.cells (G3.cells (off:=2) (vs:=[.slice a4 a5 a6]) 0 rfl rfl) rfl)<|zcF (zJg _ N (Nat.le_trans hN hOa.size) a4 a5 a6 (h2.up hOa) hb2) ?_;rintro v7 w7 ⟨rfl,hO7⟩;refine zz 1<|zr' (v:= .tuple #[]) ?_;exact⟨_,rfl,rfl,(hOa.trans hO7)⟩
end Go.Proofs.YtdfmdiakjdggbaaGreatDoor

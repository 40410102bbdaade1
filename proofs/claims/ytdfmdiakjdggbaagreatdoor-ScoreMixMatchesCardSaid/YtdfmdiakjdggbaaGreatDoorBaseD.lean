import Derived.Lib.AppendIntMem
import Derived.Lib.ItoaNum
import Derived.Deep.DeepAppendWide
import Derived.Test.YtdfmdiakjdggbaaGreatDoorBaseA
import Derived.Test.YtdfmdiakjdggbaaGreatDoorBaseB
import Derived.Test.YtdfmdiakjdggbaaGreatDoorBaseC
set_option linter.unusedVariables false
set_option linter.unusedSimpArgs false
set_option linter.unnecessarySimpa false
namespace Go.Ev
open Go Go.Gv IntKind
inductive Ty where
  | lim
  | int (k:IntKind)
  | bool
  | str
  | list (A:Ty)
  | prod (A B:Ty)
@[reducible] def Ty.den : Ty → Type
  | .lim => Nat
  | .int _ => Int
  | .bool => Bool
  | .str => ByteArray
  | .list A => List A.den
  | .prod A B => A.den × B.den
noncomputable def Ty.size:Ty→Nat
 | .prod A B=>A.size+B.size
 | _=>1
noncomputable def Ty.zero:(A:Ty)→A.den
 | .lim=>(0:Nat)
 | .int _=>(0:Int)
 | .bool=>false
 | .str=>⟨#[]⟩
 | .list _=>[]
 | .prod A B=>(A.zero,B.zero)
inductive Tg where
  | a | n | o
noncomputable def Tg.isN:Tg→Bool
 | .n=>true
 | _=>false
noncomputable def Tg.isA:Tg→Bool
 | .a=>true
 | _=>false
noncomputable def Tg.le:Tg→Tg→Bool
 | .a,_=>true
 | .n,.n=>true
 | .o,.o=>true
 | _,_=>false
inductive T where
  | u
  | v (x:Value)
  | sl (cs:List T) (n:Nat)
  | sn (cs:List T) (n:Nat)
  | st (cs:List T) (n:Nat)
  | fp (cs:List T)
  | os (i o n c:Nat)
  | og (i o n:Nat)
  | op (i o:Nat)
  | ag (cs:List T)
  | tu (cs:List T)
  | fn (f:Nat) (cs:List T)
  | fb (f:Nat) (bs:List T)
  | om (i:Nat)
  | yl (i:Nat)
  | ls (g:Tg) (A:Ty) (l:List A.den)
  | hv (A:Ty) (l:List A.den)
inductive Cs where
  | l (cs:List T)
  | d (g:Tg) (A:Ty) (x:List A.den)
structure MD where
 g:Tg
 K:Ty
 V:Ty
 l:List (K.den×V.den)
inductive TO where
  | row (cs:List T) (e:TypeId)
  | gro (cs:Cs) (e:TypeId)
  | fz (cs:List T)
  | map (l:List (Value×T))
  | mapd (d:MD)
  | loop (L:List T) (ps:List Nat) (a b:Code) (ready:Bool) (pend:Option Code)
  | gone
structure S where
 L:List T
 H:List TO
inductive Ex where
  | n | x (id:Nat) | r | p (t:T)
noncomputable def nth{α:Type}(d:α)(l:List α):Nat→α:=List.rec (fun _=>d) (fun x _ ih n=>Nat.rec x (fun m _=>ih m) n) l
noncomputable def put{α:Type}(x:α)(l:List α):Nat→List α:=List.rec (fun _=>[]) (fun y l ih n=>Nat.rec (x::l) (fun m _=>y::ih m) n) l
def ln{α:Type}:List α→Nat
 | []=>0
 | _::l=>Nat.succ (ln l)
def sc:Value→Bool
 | .int .. | .bool _ | .string _ | .slice none 0 0 | .pointer none | .map none | .nilFunc | .nilIface | .iface _ (.int ..)=>true
 | _=>false
def ofV(x:Value):T:=bif sc x then .v x else .u
def ofC:Value→T
 | .agg cs=> .ag (cs.toList.map ofV)
 | .tuple cs=> .tu (cs.toList.map ofV)
 | .func (.func f) ⟨[]⟩ ⟨[]⟩=> .fn f []
 | x=>ofV x
noncomputable def cellsD(g:Tg):(A:Ty)→A.den→List T
 | .lim,a=>[.v (.int .u32 (.ofNat a))]
 | .int k,a=>[.v (.int k a)]
 | .bool,b=>[.v (.bool b)]
 | .str,s=>[.v (.string s)]
 | .list A,l=>[.ls g A l]
 | .prod A B,x=>cellsD g A x.1++cellsD g B x.2
noncomputable def zCn:(A:Ty)→A.den→List T
 | .lim,_=>[.u]
 | .int _,_=>[.u]
 | .bool,b=>[.v (.bool b)]
 | .str,s=>[.v (.string s)]
 | .list A,l=>[.hv A l]
 | .prod A B,x=>zCn A x.1++zCn B x.2
noncomputable def kR(g:Tg)(A:Ty):List A.den→List T
 | []=>[]
 | x::l=>cellsD g A x++kR g A l
noncomputable def flatR(g:Tg)(A:Ty):List A.den→List T
 | []=>[]
 | x::l=>flatR g A l++cellsD g A x
noncomputable def kind:IntKind→Nat
 | .i8=>0 | .i16=>1 | .i32=>2 | .i64=>3 | .u8=>4 | .u16=>5 | .u32=>6 | .u64=>7
noncomputable def Cs.list:Cs→List T
 | .l cs=>cs
 | .d g A x=>flatR g A x
noncomputable def Ty.beq:Ty→Ty→Bool
 | .lim,.lim=>true
 | .int j,.int k=>Nat.beq (kind j) (kind k)
 | .bool,.bool=>true
 | .str,.str=>true
 | .list A,.list B=>A.beq B
 | .prod A B,.prod C D=>A.beq C&&B.beq D
 | _,_=>false
theorem Ty.beq_eq:∀{A B:Ty},A.beq B=true→A=B
 | .lim,.lim,_=>rfl
 | .int j,.int k,h=>by have:=Nat.eq_of_beq_eq_true h;cases j<;>cases k<;>first | rfl | cases this
 | .bool,.bool,_=>rfl
 | .str,.str,_=>rfl
 | .list A,.list B,h=>by rw[Ty.beq_eq (A:=A) (B:=B) h]
 | .prod A B,.prod C D,h=>by
  simp only[Ty.beq,Bool.and_eq_true]at h;rw[Ty.beq_eq h.1,Ty.beq_eq h.2]
noncomputable def wN(A B:Ty)(l:List A.den):Option (List B.den):=if h:A.beq B=true then some (Ty.beq_eq h▸l)else none
noncomputable def nY:Nat→List T→Option (List T)
 | 0,_=>some []
 | _+1,[]=>none
 | n+1,x::l=>match nY n l with
  | some r=>some (x::r)
  | none=>none
noncomputable def bS:List T→Nat→List T
 | [],_=>[]
 | x::l,n=>match n with
  | 0=>x::l
  | n+1=>bS l n
noncomputable def qBv:List T→Option Nat
 | [.v (.int k (.ofNat a))]=>bif Nat.beq (kind k) 6 then some a else none
 | _=>none
noncomputable def qBu(k:IntKind):List T→Option Int
 | [.v (.int k' a)]=>bif Nat.beq (kind k) (kind k')then some a else none
 | _=>none
noncomputable def qBt:List T→Option Bool
 | [.v (.bool b)]=>some b
 | _=>none
noncomputable def qBx:List T→Option ByteArray
 | [.v (.string s)]=>some s
 | _=>none
noncomputable def qBw(g:Tg)(A:Ty):List T→Option (List A.den)
 | [.v (.slice none 0 0)]=>some []
 | [.ls g' A' l]=>bif g.le g' then wN A' A l else none
 | _=>none
noncomputable def nG(g:Tg):(A:Ty)→List T→Option A.den
 | .lim,ts=>qBv ts
 | .int k,ts=>qBu k ts
 | .bool,ts=>qBt ts
 | .str,ts=>qBx ts
 | .list A,ts=>qBw g A ts
 | .prod A B,ts=>match nY A.size ts with
  | some u=>(match nG g A u,nG g B (bS ts A.size)with
   | some x,some y=>some (x,y)
   | _,_=>none)
  | none=>none
noncomputable def Cs.app:Cs→List T→Cs
 | .l cs,b=> .l (cs++b)
 | .d g A x,b=>match nG g A b with
  | some y=> .d g A (y::x)
  | none=> .l (flatR g A x++b)
noncomputable def Cs.apL(b:List T)(g:Tg)(A:Ty)(z:List A.den):Cs→Cs
 | .l []=> .d g A z.reverse
 | .l (c::cs)=> .l ((c::cs)++b)
 | .d g' A' x=>match wN A A' z with
  | some u=>bif g'.le g then .d g' A' (u.reverse++x)else .l (flatR g' A' x++b)
  | none=> .l (flatR g' A' x++b)
noncomputable def Cs.apY(c:Cs)(y:T)(b:List T):Cs:=match y with
 | .ls g A z=>c.apL b g A z
 | _=>c.app b
noncomputable def dn:T→T
 | .sn cs n=> .sl cs n
 | t=>t
noncomputable def unN:Nat→T→T
 | 0,_=> .u
 | k+1,t=>match t with
  | .sn cs n=> .sl (cs.map (unN k)) n
  | .ls _ A l=> .ls .a A l
  | .hv _ _=> .u
  | .sl cs n=> .sl (cs.map (unN k)) n
  | .st cs n=> .st (cs.map (unN k)) n
  | .fp cs=> .fp (cs.map (unN k))
  | .ag cs=> .ag (cs.map (unN k))
  | .tu cs=> .tu (cs.map (unN k))
  | .fn f cs=> .fn f (cs.map (unN k))
  | .fb f cs=> .fb f (cs.map (unN k))
  | t=>t
noncomputable def mkN:Nat→T→T
 | 0,t=>t
 | k+1,t=>match t with
  | .sl cs n=> .sn (cs.map (mkN k)) n
  | .ls _ A l=> .ls .n A l
  | .ag cs=> .ag (cs.map (mkN k))
  | .tu cs=> .tu (cs.map (mkN k))
  | .fn f cs=> .fn f (cs.map (mkN k))
  | t=>t
noncomputable def evO(L:List T):Operand→T
 | .tmp t=>nth .u L t
 | .const x=>ofC x
 | .func f=> .fn f []
 | .global _=> .u
noncomputable def qKp:IntKind→Nat
 | .i8=>128 | .i16=>32768 | .i32=>2147483648 | .i64=>9223372036854775808 | .u8=>256 | .u16=>65536 | .u32=>4294967296 | .u64=>18446744073709551616
noncomputable def wr(k:IntKind):Int→Int
 | .ofNat n=>bif Nat.blt n (qKp k)then .ofNat n else k.wrap (.ofNat n)
 | .negSucc n=>k.wrap (.negSucc n)
noncomputable def ieq:Int→Int→Bool
 | .ofNat a,.ofNat b=>Nat.beq a b
 | .negSucc a,.negSucc b=>Nat.beq a b
 | _,_=>false
noncomputable def ilt:Int→Int→Bool
 | .ofNat a,.ofNat b=>Nat.blt a b
 | .negSucc a,.negSucc b=>Nat.blt b a
 | .negSucc _,.ofNat _=>true
 | .ofNat _,.negSucc _=>false
noncomputable def zYn(op:BinOp)(k:IntKind)(a b:Int):Option Value:=match op with
 | .add=>some (.int k (wr k (Int.add a b)))
 | .sub=>some (.int k (wr k (Int.sub a b)))
 | .mul=>some (.int k (wr k (Int.mul a b)))
 | .eql=>some (.bool (ieq a b))
 | .neq=>some (.bool (!ieq a b))
 | .lss=>some (.bool (ilt a b))
 | .leq=>some (.bool (!ilt b a))
 | .gtr=>some (.bool (ilt b a))
 | .geq=>some (.bool (!ilt a b))
 | _=>none
noncomputable def zYm(a b:Bool):Bool:=match a with | true=>b | false=>!b
noncomputable def bin(op:BinOp)(x y:Value):Option Value:=match x,y with
 | .int k a,.int k' b=>bif Nat.beq (kind k) (kind k')then zYn op k a b else none
 | _,_=>none
noncomputable def zer(P:Program)(t:TypeId):Option (List T):=match(P.info? t)with
 | some i=>(match i.zero with | some v=>some (v.cells.toList.map ofV) | none=>none)
 | none=>none
noncomputable def zYz(P:Program)(s f:Nat):Option (Nat×Nat):=match P.underlying s with
 | some (.struct fs)=>(match fs[f]? with | some x=>some (x.offset,x.type) | none=>none)
 | _=>none
noncomputable def elT(P:Program)(t:TypeId):Option TypeId:=match P.underlying t with
 | some (.slice e)=>some e
 | _=>none
noncomputable def jA:List T→Nat→List T
 | [],_=>[]
 | x::l,n=>match n with
  | 0=>x::l
  | n+1=>jA l n
noncomputable def jD:Nat→List T→Option (List T)
 | 0,_=>some []
 | _+1,[]=>none
 | n+1,x::l=>match jD n l with
  | some r=>some (x::r)
  | none=>none
noncomputable def cellsOf:T→List T
 | .ag cs=>cs
 | t=>[t]
noncomputable def nQ:TO→Option (List T)
 | .row cs _=>some cs
 | .gro cs _=>some cs.list
 | .fz cs=>some cs
 | _=>none
noncomputable def sV:TO→Option (List T)
 | .row cs _=>some cs
 | .gro cs _=>some cs.list
 | _=>none
noncomputable def bV(H:List TO):T→Option (List T)
 | .op i o=>(match nQ (nth .gone H i)with | some cs=>some (jA cs o) | none=>none)
 | .fp cs=>some cs
 | _=>none
noncomputable def mkT(g:Bool)(cs:List T):T:=bif g then .ag cs else(match cs with | x::_=>x | []=> .u)
noncomputable def sN:T→Option Nat
 | .v (.int _ (.ofNat i))=>some i
 | _=>none
noncomputable def jF(cs:List T)(o:Nat):List T→List T
 | []=>cs
 | x::l=>jF (put x cs o) (o+1) l
noncomputable def isU:T→Bool
 | .u=>true
 | _=>false
noncomputable def one:T→Bool
 | .u | .ag _ | .tu _=>false
 | _=>true
noncomputable def xV:List T→Bool
 | []=>true
 | t::l=>one t&&xV l
noncomputable def zEg(sz:Nat→Option (Nat×Nat))(cs:List T):List (Nat×T)→Option (List T)
 | []=>some cs
 | (i,t)::l=>match sz i with
  | none=>none
  | some (o,s)=>bif !isU t&&(Nat.beq (ln (cellsOf t)) s&&Nat.ble (o+s) (ln cs))then zEg sz (jF cs o (cellsOf t)) l else none
noncomputable def reps(z:List T):Nat→List T
 | 0=>[]
 | n+1=>z++reps z n
noncomputable def evP(ρ:Operand→T)(parts:Array (Nat×Operand)):List (Nat×T):=parts.toList.map fun p=>(p.1,ρ p.2)
noncomputable def pY(x:T)(lo hi:Nat)(sz:Nat):Option T:=match x with
 | .sl cs n=>bif Nat.ble lo hi&&Nat.ble hi n then some (bif Nat.beq lo hi then .sl [] 0 else .sl (jA cs (lo*sz)) (hi-lo))else none
 | .os i o n c=>bif Nat.ble lo hi&&Nat.ble hi c then(bif Nat.beq lo c then some (.os i o (hi-lo) (c-lo))else some (.os i (o+lo*sz) (hi-lo) (c-lo)))else none
 | .og i o n=>bif Nat.ble lo hi&&(Nat.ble hi n&&(Nat.blt lo n&&Nat.blt 0 sz))then some (.og i (o+lo*sz) (hi-lo))else(bif Nat.beq lo 0&&Nat.beq hi 0 then some (.og i o 0)else(bif Nat.beq lo hi&&Nat.ble hi n then some (.sl [] 0)else none))
 | .st cs n=>bif Nat.ble lo hi&&Nat.beq hi n then some (bif Nat.beq lo hi then .st [] 0 else .st (jA cs (lo*sz)) (hi-lo))else none
 | .v (.slice none 0 0)=>bif Nat.beq hi 0&&Nat.beq lo 0 then some x else none
 | .ls g A l=>bif Nat.beq sz A.size&&(Nat.ble lo hi&&Nat.ble hi l.length)then some (.ls g A ((l.drop lo).take (hi-lo)))else none
 | _=>none
noncomputable def lH(x:T)(lo hi mx:Nat)(sz:Nat):Option T:=match x with
 | .os i o n c=>bif Nat.ble lo hi&&(Nat.ble hi mx&&Nat.ble mx c)then some (.os i (bif Nat.beq lo mx then o else o+lo*sz) (hi-lo) (mx-lo))else none
 | .og i o n=>bif Nat.ble lo hi&&(Nat.ble hi mx&&Nat.ble mx n)then some (.os i (bif Nat.beq lo mx then o else o+lo*sz) (hi-lo) (mx-lo))else none
 | .sl cs n=>bif Nat.ble lo hi&&(Nat.beq hi mx&&Nat.ble mx n)then some (bif Nat.beq lo hi then .st [] 0 else .st (jA cs (lo*sz)) (hi-lo))else none
 | .st cs n=>bif Nat.ble lo hi&&(Nat.beq hi mx&&Nat.ble mx n)then some (bif Nat.beq lo hi then .st [] 0 else .st (jA cs (lo*sz)) (hi-lo))else none
 | .v (.slice none 0 0)=>bif Nat.beq hi 0&&(Nat.beq lo 0&&Nat.beq mx 0)then some x else none
 | .ls _ _ l=>bif(Nat.beq lo hi&&Nat.beq hi mx)&&Nat.ble mx l.length then some (.st [] 0)else none
 | _=>none
noncomputable def qZ:T→Option Nat
 | .sl _ n=>some n
 | .sn _ n=>some n
 | .st _ n=>some n
 | .os _ _ n _=>some n
 | .og _ _ n=>some n
 | .v (.slice none 0 0)=>some 0
 | .ls _ _ l=>some l.length
 | .hv _ l=>some l.length
 | _=>none
noncomputable def qC(H:List TO)(sz:Nat):T→Option (List T)
 | .sl cs n=>jD (n*sz) cs
 | .sn cs n=>jD (n*sz) cs
 | .st cs n=>jD (n*sz) cs
 | .os i o n _=>(match nQ (nth .gone H i)with | some cs=>jD (n*sz) (jA cs o) | none=>none)
 | .og i o n=>(match nQ (nth .gone H i)with | some cs=>jD (n*sz) (jA cs o) | none=>none)
 | .v (.slice none 0 0)=>some []
 | .ls g A l=>bif Nat.beq sz A.size then some (kR g A l)else none
 | _=>none
abbrev R1:=Option (T×Option TO)
noncomputable def zHa(P:Program)(op:BinOp)(t:TypeId):R1:=match elT P t with
 | some _=>(match op with
  | .eql=>some (.v (.bool false),none)
  | .neq=>some (.v (.bool true),none)
  | _=>none)
 | none=>none
noncomputable def val(t:T):R1:=some (t,none)
noncomputable def qAl:Option T→R1
 | some t=>some (t,none)
 | none=>none
noncomputable def zKx(c a b:T):R1:=match c with
 | .v (.bool c)=>val (bif c then a else b)
 | _=>none
noncomputable def zUh(P:Program)(k:Nat)(e:TypeId):R1:=match zer P e with
 | some cs=>some (.op k 0,some (.row cs e))
 | none=>none
noncomputable def qVt(k:Nat)(e:TypeId)(x:T):R1:=bif isU x then none else some (.op k 0,some (.row (cellsOf x) e))
noncomputable def zUl(P:Program):List Field→Option (List (Nat×Nat))
 | []=>some []
 | f::l=>match ldT P f.type,zUl P l with
  | some (_,s),some r=>some ((f.offset,s)::r)
  | _,_=>none
noncomputable def qHd(P:Program)(t:TypeId):Option (Nat→Option (Nat×Nat)):=match P.underlying t with
 | some (.struct fs)=>(match zUl P fs.toList with
  | some l=>some fun i=>l[i]?
  | none=>none)
 | some (.array _ e)=>(match ldT P e with
  | some (_,s)=>some fun i=>some (i*s,s)
  | none=>none)
 | _=>none
noncomputable def zUi(P:Program)(t:TypeId)(ps:List (Nat×T)):R1:=match zer P t,qHd P t with
 | some z,some f=>(match zEg f z ps with | some cs=>val (.ag cs) | none=>none)
 | _,_=>none
noncomputable def gW(P:Program)(k:Nat)(t:TypeId)(n:Nat)(ps:List (Nat×T)):R1:=match elT P t with
 | some e=>(match zer P e,ldT P e with
  | some z,some (_,s)=>bif Nat.ble (n*s) 16777216&&(Nat.beq (ln z) s&&Nat.blt 0 s)then(match zEg (fun i=>some (i*s,s)) (reps z n) ps with | some cs=>some (.os k 0 n n,some (.row cs e)) | none=>none)else none
  | _,_=>none)
 | none=>none
noncomputable def zBs(P:Program)(H:List TO)(t:TypeId)(a:T):R1:=match ldT P t with
 | some (g,s)=>(match bV H a with
  | some cs=>(match jD s cs with | some cs=>bif g||Nat.beq s 1 then val (mkT g cs)else none | none=>none)
  | none=>none)
 | none=>none
noncomputable def qMv(x:T):R1:=match x with
 | .op i o=>val (.op i o)
 | .fp cs=>val (.fp cs)
 | .fn f cs=>val (.fn f cs)
 | .yl i=>val (.yl i)
 | _=>none
noncomputable def qDv(P:Program)(k:IntKind)(o:Nat)(f:Field):Bool:=match P.underlying f.type with
 | some (.int k')=>Nat.beq (kind k) (kind k')&&(Nat.beq f.offset o&&!(f.name== "_"))
 | _=>false
noncomputable def vQ(P:Program)(t:TypeId):Ty→Bool
 | .int k=>(match P.underlying t with | some (.int k')=>Nat.beq (kind k) (kind k') | _=>false)
 | .str=>(match P.underlying t with | some .string=>true | _=>false)
 | .prod (.int i) (.prod (.int j) (.int k))=>(match P.underlying t with
  | some (.struct ⟨[f0,f1,f2]⟩)=>!P.stoodInHeld t&&(qDv P i 0 f0&&(qDv P j 1 f1&&qDv P k 2 f2))
  | _=>false)
 | _=>false
noncomputable def eq3(P:Program)(op:BinOp)(t:TypeId)(xs ys:List T):R1:=match xs,ys with
 | [.v (.int i a),.v (.int j b),.v (.int k c)],[.v (.int i' a'),.v (.int j' b'),.v (.int k' c')]=>bif vQ P t (.prod (.int i) (.prod (.int j) (.int k)))&&(!P.eqGuardType P.depth t&&(Nat.beq (kind i) (kind i')&&(Nat.beq (kind j) (kind j')&&Nat.beq (kind k) (kind k'))))then(match op with
  | .eql=>val (.v (.bool (ieq a a'&&(ieq b b'&&ieq c c'))))
  | .neq=>val (.v (.bool (!(ieq a a'&&(ieq b b'&&ieq c c')))))
  | _=>none)else none
 | _,_=>none
noncomputable def zZx(P:Program)(op:BinOp)(t:TypeId)(x y:T):R1:=match x,y with
 | .v a,.v b=>(match bin op a b with | some c=>val (.v c) | none=>none)
 | .os ..,.v (.slice none 0 0)=>zHa P op t
 | .og ..,.v (.slice none 0 0)=>zHa P op t
 | .sl (_::_) _,.v (.slice none 0 0)=>zHa P op t
 | .st (_::_) _,.v (.slice none 0 0)=>zHa P op t
 | .ag xs,.ag ys=>eq3 P op t xs ys
 | _,_=>none
noncomputable def qGx(P:Program)(k:Nat)(t:TypeId)(l c:T):R1:=match elT P t,sN l,sN c with
 | some e,some l,some c=>(match zer P e,ldT P e,P.info? e with
  | some z,some (_,s),some i=>bif(Nat.ble l c&&Nat.ble c 1000000)&&(Nat.ble i.bytes 1000000&&(Nat.beq (ln z) s&&Nat.blt 0 s))then some (.os k 0 l c,some (.row (reps z c) e))else none
  | _,_,_=>none)
 | _,_,_=>none
noncomputable def opt(ρ:Operand→T)(d:Nat):Option Operand→Option Nat
 | some x=>sN (ρ x)
 | none=>some d
noncomputable def wH(ρ:Operand→T)(x:T)(s lo hi:Nat)(hio:Option Operand):Option Operand→R1
 | none=>qAl (pY x lo hi s)
 | some m=>(match hio with
  | some _=>(match sN (ρ m)with
   | some m=>qAl (lH x lo hi m s)
   | none=>none)
  | none=>none)
noncomputable def pQ(P:Program)(t:TypeId)(x:T)(ρ:Operand→T)(lo hi mx:Option Operand):R1:=match elT P t with
 | some e=>(match ldT P e,qZ x with
  | some (_,s),some n=>(match opt ρ 0 lo,opt ρ n hi with
   | some l,some h=>wH ρ x s l h hi mx
   | _,_=>none)
  | _,_=>none)
 | none=>none
noncomputable def mZ(P:Program)(s:TypeId)(x:T)(f:Nat):R1:=match zYz P s f with
 | some (o,t)=>(match ldT P t with
  | some (_,z)=>bif Nat.beq z 0 then none else(match x with
   | .op i j=>val (.op i (j+o))
   | .fp cs=>val (.fp (jA cs o))
   | _=>none)
  | none=>none)
 | none=>none
noncomputable def zMz(P:Program)(s:TypeId)(x:T)(f:Nat):R1:=match zYz P s f with
 | some (o,t)=>(match x with
  | .ag cs=>(match ldT P t with
   | some (g,s)=>(match jD s (jA cs o)with | some cs=>bif g||Nat.beq s 1 then val (mkT g cs)else none | none=>none)
   | none=>none)
  | _=>none)
 | none=>none
noncomputable def wU(P:Program)(t:TypeId)(x i:T):R1:=match sN i with
 | some i=>(match P.underlying t with
  | some (.slice e)=>(match ldT P e with
   | some (_,s)=>(match x with
    | .sl cs n=>bif Nat.blt i n then val (.fp (jA cs (i*s)))else none
    | .st cs n=>bif Nat.blt i n then val (.fp (jA cs (i*s)))else none
    | .os j o n _=>bif Nat.blt i n then val (.op j (o+i*s))else none
    | .og j o n=>bif Nat.blt i n then val (.op j (o+i*s))else none
    | .ls g A l=>bif Nat.beq s A.size&&Nat.blt i l.length then val (.fp (cellsD g A (nth A.zero l i)))else none
    | .hv A l=>bif Nat.beq s A.size&&Nat.blt i l.length then val (.fp (zCn A (nth A.zero l i)))else none
    | _=>none)
   | none=>none)
  | some (.array n e)=>(match ldT P e with
   | some (_,s)=>(match x with
    | .op j o=>bif Nat.blt i n then val (.op j (o+i*s))else none
    | .fp cs=>bif Nat.blt i n then val (.fp (jA cs (i*s)))else none
    | _=>none)
   | none=>none)
  | _=>none)
 | none=>none
noncomputable def qMs(P:Program)(t:TypeId)(x i:T):R1:=match sN i with
 | some i=>(match P.underlying t with
  | some (.array n e)=>(match ldT P e with
   | some (g,s)=>(match x with
    | .ag cs=>bif Nat.blt i n&&(g||Nat.beq s 1)then(match jD s (jA cs (i*s))with | some cs=>val (mkT g cs) | none=>none)else none
    | _=>none)
   | none=>none)
  | _=>none)
 | none=>none
noncomputable def zBr(x:T)(i:Nat):R1:=match x with
 | .tu vs=>(match vs[i]? with | some t=>val t | none=>none)
 | _=>none
noncomputable def qVu(x:T):R1:=match qZ x with
 | some n=>val (.v (.int .i64 (.ofNat n)))
 | none=>none
noncomputable def pMkF(fn:Fn)(first cs:List T):R1:=match fn,first with
 | .func f,[]=>val (.fn f cs)
 | .func f,bs=>(match cs with | []=>val (.fb f bs) | _=>none)
 | _,_=>none
noncomputable def zJa{α:Type}(P:Program):Sem α→Option α
 | .pure a=>some a
 | .program k=>zJa P (k P)
 | _=>none
noncomputable def vOf:T→Option Value
 | .v x=>some x
 | _=>none
noncomputable def zUy:List T→Option (List Value)
 | []=>some []
 | t::l=>match vOf t,zUy l with
  | some x,some r=>some (x::r)
  | _,_=>none
noncomputable def sOf:T→Option Value
 | .v x=>some x
 | .ag cs=>(match zUy cs with | some l=>some (.agg l.toArray) | none=>none)
 | _=>none
noncomputable def zMe(d:TypeDesc)(k:Value):List (Value×T)→Nat→Option (Option Nat)
 | [],_=>some none
 | e::es,i=>match Instr.sameNow d k e.1 with
  | some true=>some (some i)
  | some false=>zMe d k es (i+1)
  | none=>none
noncomputable def qEa(P:Program)(t:TypeId)(k:Value):List (Value×T)→Nat→Option (Option Nat)
 | [],_=>some none
 | e::es,i=>match zJa P (Op.equal t k e.1)with
  | some true=>some (some i)
  | some false=>qEa P t k es (i+1)
  | none=>none
noncomputable def zKd(P:Program)(t:TypeId)(k:Value)(l:List (Value×T)):Option (Option Nat):=match P.underlying t with
 | some d=>(match zMe d k l 0 with
  | some r=>some r
  | none=>qEa P t k l 0)
 | none=>none
noncomputable def kOk(P:Program)(e:Bool)(t:TypeId)(k:Value):Bool:=match zJa P (Instr.checkKey e 10000 t k)with
 | some _=>true
 | none=>false
noncomputable def emp{α:Type}:List α→Bool
 | []=>true
 | _=>false
noncomputable def mapT(P:Program)(t:TypeId):Option (TypeId×TypeId):=match P.underlying t with
 | some (.map k v)=>some (k,v)
 | _=>none
noncomputable def qOh(P:Program)(e:TypeId):Option T:=match P.info? e with
 | some i=>(match i.zero with | some v=>some (ofC v) | none=>none)
 | none=>none
noncomputable def zJr(H:List TO):T→Option (List (Value×T))
 | .v (.map none)=>some []
 | .om i=>(match nth .gone H i with
  | .map l=>some l
  | _=>none)
 | _=>none
noncomputable def okT(ok:Bool)(t:T)(b:Bool):T:=bif ok then .tu [t,.v (.bool b)]else t
noncomputable def qUz(l:List (Value×T))(i:Nat):Option T:=match l[i]? with
 | some e=>some e.2
 | none=>none
noncomputable def zLs:(A:Ty)→A.den→List Value
 | .int k,a=>[.int k a]
 | .str,s=>[.string s]
 | .prod A B,x=>zLs A x.1++zLs B x.2
 | _,_=>[]
noncomputable def xJ:(K:Ty)→K.den→Value
 | .int k,a=> .int k a
 | .str,s=> .string s
 | .prod A B,x=> .agg (zLs (.prod A B) x).toArray
 | _,_=> .nilIface
noncomputable def unT(g:Tg)(V:Ty)(x:V.den):T:=match cellsD g V x with
 | [t]=>t
 | l=> .ag l
noncomputable def MD.ents(d:MD):List (Value×T):=d.l.map fun e=>(xJ d.K e.1,unT d.g d.V e.2)
noncomputable def keq:(K:Ty)→K.den→K.den→Bool
 | .int _,a,b=>ieq a b
 | .str,a,b=>decide (a=b)
 | .prod A B,a,b=>keq A a.1 b.1&&keq B a.2 b.2
 | _,_,_=>false
noncomputable def zTh(K:Ty){α:Type}(k:K.den):List (K.den×α)→Bool
 | []=>false
 | e::l=>keq K k e.1||zTh K k l
noncomputable def jY(K:Ty){α:Type}(z:α)(k:K.den):List (K.den×α)→α
 | []=>z
 | e::l=>bif keq K k e.1 then e.2 else jY K z k l
noncomputable def bI(K:Ty){α:Type}(k:K.den)(x:α):List (K.den×α)→List (K.den×α)
 | []=>[(k,x)]
 | e::l=>bif keq K k e.1 then(k,x)::l else e::bI K k x l
noncomputable def zJm(g:Tg)(A:Ty):T→Option A.den
 | .ag cs=>bif Nat.blt 1 A.size then nG g A cs else none
 | t=>bif Nat.beq A.size 1 then nG g A [t]else none
noncomputable def dOf(H:List TO):T→Option MD
 | .om i=>(match nth .gone H i with
  | .mapd d=>some d
  | _=>none)
 | _=>none
noncomputable def lkD(P:Program)(kt vt:TypeId)(d:MD)(k:T)(ok:Bool):R1:=match zJm .a d.K k,qOh P vt with
 | some key,some z=>(match zJm d.g d.V z with
  | some z0=>bif vQ P kt d.K then val (okT ok (unT d.g d.V (jY d.K z0 key d.l)) (zTh d.K key d.l))else none
  | none=>none)
 | _,_=>none
noncomputable def zHn(P:Program)(H:List TO)(t:TypeId)(m k:T)(ok:Bool):R1:=match mapT P t,zJr H m,sOf k with
 | some (kt,vt),some l,some kv=>bif kOk P (emp l) kt kv then(match zKd P kt kv l with
  | some (some i)=>(match qUz l i with | some x=>val (okT ok x true) | none=>none)
  | some none=>(match qOh P vt with | some z=>val (okT ok z false) | none=>none)
  | none=>none)else none
 | _,_,_=>none
noncomputable def zNa(P:Program)(H:List TO)(t:TypeId)(m k:T)(ok:Bool):R1:=match dOf H m with
 | some d=>(match mapT P t with
  | some (kt,vt)=>lkD P kt vt d k ok
  | none=>none)
 | none=>zHn P H t m k ok
noncomputable def qGu(H:List TO)(m:T):R1:=match dOf H m with
 | some d=>val (.v (.int .i64 (.ofNat d.l.length)))
 | none=>(match zJr H m with
  | some l=>val (.v (.int .i64 (.ofNat (ln l))))
  | none=>none)
noncomputable def zEi(P:Program)(H:List TO)(ρ:Operand→T)(c:Call):R1:=match c.callee,c.args.toList,c.argTypes.toList with
 | .builtin .len,[x],[t]=>(match elT P t with
  | some _=>qVu (ρ x)
  | none=>(match mapT P t with
   | some _=>qGu H (ρ x)
   | none=>none))
 | _,_,_=>none
noncomputable def kT(P:Program)(H:List TO)(k:Nat)(ρ:Operand→T)(op:Op):R1:=match op with
 | .move x=>val (ρ x)
 | .assign x=>val (ρ x)
 | .pick c a b=>zKx (ρ c) (ρ a) (ρ b)
 | .alloc e=>zUh P k e
 | .box e x=>qVt k e (ρ x)
 | .build t parts=>zUi P t (evP ρ parts)
 | .buildSlice t n parts=>gW P k t n (evP ρ parts)
 | .load t a=>zBs P H t (ρ a)
 | .nilCheck x=>qMv (ρ x)
 | .binOp op t x y _=>zZx P op t (dn (ρ x)) (dn (ρ y))
 | .makeFunc fn first caps=>pMkF fn (first.toList.map ρ) (caps.toList.map ρ)
 | .makeSlice t l c=>qGx P k t (ρ l) (ρ c)
 | .slice t x lo hi mx=>pQ P t (dn (ρ x)) (fun y=>dn (ρ y)) lo hi mx
 | .fieldAddr s x f=>mZ P s (ρ x) f
 | .field s x f=>zMz P s (ρ x) f
 | .indexAddr t x i=>wU P t (dn (ρ x)) (dn (ρ i))
 | .index t x i=>qMs P t (dn (ρ x)) (dn (ρ i))
 | .extract x i=>zBr (ρ x) i
 | .call c=>zEi P H (fun y=>dn (ρ y)) c
 | .makeMap _ none=>some (.om k,some (.map []))
 | .lookup t m x ok=>zNa P H t (ρ m) (ρ x) ok
 | _=>none
noncomputable def qAe(H:List TO)(i o:Nat)(vs:List T):Option (List TO):=match nth .gone H i with
 | .row cs e=>bif Nat.ble (o+ln vs) (ln cs)then some (put (.row (jF cs o vs) e) H i)else none
 | .gro cs e=>bif Nat.ble (o+ln vs) (ln cs.list)then some (put (.gro (.l (jF cs.list o vs)) e) H i)else none
 | _=>none
noncomputable def qSc(H:List TO)(e:TypeId)(y:T)(a b:List T)(n m:Nat):T×List TO:=(.og (ln H) 0 (n+m),H++[.gro ((Cs.l a).apY y b) e])
noncomputable def qJe(H:List TO)(x:T):Option (T×List TO):=match x with
 | .v _=>some (x,H)
 | .og .. =>some (x,H)
 | .os _ _ n c=>bif Nat.ble n c then some (x,H)else none
 | .st .. =>some (x,H)
 | _=>none
noncomputable def qSb(H:List TO)(e:TypeId)(s:Nat)(y:T)(a b:List T)(i o n m:Nat):TO→Option (T×List TO)
 | .gro cs e'=>bif Nat.beq o 0&&(Nat.beq (ln cs.list) (n*s)&&Nat.beq e e')then some (.og (ln H) 0 (n+m),put .gone H i++[.gro (cs.apY y b) e])else none
 | _=>none
noncomputable def qJg(H:List TO)(e:TypeId)(s:Nat)(y:T)(a b:List T)(n m:Nat)(x:T):Option (T×List TO):=match x with
 | .v _=>some (qSc H e y a b n m)
 | .st .. =>some (qSc H e y a b n m)
 | .os _ _ n' c=>bif Nat.beq n' c then some (qSc H e y a b n m)else none
 | .og i o n=>qSb H e s y a b i o n m (nth .gone H i)
 | _=>none
noncomputable def apM(b:Nat):Nat:=(281474976710656 / b-192)*4 / 5
noncomputable def zAn(P:Program)(e:TypeId)(s N:Nat):Bool:=match P.info? e,zer P e with
 | some i,some z=>Nat.beq (ln z) s&&(Nat.ble N (apM i.bytes)&&Nat.blt 0 s)
 | _,_=>false
noncomputable def zSj(P:Program)(H:List TO)(t:TypeId)(x y:T):Option (T×List TO):=match elT P t with
 | none=>none
 | some e=>match ldT P e with
  | none=>none
  | some (_,s)=>match qC H s x,qC H s y,qZ x,qZ y with
   | some a,some b,some n,some m=>bif Nat.beq m 0 then qJe H x else bif zAn P e s (n+m)&&xV b then qJg H e s y a b n m x else none
   | _,_,_,_=>none
noncomputable def qNq(P:Program)(H:List TO)(t:TypeId)(a x:T):Option (List TO):=match ldT P t,a with
 | some (_,m),.op i o=>bif xV (cellsOf x)&&Nat.beq (ln (cellsOf x)) m then qAe H i o (cellsOf x)else none
 | _,_=>none
noncomputable def qXr(P:Program)(kt:TypeId)(kv:Value)(x:T)(l:List (Value×T)):Option (List (Value×T)):=bif kOk P false kt kv then(match zKd P kt kv l with
 | some (some i)=>(match l[i]? with
  | some e=>bif Instr.sameBits 10000 e.1 kv then some (put (kv,x) l i)else none
  | none=>none)
 | some none=>some (l++[(kv,x)])
 | none=>none)else none
noncomputable def qXq(P:Program)(kt:TypeId)(d:MD)(k x:T):Option MD:=match zJm .a d.K k,zJm d.g d.V x with
 | some key,some y=>bif vQ P kt d.K then some ⟨d.g,d.K,d.V,bI d.K key y d.l⟩else none
 | _,_=>none
noncomputable def qOb(P:Program)(H:List TO)(t:TypeId)(m k x:T):Option (List TO):=match m with
 | .om i=>(match nth .gone H i with
  | .map l=>(match mapT P t,sOf k with
   | some (kt,_),some kv=>(match qXr P kt kv x l with
    | some l=>some (put (.map l) H i)
    | none=>none)
   | _,_=>none)
  | .mapd d=>(match mapT P t with
   | some (kt,_)=>(match qXq P kt d k x with
    | some d=>some (put (.mapd d) H i)
    | none=>none)
   | none=>none)
  | _=>none)
 | _=>none
noncomputable def qJu(P:Program)(H:List TO)(t:TypeId)(x y:T):Option (T×List TO):=match x with
 | .os i o n _=>(match elT P t with
  | some e=>(match ldT P e with
   | some (_,s)=>(match qC H s y,qZ y with
    | some b,some m=>(match jD (Nat.min m n*s) b with
     | some us=>bif xV us&&Nat.blt 0 (Nat.min m n*s)then(match qAe H i o us with | some H'=>some (.v (.int .i64 (.ofNat (Nat.min m n))),H') | none=>none)else none
     | none=>none)
    | _,_=>none)
   | none=>none)
  | none=>none)
 | _=>none
noncomputable def zCs(P:Program)(H:List TO)(ρ:Operand→T)(op:Op):Option (Option T×List TO):=match op with
 | .store t a x=>(match qNq P H t (ρ a) (ρ x)with | some H=>some (none,H) | none=>none)
 | .mapUpdate t m k x=>(match qOb P H t (ρ m) (ρ k) (ρ x)with | some H=>some (none,H) | none=>none)
 | .call c=>(match c.callee,c.args.toList,c.argTypes.toList with
  | .builtin .append,[x,y],[t,t']=>bif Nat.beq t t' then(match zSj P H t (ρ x) (ρ y)with | some (v,H)=>some (some v,H) | none=>none)else none
  | .builtin .copy,[x,y],[t,_]=>(match qJu P H t (ρ x) (ρ y)with | some (v,H)=>some (some v,H) | none=>none)
  | _,_,_=>none)
 | _=>none
noncomputable def zRo(ρ:Operand→T):List Operand→Bool
 | []=>true
 | x::l=>(match sOf (ρ x)with | some _=>zRo ρ l | none=>false)
noncomputable def sAt(ρ:Operand→T)(x:Operand):Value:=match sOf (ρ x)with
 | some v=>v
 | none=>undef
noncomputable def qFf:Option Next→Option T
 | some (.value v)=>some (ofC v)
 | _=>none
noncomputable def zBl(P:Program)(ρ:Operand→T)(o:Oper):Option T:=bif zQh o.op&&zRo ρ o.op.operands.toList then qFf (zJa P (execOp (sAt ρ) o))else none
noncomputable def kH(ops:Array Oper)(L:List T)(o:Oper):Option Bool:=match o.guard with
 | none=>some true
 | some (j,b)=>match(match ops[j]? with | some p=>p.dst | none=>none)with
  | some t=>(match nth .u L t with
   | .v (.bool c)=>some (zYm c b)
   | .v (.int .u8 _)=>none
   | .tu []=>some false
   | _=>none)
  | none=>none
noncomputable def dst(d:Option Nat)(t:T)(L:List T):List T:=match d with
 | some d=>put t L d
 | none=>L
abbrev Cl:=Nat→List T→List TO→Option (T×List TO)
abbrev Po:=Nat→List T→Option (T×Bool)
abbrev Oo:=List TO→Nat→List T→Option T
abbrev Rn:=Code→S→Option (Ex×S)
noncomputable def zPg(d:Option Nat)(L:List T)(H:List TO)(r:T×Option TO):Option S:=match r.2 with
 | none=>some ⟨dst d r.1 L,H⟩
 | some ob=>some ⟨dst d r.1 L,H++[ob]⟩
noncomputable def zPh(d:Option Nat)(L:List T)(r:Option T×List TO):Option S:=match r.1 with
 | some t=>some ⟨dst d t L,r.2⟩
 | none=>(match d with
  | none=>some ⟨L,r.2⟩
  | some _=>none)
noncomputable def gK(d:Option Nat)(L:List T):Option (T×List TO)→Option S
 | some (t,H)=>some ⟨dst d t L,H⟩
 | none=>none
noncomputable def jE(P:Program)(f:Nat):Bool:=match P.funcs[f]? with
 | some fn=>bif fn.name== "runtime.NumGoroutine" then false else fn.body.isSome
 | none=>false
noncomputable def zEd(P:Program)(cl yd:Cl)(d:Option Nat)(L:List T)(H:List TO)(az:List T):T→Option S
 | .fn f cs=>bif jE P f then gK d L (cl f (az++cs) H)else none
 | .fb f bs=>bif jE P f then gK d L (cl f (bs++az) H)else none
 | .yl l=>gK d L (yd l az H)
 | _=>none
noncomputable def opC(P:Program)(cl yd:Cl)(d:Option Nat)(L:List T)(H:List TO):Op→Option S
 | .call c=>(match c.callee with
  | .value f=>zEd P cl yd d L H (c.args.toList.map (evO L)) (evO L f)
  | _=>none)
 | _=>none
noncomputable def qFr(P:Program)(o:Oper)(L:List T)(H:List TO):Option S:=match zBl P (evO L) o with
 | some t=>some ⟨dst o.dst t L,H⟩
 | none=>none
noncomputable def zQo(P:Program)(cl yd:Cl)(o:Oper)(L:List T)(H:List TO):Option S:=match zCs P H (evO L) o.op with
 | some r=>zPh o.dst L r
 | none=>match opC P cl yd o.dst L H o.op with
  | some s=>some s
  | none=>qFr P o L H
noncomputable def gQ(P:Program)(cl yd:Cl)(o:Oper)(L:List T)(H:List TO):Option S:=match kT P H (ln H) (evO L) o.op with
 | some r=>zPg o.dst L H r
 | none=>zQo P cl yd o L H
noncomputable def opE(P:Program)(cl yd:Cl)(ops:Array Oper)(o:Oper)(s:S):Option S:=match kH ops s.L o with
 | none=>none
 | some false=>some ⟨dst o.dst (.tu []) s.L,s.H⟩
 | some true=>gQ P cl yd o s.L s.H
noncomputable def zQs(P:Program)(cl yd:Cl)(ops:Array Oper):List Oper→S→Option S
 | [],s=>some s
 | o::l,s=>match opE P cl yd ops o s with
  | some s=>zQs P cl yd ops l s
  | none=>none
noncomputable def yS:Op→Bool
 | .defer _=>false
 | _=>true
noncomputable def qVw(L:List T):Op→Option T
 | .panic x=>(match evO L x with
  | .v (.iface t (.int k n))=>some (.v (.iface t (.int k n)))
  | _=>none)
 | _=>none
noncomputable def qSp(P:Program)(pc:Cl)(s:S):Op→Option (T×List TO)
 | .call c=>(match c.callee with
  | .value f=>(match evO s.L f with
   | .fn f cs=>bif jE P f then pc f (c.args.toList.map (evO s.L)++cs) s.H else none
   | .fb f bs=>bif jE P f then pc f (bs++c.args.toList.map (evO s.L)) s.H else none
   | _=>none)
  | _=>none)
 | _=>none
noncomputable def qTk(L:List T):Option (T×List TO)→Option (Ex×S)
 | some (t,H)=>some (.p t,⟨L,H⟩)
 | none=>none
noncomputable def opP(P:Program)(pc:Cl)(ops:Array Oper)(o:Oper)(s:S):Option (Ex×S):=match kH ops s.L o with
 | some true=>(match qVw s.L o.op with
  | some t=>some (.p t,s)
  | none=>qTk s.L (qSp P pc s o.op))
 | _=>none
noncomputable def qGe(P:Program)(cl yd pc:Cl)(ops:Array Oper):List Oper→S→Option (Ex×S)
 | [],s=>some (.n,s)
 | o::l,s=>match opE P cl yd ops o s with
  | some s=>qGe P cl yd pc ops l s
  | none=>opP P pc ops o s
noncomputable def zZq(P:Program)(cl yd:Cl)(ops:Array Oper):List Oper→S→Option (T×S)
 | [],_=>none
 | o::l,s=>bif yS o.op then(match opE P cl yd ops o s with
  | some s=>zZq P cl yd ops l s
  | none=>none)else(match l,o.op,o.guard,o.dst with
   | [],.defer c,none,none=>(match c.callee,c.args.toList with
    | .value f,[]=>(match evO s.L f with
     | .fn f cs=>bif jE P f then some (.fn f cs,s)else none
     | _=>none)
    | _,_=>none)
   | _,_,_,_=>none)
noncomputable def qNk(P:Program)(H:List TO)(x:T)(e:TypeId):Option T:=match ldT P e with
 | some (g,s)=>(match bV H x with
  | some cs=>(match jD s cs with
   | some cs=>bif g||Nat.beq s 1 then some (mkT g cs)else none
   | none=>none)
  | none=>none)
 | none=>none
noncomputable def fA(P:Program)(L:List T)(H:List TO):List ResultVar→Option (List T)
 | []=>some []
 | .tmp t::l=>(match fA P L H l with | some r=>some (nth .u L t::r) | none=>none)
 | .cell t e::l=>(match qNk P H (nth .u L t) e,fA P L H l with
  | some x,some r=>some (x::r)
  | _,_=>none)
noncomputable def zQy:List T→T
 | [t]=>t
 | l=> .tu l
noncomputable def us:Nat→List T
 | 0=>[]
 | n+1=> .u::us n
noncomputable def rest(n:Nat)(az:List T):List T:=az++us (n-ln az)
noncomputable def zIz:List T→List Nat→List T→List T
 | L,p::ps,a::az=>zIz (put a L p) ps az
 | L,_,_=>L
noncomputable def zRj(P:Program)(fn:Func):Option (Ex×S)→Option (T×List TO)
 | some (.x _,_)=>none
 | some (.p _,_)=>none
 | some (_,s)=>(match fA P s.L s.H fn.results.toList with
  | some r=>some (zQy r,s.H)
  | none=>none)
 | none=>none
noncomputable def clean:Nat→T→Bool
 | 0,_=>false
 | k+1,t=>match t with
  | .v _=>true
  | .ls g _ _=>g.isA
  | .sl cs _=>cs.all (clean k)
  | .st cs _=>cs.all (clean k)
  | .fp cs=>cs.all (clean k)
  | .ag cs=>cs.all (clean k)
  | .tu cs=>cs.all (clean k)
  | .fn _ cs=>cs.all (clean k)
  | _=>false
noncomputable def xR(f:T→Option T):List T→Option (List T)
 | []=>some []
 | t::l=>match f t,xR f l with
  | some x,some r=>some (x::r)
  | _,_=>none
noncomputable def gN:Ty→Bool
 | .lim=>false
 | .prod A B=>gN A&&gN B
 | _=>true
noncomputable def zTf(nw:Bool)(o n:Nat):TO→Option T
 | .gro (.d g A x) _=>bif(Nat.beq o 0&&(gN A&&(!nw||g.isN)))&&Nat.beq n x.length then some (.ls .a A x.reverse)else none
 | _=>none
noncomputable def jL(nw:Bool)(H:List TO):Nat→T→Option T
 | 0,_=>none
 | k+1,t=>match t with
  | .v x=>some (.v x)
  | .ls g A l=>bif nw then(bif g.isN then some (.ls .a A l)else none)else some (.ls .a A l)
  | .sl cs n=>bif nw then(match cs,n with | [],0=>some (.sl [] 0) | _,_=>none)else(bif clean 9 (.sl cs n)then some (.sl cs n)else none)
  | .sn cs n=>(match xR (jL nw H k) cs with | some l=>some (.sl l n) | none=>none)
  | .st cs n=>bif nw then(match cs,n with | [],0=>some (.st [] 0) | _,_=>none)else(bif clean 9 (.st cs n)then some (.st cs n)else none)
  | .fp cs=>bif nw then none else(bif clean 9 (.fp cs)then some (.fp cs)else none)
  | .ag cs=>(match xR (jL nw H k) cs with | some l=>some (.ag l) | none=>none)
  | .tu cs=>(match xR (jL nw H k) cs with | some l=>some (.tu l) | none=>none)
  | .fn f cs=>(match xR (jL nw H k) cs with | some l=>some (.fn f l) | none=>none)
  | .os i o n c=>bif Nat.ble n c&&Nat.ble c 9223372036854775807 then(match sV (nth .gone H i)with
   | some cs=>(match xR (jL nw H k) (jA cs o)with | some l=>some (.sl l n) | none=>none)
   | none=>none)else none
  | .og i o n=>(match zTf nw o n (nth .gone H i)with
   | some t=>some t
   | none=>(match sV (nth .gone H i)with
    | some cs=>(match xR (jL nw H k) (jA cs o)with | some l=>some (.sl l n) | none=>none)
    | none=>none))
  | .op i o=>(match sV (nth .gone H i)with
   | some cs=>(match xR (jL nw H k) (jA cs o)with | some l=>some (.fp l) | none=>none)
   | none=>none)
  | _=>none
noncomputable def qGs:Nat→T→Bool
 | 0,_=>true
 | k+1,t=>match t with
  | .os .. | .og .. | .op .. | .om _ | .yl _=>true
  | .ag cs=>cs.any (qGs k)
  | .tu cs=>cs.any (qGs k)
  | .fn _ cs=>cs.any (qGs k)
  | .fb _ cs=>cs.any (qGs k)
  | _=>false
noncomputable def zZv(l:List T):Bool:=l.any (qGs 6)
noncomputable def poC(po:Po)(H:List TO)(f:Nat)(az:List T):Option T:=bif zZv az then(match xR (jL false H 12) az with
  | some az2=>(match po f az2 with
   | some (t,true)=>some (mkN 12 t)
   | _=>none)
  | none=>none)
 else(match po f az with
  | some (t,nw)=>some (bif nw then mkN 12 t else t)
  | none=>none)
noncomputable def endY(l:Nat):Option (Ex×S)→Option (T×List TO)
 | some (e,s)=>(match nth .gone s.H l with
  | .loop L ps a b false none=>(match e with
   | .n=>some (.v (.bool true),put (.loop L ps a b true none) s.H l)
   | .r=>some (.v (.bool false),put (.loop L ps a b false (some .ret)) s.H l)
   | .x id=>some (.v (.bool false),put (.loop L ps a b false (some (.exit id))) s.H l)
   | .p _=>none)
  | _=>none)
 | none=>none
noncomputable def qPj(rn:Rn)(l:Nat)(b0:Code):Option (Ex×S)→Option (T×List TO)
 | some (.n,s)=>(match nth .gone s.H l with
  | .loop L ps a b true none=>endY l (rn b0 ⟨s.L,put (.loop L ps a b false none) s.H l⟩)
  | _=>none)
 | _=>none
noncomputable def zIp(rn:Rn):Cl:=fun l az H=>match nth .gone H l with
 | .loop L ps a b true none=>bif Nat.beq (ln ps) (ln az)then qPj rn l b (rn a ⟨zIz L ps az,H⟩)else none
 | _=>none
noncomputable def zEz(rn:Rn)(y:Code):Option (Ex×S)→Option (Ex×S)
 | some (.n,s)=>rn y s
 | r=>r
noncomputable def qPl(rn:Rn)(x y:Code)(s:S):T→Option (Ex×S)
 | .v (.bool b)=>rn (bif b then x else y) s
 | _=>none
noncomputable def zYo(id:Nat):Option (Ex×S)→Option (Ex×S)
 | some (.x j,s)=>some (bif Nat.beq j id then .n else .x j,s)
 | r=>r
noncomputable def qNj:Option S→Option (Ex×S)
 | some s=>some (.n,s)
 | none=>none
noncomputable def qTf(l:Nat)(L:List T):Option (T×List TO)→Option (Ex×S)
 | some (_,H)=>(match nth .gone H l with
  | .loop _ _ _ _ true none=>some (.n,⟨L,put .gone H l⟩)
  | .loop _ _ _ _ false (some .ret)=>some (.r,⟨L,put .gone H l⟩)
  | .loop _ _ _ _ false (some (.exit id))=>some (.x id,⟨L,put .gone H l⟩)
  | _=>none)
 | none=>none
noncomputable def qWq(P:Program)(cl:Cl)(ps:List Nat)(a b:Code)(L:List T)(H:List TO):T→Option (Ex×S)
 | .fn f cs=>bif jE P f then qTf (ln H) L (cl f (.yl (ln H)::cs) (H++[.loop L ps a b true none]))else none
 | _=>none
noncomputable def noR:Code→Bool
 | .seq x y=>noR x&&noR y
 | .cond _ x y=>noR x&&noR y
 | .block _ x=>noR x
 | .loop x=>noR x
 | .rangeFunc .. =>false
 | .scope _=>false
 | _=>true
noncomputable def nS(ops:Array Oper):Bool:=ops.toList.all fun o=>yS o.op
noncomputable def zPv(o:Oper):Bool:=match o.op with
 | .call c=>(match c.callee,c.args.toList with
  | .builtin .recover,[]=>true
  | _,_=>false)
 | _=>false
noncomputable def noG(o:Oper):Bool:=match o.guard with
 | none=>true
 | some _=>false
noncomputable def zLx:List Nat→List Nat→Bool
 | [],[]=>true
 | a::l,b::m=>Nat.beq a b&&zLx l m
 | _,_=>false
noncomputable def zXk(ops:Array Oper):Bool:=
 zLx (Region.ready .any ops #[false,false,false,false]) [0,1]&&(zLx (Region.ready .any ops #[true,false,false,false]) [1]&&(zLx (Region.ready .any ops #[false,true,false,false]) [0]&&
 (zLx (Region.ready .any ops #[true,true,false,false]) [2]&&(zLx (Region.ready .any ops #[true,true,true,false]) [3]&&zLx (Region.ready .any ops #[true,true,true,true]) []))))
noncomputable def qNi(P:Program)(cl yd:Cl)(ops:Array Oper)(x:T)(s:S):Option S:=match ops.toList with
 | [o0,o1,o2,o3]=>bif zPv o0&&(noG o0&&(noG o1&&(zXk ops&&(yS o2.op&&yS o3.op))))then(match o0.dst,o1.dst,o1.op with
  | some d0,some d1,.load t (.tmp a)=>bif !Nat.beq d0 d1&&!Nat.beq d0 a then(match zBs P s.H t (nth .u s.L a)with
   | some (z,none)=>zQs P cl yd ops [o2,o3] ⟨put z (put x s.L d0) d1,s.H⟩
   | _=>none)else none
  | _,_,_=>none)else none
 | _=>none
noncomputable def zSq(P:Program)(cl yd:Cl)(rn:Rn)(x:T)(H:List TO):T→Option (List TO)
 | .fn f cs=>(match P.funcs[f]? with
  | some fn=>(match fn.body,fn.results.toList with
   | some (.seq (.region _ ops true) c),[]=>bif Nat.ble (ln cs) fn.ntmps&&noR c then(match qNi P cl yd ops x ⟨rest fn.ntmps cs,H⟩with
    | some s=>(match rn c s with
     | some (.n,s)=>some s.H
     | some (.r,s)=>some s.H
     | _=>none)
    | none=>none)else none
   | _,_=>none)
  | none=>none)
 | _=>none
noncomputable def zZh(P:Program)(fn:Func)(s:S):Option (List TO)→Option (T×List TO)
 | some H=>(match fA P s.L H fn.results.toList with
  | some r=>some (zQy r,H)
  | none=>none)
 | none=>none
noncomputable def zYt(P:Program)(cl yd:Cl)(rn:Rn)(fn:Func)(g:T):Option (Ex×S)→Option (T×List TO)
 | some (.n,s)=>zZh P fn s (zSq P cl yd rn (.v .nilIface) s.H g)
 | some (.r,s)=>zZh P fn s (zSq P cl yd rn (.v .nilIface) s.H g)
 | some (.p t,s)=>zZh P fn s (zSq P cl yd rn t s.H g)
 | _=>none
noncomputable def defE(P:Program)(cl yd:Cl)(rn:Rn)(fn:Func)(s:S):Code→Option (T×List TO)
 | .seq c0 (.seq (.region _ ops false) c2)=>(match rn c0 s with
  | some (.n,s)=>(match zZq P cl yd ops ops.toList s with
   | some (g,s)=>zYt P cl yd rn fn g (rn c2 s)
   | none=>none)
  | _=>none)
 | _=>none
noncomputable def pG(P:Program)(rn:Rn)(f:Nat)(az:List T)(H:List TO):Option (T×List TO):=match P.funcs[f]? with
 | none=>none
 | some fn=>match fn.body with
  | none=>none
  | some c=>bif Nat.ble (ln az) fn.ntmps then zRj P fn (rn c ⟨rest fn.ntmps az,H⟩)else none
noncomputable def zSz(P:Program)(rn:Rn)(f:Nat)(az:List T)(H:List TO):Option (T×List TO):=match P.funcs[f]? with
 | none=>none
 | some fn=>match fn.body with
  | none=>none
  | some c=>bif Nat.ble (ln az) fn.ntmps then defE P (pG P rn) (fun _ _ _=>none) rn fn ⟨rest fn.ntmps az,H⟩ c else none
noncomputable def gF(P:Program)(rn:Rn)(f:Nat)(az:List T)(H:List TO):Option (T×List TO):=match pG P rn f az H with
 | some r=>some r
 | none=>zSz P rn f az H
noncomputable def qAb:Option (Ex×S)→Option (T×List TO)
 | some (.p t,s)=>some (t,s.H)
 | _=>none
noncomputable def zTa(P:Program)(rn:Rn):Cl:=fun f az H=>match P.funcs[f]? with
 | none=>none
 | some fn=>match fn.body with
  | none=>none
  | some c=>bif Nat.ble (ln az) fn.ntmps then qAb (rn c ⟨rest fn.ntmps az,H⟩)else none
noncomputable def zJh(P:Program)(SO:Oo)(O:Po)(rn:Rn):Cl:=fun f az H=>match SO H f az with
 | some r=>some (r,H)
 | none=>match poC O H f az with
  | some r=>some (r,H)
  | none=>gF P rn f az H
noncomputable def lL:Nat→List TO
 | 0=>[]
 | n+1=> .gone::lL n
noncomputable def qDf(H:List TO)(t:T):Option (T×Bool):=match jL true H 12 t with
 | some t=>some (t,true)
 | none=>match jL false H 12 t with
  | some t=>some (t,false)
  | none=>none
noncomputable def yV(P:Program)(rn:Rn)(k:Nat):Po:=fun f az=>match gF P rn f (az.map (unN 12)) (lL k)with
 | some (t,H)=>qDf H t
 | none=>none
noncomputable def zHs(P:Program)(O:Po)(rn:Rn)(k:Nat):Po:=fun f az=>match O f az with
 | some t=>some t
 | none=>yV P rn k f az
noncomputable def lM(P:Program)(po:Po)(H:List TO)(L:List T):Op→Option T
 | .call c=>(match c.callee with
  | .value f=>(match evO L f with
   | .fn f cs=>bif jE P f then poC po H f (c.args.toList.map (evO L)++cs)else none
   | _=>none)
  | _=>none)
 | _=>none
noncomputable def qBn(H0 Hn:List TO)(e:TypeId)(s:Nat)(kq:Option Nat)(x:T):Option (Cs×Nat):=match kq with
 | none=>(match x with
  | .v (.slice none 0 0)=>some (.l [],0)
  | .os _ _ n c=>bif Nat.beq n c then(match qC Hn s x with | some a=>some (.l a,n) | none=>none)else none
  | .st _ n=>(match qC Hn s x with | some a=>some (.l a,n) | none=>none)
  | _=>none)
 | some q=>(match x with
  | .og i o n=>bif Nat.beq i q&&Nat.beq o 0 then(match nth .gone H0 i with
   | .gro cs e'=>bif Nat.beq (ln cs.list) (n*s)&&Nat.beq e e' then some (cs,n)else none
   | _=>none)else none
  | _=>none)
noncomputable def zYl(P:Program)(H0 Hn:List TO)(kq:Option Nat)(t:TypeId)(x y:T):R1:=match elT P t with
 | none=>none
 | some e=>match ldT P e with
  | none=>none
  | some (_,s)=>match qBn H0 Hn e s kq x,qC Hn s y,qZ y with
   | some (a,nx),some b,some ny=>bif !Nat.beq ny 0&&(zAn P e s (nx+ny)&&xV b)then some (.og (ln Hn) 0 (nx+ny),some (.gro (a.apY y b) e))else none
   | _,_,_=>none
noncomputable def zIt(P:Program)(H0 Hn:List TO)(kq:Option Nat)(L:List T):Op→R1
 | .call c=>(match c.callee,c.args.toList,c.argTypes.toList with
  | .builtin .append,[x,y],[t,t']=>bif Nat.beq t t' then zYl P H0 Hn kq t (evO L x) (evO L y)else none
  | _,_,_=>none)
 | _=>none
noncomputable def rD(L:List T):Op→Option Nat
 | .call c=>(match c.callee,c.args.toList with
  | .builtin .append,[x,_]=>(match evO L x with
   | .og q _ _=>some q
   | _=>none)
  | _,_=>none)
 | _=>none
noncomputable def nI(P:Program)(po:Po)(H0 H Hn:List TO)(L:List T)(o:Oper):R1:=match rD L o.op with
 | some q=>zIt P H0 Hn (some q) L o.op
 | none=>match kT P H (ln Hn) (evO L) o.op with
  | some z=>some z
  | none=>match lM P po Hn L o.op with
   | some t=>some (t,none)
   | none=>match zIt P H0 Hn none L o.op with
    | some z=>some z
    | none=>match zBl P (evO L) o with
     | some t=>some (t,none)
     | none=>none
noncomputable def kV(P:Program)(po:Po)(H0 H Hn:List TO)(L:List T)(ops:Array Oper)(o:Oper):R1:=match kH ops L o with
 | none=>none
 | some false=>some (.tu [],none)
 | some true=>nI P po H0 H Hn L o
noncomputable def nxH(H:List TO):Option TO→List TO
 | none=>H
 | some ob=>H++[ob]
noncomputable def zRq(o:Oper)(seen:List Nat):List Nat:=(match o.dst with | some d=>[d] | none=>[])++(o.op.operands.toList.filterMap (fun | .tmp t=>some t | _=>none)++seen)
noncomputable def zNk(o:Oper)(seen:List Nat):Bool:=match o.dst with
 | some d=>seen.any (Nat.beq d)
 | none=>false
noncomputable def tQ(P:Program)(po:Po)(H0 H:List TO)(ops:Array Oper):List Oper→List Nat→List TO→List T→List (T×Option TO)
 | [],_,_,_=>[]
 | o::l,seen,Hn,L=>bif zNk o seen then[]else match kV P po H0 H Hn L ops o with
  | some z=>z::tQ P po H0 H ops l (zRq o seen) (nxH Hn z.2) (dst o.dst z.1 L)
  | none=>[]
noncomputable def yX:List Oper→List (T×Option TO)→List T→List T
 | o::l,z::rs,L=>yX l rs (dst o.dst z.1 L)
 | _,_,L=>L
noncomputable def qD:List (T×Option TO)→List TO
 | []=>[]
 | (_,some ob)::rs=>ob::qD rs
 | (_,none)::rs=>qD rs
noncomputable def zUz(o:Oper)(i:Nat):Bool:=o.after.toList.any fun e=>Region.binds .any e&&Nat.beq e.on i
noncomputable def wrt(t:Nat):List Oper→Nat→Option Nat
 | [],_=>none
 | o::l,i=>match o.dst with
  | some d=>bif Nat.beq d t then some i else wrt t l (i+1)
  | none=>wrt t l (i+1)
noncomputable def zDs(hd:List Oper)(o:Oper)(i t:Nat):Bool:=match wrt t hd 0 with
 | none=>true
 | some j=>Nat.blt j i&&zUz o j
noncomputable def qGc(hd:List Oper)(o:Oper)(i:Nat):Operand→Bool
 | .tmp t=>zDs hd o i t
 | _=>true
noncomputable def qDo(ops:Array Oper)(hd:List Oper)(o:Oper)(i:Nat):Bool:=match o.guard with
 | none=>true
 | some (j,_)=>match ops[j]? with
  | some p=>(match p.dst with
   | some t=>zDs hd o i t
   | none=>true)
  | none=>true
noncomputable def zGr(ops:Array Oper)(hd:List Oper):List Oper→Nat→Bool
 | [],_=>true
 | o::l,i=>(o.op.operands.toList.all (qGc hd o i)&&qDo ops hd o i)&&((match o.dst with
  | some d=>(match wrt d l 0 with
   | none=>true
   | some _=>false)
  | none=>true)&&zGr ops hd l (i+1))
noncomputable def zGw(acc:List Nat):List Edge→Nat
 | []=>0
 | e::l=>bif Region.binds .any e then Nat.lor (Nat.lor (Nat.pow 2 e.on) (nth 0 acc e.on)) (zGw acc l)else zGw acc l
noncomputable def vZ:List Oper→List Nat→List Nat
 | [],acc=>acc
 | o::l,acc=>vZ l (acc++[zGw acc o.after.toList])
noncomputable def jP(o:Oper):Bool:=(match o.guard with | none=>true | some _=>false)&&(match o.op with
 | .move _=>true
 | .assign _=>true
 | .pick .. =>true
 | .nilCheck _=>true
 | .binOp .. =>true
 | .unOp .. =>true
 | .convert .. =>true
 | .slice .. =>true
 | .fieldAddr .. =>true
 | .field .. =>true
 | .indexAddr .. =>true
 | .index .. =>true
 | .extract .. =>true
 | _=>false)
noncomputable def gP(d:Nat):Operand→Bool
 | .tmp t=>!Nat.beq t d
 | _=>true
noncomputable def bU(ops:Array Oper)(o p:Oper):Bool:=match p.dst with
 | none=>false
 | some d=>o.op.operands.toList.all (gP d)&&((match o.guard with
  | none=>true
  | some (j,_)=>(match ops[j]? with
   | some g=>(match g.dst with
    | some t=>!Nat.beq t d
    | none=>true)
   | none=>true))&&(match o.dst with
  | none=>true
  | some x=>!Nat.beq x d&&p.op.operands.toList.all (gP x)))
noncomputable def eqV:Value→Value→Bool
 | .int j a,.int k b=>Nat.beq (kind j) (kind k)&&ieq a b
 | .bool a,.bool b=>zYm a b
 | .slice none 0 0,.slice none 0 0=>true
 | .pointer none,.pointer none=>true
 | .map none,.map none=>true
 | _,_=>false
noncomputable def gI(e:T→T→Bool):List T→List T→Bool
 | [],[]=>true
 | a::l,b::m=>e a b&&gI e l m
 | _,_=>false
noncomputable def eqU:Nat→T→T→Bool
 | 0,_,_=>false
 | k+1,a,b=>match a,b with
  | .v x,.v y=>eqV x y
  | .sl cs n,.sl ds m=>Nat.beq n m&&gI (eqU k) cs ds
  | .st cs n,.st ds m=>Nat.beq n m&&gI (eqU k) cs ds
  | .fp cs,.fp ds=>gI (eqU k) cs ds
  | .ag cs,.ag ds=>gI (eqU k) cs ds
  | .tu cs,.tu ds=>gI (eqU k) cs ds
  | .fn f cs,.fn g ds=>Nat.beq f g&&gI (eqU k) cs ds
  | .os i o n c,.os i' o' n' c'=>Nat.beq i i'&&(Nat.beq o o'&&(Nat.beq n n'&&Nat.beq c c'))
  | .og i o n,.og i' o' n'=>Nat.beq i i'&&(Nat.beq o o'&&Nat.beq n n')
  | .op i o,.op i' o'=>Nat.beq i i'&&Nat.beq o o'
  | .om i,.om j=>Nat.beq i j
  | _,_=>false
noncomputable def bF(p:Oper):Bool:=(match p.guard with | none=>true | some _=>false)&&(match p.op with
 | .load .. =>true
 | _=>false)
noncomputable def inN(i:Nat):List Nat→Bool
 | []=>false
 | j::l=>Nat.beq j i||inN i l
noncomputable def xG(m:Nat)(ld vl:List Nat)(i:Nat)(p:Oper):Bool:=bif Nat.blt i m then jP p||(bF p&&inN i ld)else jP p&&inN i vl
noncomputable def wfr(o p:Oper):Bool:=match o.dst with
 | none=>true
 | some x=>(match p.dst with
  | some d=>!Nat.beq x d
  | none=>true)&&p.op.operands.toList.all (gP x)
noncomputable def slf(o:Oper):Bool:=match o.dst with
 | none=>true
 | some x=>o.op.operands.toList.all (gP x)
noncomputable def qBf(o:Oper):List Oper→Bool
 | []=>true
 | p::l=>(bif jP p||bF p then wfr o p else true)&&qBf o l
noncomputable def vlE:List Oper→List Oper→Nat→List Nat
 | _,[],_=>[]
 | pre,o::l,j=>bif jP o&&(slf o&&qBf o pre)then j::vlE (pre++[o]) l (j+1)else vlE (pre++[o]) l (j+1)
noncomputable def vlR(ops:Array Oper)(m:Nat):List Nat:=vlE (ops.toList.take m) (ops.toList.drop m) m
noncomputable def qUi(K:Nat):List Oper→Nat→List Nat
 | [],_=>[]
 | p::l,i=>bif bF p&&!Nat.testBit K i then i::qUi K l (i+1)else qUi K l (i+1)
noncomputable def andM:List Nat→Nat→Nat
 | [],k=>k
 | m::l,k=>andM l (Nat.land m k)
noncomputable def aM(ops:Array Oper)(m:Nat):List Nat:=qUi (andM ((vZ ops.toList []).drop m) (Nat.sub (Nat.pow 2 m) 1)) (ops.toList.take m) 0
noncomputable def qUh(P:Program)(s:S)(p:Oper):Bool:=match p.op,p.dst with
 | .load t x,some d=>(match zBs P s.H t (evO s.L x)with
  | some (z,none)=>eqU 12 z (nth .u s.L d)
  | _=>false)
 | _,_=>false
noncomputable def rV(P:Program)(ops:Array Oper)(s:S):List Nat→Bool
 | []=>true
 | i::l=>(match ops[i]? with | some p=>qUh P s p | none=>false)&&rV P ops s l
noncomputable def zBi(ops:Array Oper)(m:Nat)(ld vl:List Nat)(o:Oper):List Oper→Nat→Nat
 | [],_=>0
 | p::l,i=>bif xG m ld vl i p&&bU ops o p then Nat.lor (Nat.pow 2 i) (zBi ops m ld vl o l (i+1))else zBi ops m ld vl o l (i+1)
noncomputable def zAh(ops:Array Oper)(m:Nat)(ld vl:List Nat)(hd:List Oper):List Nat→List Oper→Nat→Bool
 | k::ks,o::l,j=>(bif Nat.beq k (Nat.sub (Nat.pow 2 j) 1)then true else Nat.beq (Nat.lor k (zBi ops m ld vl o hd 0)) (Nat.sub (Nat.pow 2 j) 1))&&zAh ops m ld vl (hd++[o]) ks l (j+1)
 | _,_,_=>true
noncomputable def zGh:List Oper→Nat→Bool
 | [],_=>true
 | o::l,i=>o.after.toList.all (fun e=>!Region.binds .any e||Nat.blt e.on i)&&zGh l (i+1)
noncomputable def qCu(ops:Array Oper)(m:Nat):Bool:=zGr ops (ops.toList.take m) (ops.toList.take m) 0&&(zAh ops m (aM ops m) (vlR ops m) (ops.toList.take m) ((vZ ops.toList []).drop m) (ops.toList.drop m) m&&zGh ops.toList 0)
noncomputable def ksE:List Oper→List (T×Option TO)→List T→List (Option Nat)
 | o::l,z::rs,L=>(match z.2 with | some _=>rD L o.op | none=>none)::ksE l rs (dst o.dst z.1 L)
 | _,_,_=>[]
noncomputable def xF:List (Option Nat)→List TO→List TO
 | [],H=>H
 | some q::ks,H=>xF ks (put .gone H q)
 | none::ks,H=>xF ks H
noncomputable def qSa:List (Option Nat)→Bool
 | []=>false
 | some _::_=>true
 | none::ks=>qSa ks
noncomputable def qDw:TO→Bool
 | .gone=>true
 | _=>false
noncomputable def zIu(q:Nat):List (Option Nat)→Bool
 | []=>false
 | some k::ks=>Nat.beq k q||zIu q ks
 | none::ks=>zIu q ks
noncomputable def zMg(H:List TO):List (Option Nat)→Bool
 | []=>true
 | some q::ks=>!zIu q ks&&(qDw (nth .gone H q)&&zMg H ks)
 | none::ks=>zMg H ks
noncomputable def fF(P:Program)(cl yd:Cl)(ops:Array Oper)(ld:List Nat):List Oper→S→Option S
 | [],s=>some s
 | o::l,s=>match opE P cl yd ops o s with
  | some s=>bif rV P ops s ld then fF P cl yd ops ld l s else none
  | none=>none
noncomputable def qXm(P:Program)(cl yd:Cl)(ops:Array Oper)(ld:List Nat)(l:List Oper)(s:S):Option S:=bif rV P ops s ld then fF P cl yd ops ld l s else none
noncomputable def drF(P:Program)(cl yd:Cl)(ops:Array Oper)(s:S)(H:List TO)(rs:List (T×Option TO)):Option S:=
 bif qCu ops (ln rs)&&zMg H (ksE ops.toList rs s.L)then qXm P cl yd ops (aM ops (ln rs)) (ops.toList.drop (ln rs)) ⟨yX ops.toList rs s.L,xF (ksE ops.toList rs s.L) s.H++qD rs⟩else none
noncomputable def qPq(o:Oper):Bool:=match o.op with
 | .call _=>true
 | _=>false
noncomputable def tlK(ops:Array Oper)(i:Nat):Bool:=(match aM ops i with | []=>true | _=>false)&&zAh ops i (aM ops i) (vlR ops i) (ops.toList.take i) ((vZ ops.toList []).drop i) (ops.toList.drop i) i
noncomputable def qJv(ops:Array Oper):List Oper→List (T×Option TO)→Nat→Nat
 | o::l,rs,i=>bif qPq o&&tlK ops i then i else match rs with
  | _::rs=>qJv ops l rs (i+1)
  | []=>i
 | [],_,i=>i
noncomputable def drG(P:Program)(po:Po)(cl yd:Cl)(ops:Array Oper)(s:S)(k:Nat)(rs:List (T×Option TO)):Option S:=
 bif qSa (ksE ops.toList rs s.L)then drF P cl yd ops s (xF (ksE ops.toList rs s.L) s.H) ((tQ P po s.H (xF (ksE ops.toList rs s.L) s.H) ops ops.toList [] (xF (ksE ops.toList rs s.L) s.H) s.L).take k)else drF P cl yd ops s s.H rs
noncomputable def drU(P:Program)(po:Po)(cl yd:Cl)(ops:Array Oper)(s:S)(rs:List (T×Option TO)):Option S:=
 drG P po cl yd ops s (qJv ops ops.toList rs 0) (rs.take (qJv ops ops.toList rs 0))
noncomputable def drE(P:Program)(O:Po)(rn:Rn)(cl yd:Cl)(ops:Array Oper)(s:S):Option S:=
 drU P (zHs P O rn (ln s.H+ops.size)) cl yd ops s (tQ P (zHs P O rn (ln s.H+ops.size)) s.H s.H ops ops.toList [] s.H s.L)
noncomputable def wW(P:Program)(SO:Oo)(O:Po)(rn:Rn)(c:Code)(s:S):Option (Ex×S):=match c with
 | .skip=>some (.n,s)
 | .label _=>some (.n,s)
 | .seq x y=>zEz rn y (rn x s)
 | .cond c x y=>qPl rn x y s (evO s.L c)
 | .block id x=>zYo id (rn x s)
 | .exit id=>some (.x id,s)
 | .ret=>some (.r,s)
 | .scope x=>rn x s
 | .loop x=>zEz rn (.loop x) (rn x s)
 | .region _ ops false=>bif nS ops then qGe P (zJh P SO O rn) (zIp rn) (zTa P rn) ops ops.toList s else none
 | .region _ ops true=>qNj (bif nS ops then drE P O rn (zJh P SO O rn) (zIp rn) ops s else none)
 | .rangeFunc f ps a b=>bif noR a&&noR b then qWq P (zJh P SO O rn) ps.toList a b s.L s.H (evO s.L f)else none
 | _=>none
noncomputable def evC(P:Program)(SO:Oo)(O:Rn→Po):Nat→Rn
 | 0=>fun _ _=>none
 | k+1=>wW P SO (O (evC P SO O k)) (evC P SO O k)
noncomputable def noS:Oo:=fun _ _ _=>none
noncomputable def qTt(f:Nat):List Nat→Bool
 | []=>false
 | g::l=>Nat.beq g f||qTt f l
noncomputable def zSp:Option (T×Bool)→Option (T×Bool)
 | some (t,b)=>bif clean 12 t then some (t,b)else none
 | none=>none
noncomputable def orF(P:Program)(O:Po)(fs:List Nat)(rn:Rn):Po:=fun f az=>match O f az with
 | some r=>some r
 | none=>bif qTt f fs&&(az.map (unN 12)).all (clean 12)then zSp (yV P rn 0 f (az.map (unN 12)))else none
end Go.Ev
namespace Go.Ev
open Go Go.Gv Go.RowKit IntKind
structure Bm where
 f:Nat→Option (Nat×Nat)
 N:Nat
instance:CoeFun Bm fun _=>Nat→Option (Nat×Nat):=⟨Bm.f⟩
structure BLe(B B':Bm):Prop where
 le:∀i p,B i=some p→B' i=some p
 n:B.N=B'.N
instance (B B':Bm):CoeFun (BLe B B') fun _=>∀i p,B i=some p→B' i=some p:=⟨BLe.le⟩
def Bm.In(B:Bm)(g:Tg)(b:Nat):Prop:=(g= .n→B.N≤b)∧(g= .o→b<B.N)
theorem Bm.In.any{B:Bm}{b:Nat}:B.In .a b:=⟨fun e=>(by cases e),fun e=>(by cases e)⟩
theorem Bm.In.eqN{B B':Bm}(h:B.N=B'.N){g:Tg}{b:Nat}(k:B.In g b):B'.In g b:=⟨fun e=>h▸k.1 e,fun e=>h▸k.2 e⟩
theorem Bm.In.nw{B:Bm}{b:Nat}(h:B.N≤b):B.In .n b:=⟨fun _=>h,fun e=>(by cases e)⟩
theorem Bm.In.le{B:Bm}{g g':Tg}{b:Nat}(h:g.le g'=true)(k:B.In g' b):B.In g b:=by
 cases g<;>cases g'<;>first | exact k | (cases h;done) | exact⟨fun e=>Tg.noConfusion e,fun e=>Tg.noConfusion e⟩
theorem BLe.refl(B:Bm):BLe B B:=⟨fun _ _ h=>h,rfl⟩
theorem BLe.trans{A B C:Bm}(h:BLe A B)(k:BLe B C):BLe A C:=⟨fun i p e=>k.le i p (h.le i p e),h.n.trans k.n⟩
def tX(B:Bm)(i:Nat)(p:Nat×Nat):Bm:=⟨fun j=>if j=i then some p else B j,B.N⟩
theorem BLe.set{B:Bm}{i:Nat}{p:Nat×Nat}(h:B i=none):BLe B (tX B i p):=⟨fun j q e=>by
 show(if j=i then some p else B j)=some q
 split
 ·rename_i hj;rw[hj,h]at e;cases e
 ·exact e,rfl⟩
theorem qE(B:Bm)(i:Nat)(p:Nat×Nat):tX B i p i=some p:=by simp[tX]
theorem jJ(B:Bm){i j:Nat}(p:Nat×Nat)(h:j≠i):tX B i p j=B j:=by simp[tX,h]
def aA{α:Type}(r:Rd)(p:Nat→Prop)(s:Nat)(R:α→List Value→Prop)(ad:Option Addr)(c:Nat)(l:List α):Prop:=
 l.length≤c∧c≤maxLen∧(l=[]∨∃b o,ad=some ⟨b,o,none⟩∧p b∧∀(i:Nat)(x:α),l[i]?=some x→∃vs:List Value,vs.length=s∧R x vs∧∀(j:Nat)(v:Value),vs[j]?=some v→r ⟨b,o+(i*s+j),none⟩=some v)
def qA(r:Rd)(p:Nat→Prop):(A:Ty)→A.den→List Value→Prop
 | .lim,a,vs=>vs=[.int .u32 (.ofNat a)]∧a<4294967296
 | .int k,a,vs=>vs=[.int k a]
 | .bool,b,vs=>vs=[.bool b]
 | .str,s,vs=>vs=[.string s]
 | .list A,l,vs=>∃ad c,vs=[.slice ad l.length c]∧aA r p A.size (fun x us=>qA r p A x us) ad c l
 | .prod A B,x,vs=>∃u w,vs=u++w∧qA r p A x.1 u∧qA r p B x.2 w
theorem aA.mono{α:Type}{r r':Rd}{p p':Nat→Prop}{s:Nat}{R R':α→List Value→Prop}{ad:Option Addr}{c:Nat}{l:List α}(hr:Le r r')(hp:∀b,p b→p' b)(hR:∀x vs,R x vs→R' x vs)(h:aA r p s R ad c l):aA r' p' s R' ad c l:=
 ⟨h.1,h.2.1,h.2.2.imp id fun⟨b,o,e,hb,k⟩=>⟨b,o,e,hp b hb,fun i x hx=>by
  obtain⟨vs,h1,h2,h3⟩:=k i x hx;exact⟨vs,h1,hR _ _ h2,fun j v hv=>hr _ _ (h3 j v hv)⟩⟩⟩
theorem qA.mono{r r':Rd}{p p':Nat→Prop}(hr:Le r r')(hp:∀b,p b→p' b):∀(A:Ty)(x:A.den)(vs:List Value),qA r p A x vs→qA r' p' A x vs
 | .lim,_,_,h=>h
 | .int _,_,_,h=>h
 | .bool,_,_,h=>h
 | .str,_,_,h=>h
 | .list A,_,_,⟨ad,c,e,h⟩=>⟨ad,c,e,h.mono hr hp fun x vs=>qA.mono hr hp A x vs⟩
 | .prod A B,_,_,⟨u,w,e,h1,h2⟩=>⟨u,w,e,qA.mono hr hp A _ _ h1,qA.mono hr hp B _ _ h2⟩
theorem qA.len{r:Rd}{p:Nat→Prop}:∀(A:Ty)(x:A.den)(vs:List Value),qA r p A x vs→vs.length=A.size
 | .lim,_,_,h=>by rw[h.1];rfl
 | .int _,_,_,h=>by rw[show _=_ from h];rfl
 | .bool,_,_,h=>by rw[show _=_ from h];rfl
 | .str,_,_,h=>by rw[show _=_ from h];rfl
 | .list _,_,_,⟨_,_,e,_⟩=>by rw[e];rfl
 | .prod A B,_,_,⟨u,w,e,h1,h2⟩=>by rw[e,List.length_append,qA.len A _ _ h1,qA.len B _ _ h2];rfl
theorem Ty.size_pos:∀A:Ty,0<A.size
 | .lim=>Nat.one_pos
 | .int _=>Nat.one_pos
 | .bool=>Nat.one_pos
 | .str=>Nat.one_pos
 | .list _=>Nat.one_pos
 | .prod A _=>Nat.lt_of_lt_of_le (Ty.size_pos A) (Nat.le_add_right _ _)
theorem qA.new{r:Rd}{p q:Nat→Prop}(hr:∀b j v,r ⟨b,j,none⟩=some v→q b):∀(A:Ty)(x:A.den)(vs:List Value),qA r p A x vs→qA r q A x vs
 | .lim,_,_,h=>h
 | .int _,_,_,h=>h
 | .bool,_,_,h=>h
 | .str,_,_,h=>h
 | .list _,[],_,⟨ad,c,e,h⟩=>⟨ad,c,e,h.1,h.2.1,.inl rfl⟩
 | .list A,x0::l,_,⟨ad,c,e,h⟩=>⟨ad,c,e,h.1,h.2.1,.inr (by
  rcases h.2.2 with h | ⟨b,o,e,_,k⟩
  ·cases h
  ·refine⟨b,o,e,?_,fun i x hx=>?_⟩
   ·obtain⟨vs,h1,_,h3⟩:=k 0 x0 rfl;cases vs with
    | nil=>have:=A.size_pos;simp at h1;omega
    | cons v vs=>exact hr _ _ _ (h3 0 v rfl)
   ·obtain⟨vs,h1,h2,h3⟩:=k i x hx;exact⟨vs,h1,qA.new hr A x vs h2,h3⟩)⟩
 | .prod A B,_,_,⟨u,w,e,h1,h2⟩=>⟨u,w,e,qA.new hr A _ _ h1,qA.new hr B _ _ h2⟩
theorem qA.far{r r':Rd}{p q:Nat→Prop}(hq:∀b,q b)(hr:∀b j v,p b→r ⟨b,j,none⟩=some v→r' ⟨b,j,none⟩=some v):∀(A:Ty)(x:A.den)(vs:List Value),qA r p A x vs→qA r' q A x vs
 | .lim,_,_,h=>h
 | .int _,_,_,h=>h
 | .bool,_,_,h=>h
 | .str,_,_,h=>h
 | .list A,l,_,⟨ad,c,e,h⟩=>⟨ad,c,e,h.1,h.2.1,h.2.2.imp id fun⟨b,o,e,hp,k⟩=>⟨b,o,e,hq b,fun i x hx=>by
  obtain⟨vs,h1,h2,h3⟩:=k i x hx;exact⟨vs,h1,qA.far hq hr A x vs h2,fun j v hv=>hr _ _ _ hp (h3 j v hv)⟩⟩⟩
 | .prod A B,_,_,⟨u,w,e,h1,h2⟩=>⟨u,w,e,qA.far hq hr A _ _ h1,qA.far hq hr B _ _ h2⟩
def yN(r:Rd)(p:Nat→Prop):(A:Ty)→A.den→List Value→Prop
 | .lim,_,vs=>∃a,vs=[.int .u32 a]
 | .int k,_,vs=>∃a,vs=[.int k a]
 | .bool,b,vs=>vs=[.bool b]
 | .str,s,vs=>vs=[.string s]
 | .list A,l,vs=>∃ad c,vs=[.slice ad l.length c]∧aA r p A.size (fun x us=>yN r p A x us) ad c l
 | .prod A B,x,vs=>∃u w,vs=u++w∧yN r p A x.1 u∧yN r p B x.2 w
theorem yN.mono{r r':Rd}{p p':Nat→Prop}(hr:Le r r')(hp:∀b,p b→p' b):∀(A:Ty)(x:A.den)(vs:List Value),yN r p A x vs→yN r' p' A x vs
 | .lim,_,_,h=>h
 | .int _,_,_,h=>h
 | .bool,_,_,h=>h
 | .str,_,_,h=>h
 | .list A,_,_,⟨ad,c,e,h⟩=>⟨ad,c,e,h.mono hr hp fun x vs=>yN.mono hr hp A x vs⟩
 | .prod A B,_,_,⟨u,w,e,h1,h2⟩=>⟨u,w,e,yN.mono hr hp A _ _ h1,yN.mono hr hp B _ _ h2⟩
theorem qA.h{r:Rd}{p:Nat→Prop}:∀(A:Ty)(x:A.den)(vs:List Value),qA r p A x vs→yN r p A x vs
 | .lim,_,_,h=>⟨_,h.1⟩
 | .int _,_,_,h=>⟨_,h⟩
 | .bool,_,_,h=>h
 | .str,_,_,h=>h
 | .list A,_,_,⟨ad,c,e,h⟩=>⟨ad,c,e,h.mono (Le.refl _) (fun _ h=>h) fun x vs=>qA.h A x vs⟩
 | .prod A B,_,_,⟨u,w,e,h1,h2⟩=>⟨u,w,e,qA.h A _ _ h1,qA.h B _ _ h2⟩
inductive Rep (B:Bm) (r:Rd):T→Value→Prop
  | u {x:Value}:Rep B r .u x
  | v {x:Value} (h:sc x=true):Rep B r (.v x) x
  | sl {cs:List T} {n b o c:Nat} (hn:n≤c) (f:Nat→Value) (h:∀j t,cs[j]?=some t→r ⟨b,o+j,none⟩=some (f j)) (g:∀j t,cs[j]?=some t→Rep B r t (f j)) (hm:c≤maxLen):Rep B r (.sl cs n) (.slice (some ⟨b,o,none⟩) n c)
  | sl0 {ad:Option Addr} {c:Nat} (hm:c≤maxLen):Rep B r (.sl [] 0) (.slice ad 0 c)
  | sn {cs:List T} {n b o c:Nat} (hn:n≤c) (f:Nat→Value) (h:∀j t,cs[j]?=some t→r ⟨b,o+j,none⟩=some (f j)) (g:∀j t,cs[j]?=some t→Rep B r t (f j)) (hm:c≤maxLen) (hb:∀(j:Nat)(t:T),cs[j]?=some t→B.N≤b):Rep B r (.sn cs n) (.slice (some ⟨b,o,none⟩) n c)
  | sn0 {ad:Option Addr} {c:Nat} (hm:c≤maxLen):Rep B r (.sn [] 0) (.slice ad 0 c)
  | st {cs:List T} {n b o:Nat} (f:Nat→Value) (h:∀j t,cs[j]?=some t→r ⟨b,o+j,none⟩=some (f j)) (g:∀j t,cs[j]?=some t→Rep B r t (f j)):Rep B r (.st cs n) (.slice (some ⟨b,o,none⟩) n n)
  | st0 {ad:Option Addr}:Rep B r (.st [] 0) (.slice ad 0 0)
  | fp {cs:List T} {b o:Nat} (f:Nat→Value) (h:∀j t,cs[j]?=some t→r ⟨b,o+j,none⟩=some (f j)) (g:∀j t,cs[j]?=some t→Rep B r t (f j)):Rep B r (.fp cs) (.pointer (some ⟨b,o,none⟩))
  | os {i o n c b C:Nat} (h:B i=some (b,C)):Rep B r (.os i o n c) (.slice (some ⟨b,o,none⟩) n c)
  | og {i o n c b C:Nat} (h:B i=some (b,C)) (h1:n≤c) (h2:o=0→c=C) (h3:c≤maxLen):Rep B r (.og i o n) (.slice (some ⟨b,o,none⟩) n c)
  | op {i o b C:Nat} (h:B i=some (b,C)):Rep B r (.op i o) (.pointer (some ⟨b,o,none⟩))
  | ag {cs:List T} {vs:Array Value} (f:Nat→Value) (hl:cs.length=vs.size) (h:∀j t,cs[j]?=some t→vs[j]?=some (f j)) (g:∀j t,cs[j]?=some t→Rep B r t (f j)):Rep B r (.ag cs) (.agg vs)
  | tu {cs:List T} {vs:Array Value} (f:Nat→Value) (hl:cs.length=vs.size) (h:∀j t,cs[j]?=some t→vs[j]?=some (f j)) (g:∀j t,cs[j]?=some t→Rep B r t (f j)):Rep B r (.tu cs) (.tuple vs)
  | fn {k:Nat} {cs:List T} {vs:Array Value} (f:Nat→Value) (hl:cs.length=vs.size) (h:∀j t,cs[j]?=some t→vs[j]?=some (f j)) (g:∀j t,cs[j]?=some t→Rep B r t (f j)):Rep B r (.fn k cs) (.func (.func k) #[] vs)
  | fb {k:Nat} {cs:List T} {vs:Array Value} (f:Nat→Value) (hl:cs.length=vs.size) (h:∀j t,cs[j]?=some t→vs[j]?=some (f j)) (g:∀j t,cs[j]?=some t→Rep B r t (f j)):Rep B r (.fb k cs) (.func (.func k) vs #[])
  | om {i b C:Nat} (h:B i=some (b,C)):Rep B r (.om i) (.map (some b))
  | yl {i b C:Nat} (h:B i=some (b,C)):Rep B r (.yl i) (.func (.yield b) #[] #[])
  | ls {g:Tg} {A:Ty} {l:List A.den} {v:Value} (h:qA r (B.In g) (.list A) l [v]):Rep B r (.ls g A l) v
  | hv {A:Ty} {l:List A.den} {v:Value} (h:yN r (B.In .n) (.list A) l [v]):Rep B r (.hv A l) v
theorem Rep.mono{B B':Bm}{r r':Rd}(hB:BLe B B')(hr:Le r r'){t:T}{v:Value}(h:Rep B r t v):Rep B' r' t v:=by
 induction h with
 | u=>exact .u
 | v h=>exact .v h
 | sl hn f h g hm ih=>exact .sl hn f (fun j t e=>hr _ _ (h j t e)) ih hm
 | sl0 hm=>exact .sl0 hm
 | sn hn f h g hm hb ih=>exact .sn hn f (fun j t e=>hr _ _ (h j t e)) ih hm (fun j t e=>hB.n▸hb j t e)
 | sn0 hm=>exact .sn0 hm
 | st f h g ih=>exact .st f (fun j t e=>hr _ _ (h j t e)) ih
 | st0=>exact .st0
 | fp f h g ih=>exact .fp f (fun j t e=>hr _ _ (h j t e)) ih
 | os h=>exact .os (hB _ _ h)
 | og h h1 h2 h3=>exact .og (hB _ _ h) h1 h2 h3
 | op h=>exact .op (hB _ _ h)
 | ag f hl h g ih=>exact .ag f hl h ih
 | tu f hl h g ih=>exact .tu f hl h ih
 | fn f hl h g ih=>exact .fn f hl h ih
 | fb f hl h g ih=>exact .fb f hl h ih
 | om h=>exact .om (hB _ _ h)
 | yl h=>exact .yl (hB _ _ h)
 | ls h=>exact .ls (qA.mono hr (fun b h=>h.eqN hB.n) _ _ _ h)
 | hv h=>exact .hv (yN.mono hr (fun b h=>h.eqN hB.n) _ _ _ h)
theorem Rep.dn{B:Bm}{r:Rd}{t:T}{v:Value}(h:Rep B r t v):Rep B r (dn t) v:=by
 cases h with
 | sn hn f h g hm hb=>exact .sl hn f h g hm
 | sn0 hm=>exact .sl0 hm
 | u=>exact .u
 | v h=>exact .v h
 | sl hn f h g hm=>exact .sl hn f h g hm
 | sl0 hm=>exact .sl0 hm
 | st f h g=>exact .st f h g
 | st0=>exact .st0
 | fp f h g=>exact .fp f h g
 | os h=>exact .os h
 | og h h1 h2 h3=>exact .og h h1 h2 h3
 | op h=>exact .op h
 | ag f hl h g=>exact .ag f hl h g
 | tu f hl h g=>exact .tu f hl h g
 | fn f hl h g=>exact .fn f hl h g
 | fb f hl h g=>exact .fb f hl h g
 | om h=>exact .om h
 | yl h=>exact .yl h
 | ls h=>exact .ls h
 | hv h=>exact .hv h
theorem Rep.unN{B B2:Bm}{r:Rd}(hB:∀i p,B i=some p→B2 i=some p):∀(k:Nat){t:T}{v:Value},Rep B r t v→Rep B2 r (unN k t) v
 | 0,_,_,_=> .u
 | k+1,t,y,h=>by
  have all:∀{cs:List T}{f:Nat→Value}{q:Nat→Option Value},(∀j t,cs[j]?=some t→q j=some (f j))→(∀j t,cs[j]?=some t→Rep B r t (f j))→(∀j t,(cs.map (Ev.unN k))[j]?=some t→q j=some (f j))∧∀j t,(cs.map (Ev.unN k))[j]?=some t→Rep B2 r t (f j):=fun h1 h2=>by
   refine⟨fun j t e=>?_,fun j t e=>?_⟩
   ·rw[List.getElem?_map]at e;obtain⟨t',e1,rfl⟩:=Option.map_eq_some_iff.1 e;exact h1 j t' e1
   ·rw[List.getElem?_map]at e;obtain⟨t',e1,rfl⟩:=Option.map_eq_some_iff.1 e;exact Rep.unN hB k (h2 j t' e1)
  cases h with
  | sn hn f h g hm hb=>exact .sl hn f (all h g).1 (all h g).2 hm
  | sn0 hm=>exact .sl0 hm
  | u=>exact .u
  | v h=>exact .v h
  | sl hn f h g hm=>exact .sl hn f (all h g).1 (all h g).2 hm
  | sl0 hm=>exact .sl0 hm
  | st f h g=>exact .st f (all h g).1 (all h g).2
  | st0=>exact .st0
  | fp f h g=>exact .fp f (all h g).1 (all h g).2
  | os h=>exact .os (hB _ _ h)
  | og h h1 h2 h3=>exact .og (hB _ _ h) h1 h2 h3
  | op h=>exact .op (hB _ _ h)
  | @ag cs vs f hl h g=>exact .ag f (by simpa using hl) (all (q:=fun j=>vs[j]?) h g).1 (all (q:=fun j=>vs[j]?) h g).2
  | @tu cs vs f hl h g=>exact .tu f (by simpa using hl) (all (q:=fun j=>vs[j]?) h g).1 (all (q:=fun j=>vs[j]?) h g).2
  | @fn _ cs vs f hl h g=>exact .fn f (by simpa using hl) (all (q:=fun j=>vs[j]?) h g).1 (all (q:=fun j=>vs[j]?) h g).2
  | @fb _ cs vs f hl h g=>exact .fb f (by simpa using hl) (all (q:=fun j=>vs[j]?) h g).1 (all (q:=fun j=>vs[j]?) h g).2
  | om h=>exact .om (hB _ _ h)
  | yl h=>exact .yl (hB _ _ h)
  | ls h=>exact .ls (qA.mono (Le.refl _) (fun b _=>Bm.In.any) _ _ _ h)
  | hv h=>exact .u
theorem Rep.mkN{B:Bm}{r:Rd}(hr:∀b j v,r ⟨b,j,none⟩=some v→B.N≤b):∀(k:Nat){t:T}{v:Value},Rep B r t v→Rep B r (mkN k t) v
 | 0,_,_,h=>h
 | k+1,t,y,h=>by
  have all:∀{cs:List T}{f:Nat→Value}{q:Nat→Option Value},(∀j t,cs[j]?=some t→q j=some (f j))→(∀j t,cs[j]?=some t→Rep B r t (f j))→(∀j t,(cs.map (Ev.mkN k))[j]?=some t→q j=some (f j))∧∀j t,(cs.map (Ev.mkN k))[j]?=some t→Rep B r t (f j):=fun h1 h2=>by
   refine⟨fun j t e=>?_,fun j t e=>?_⟩
   ·rw[List.getElem?_map]at e;obtain⟨t',e1,rfl⟩:=Option.map_eq_some_iff.1 e;exact h1 j t' e1
   ·rw[List.getElem?_map]at e;obtain⟨t',e1,rfl⟩:=Option.map_eq_some_iff.1 e;exact Rep.mkN hr k (h2 j t' e1)
  cases h with
  | sl hn f h g hm=>exact .sn hn f (all h g).1 (all h g).2 hm (fun j t e=>hr _ _ _ ((all h g).1 j t e))
  | sl0 hm=>exact .sn0 hm
  | sn hn f h g hm hb=>exact .sn hn f h g hm hb
  | sn0 hm=>exact .sn0 hm
  | u=>exact .u
  | v h=>exact .v h
  | st f h g=>exact .st f h g
  | st0=>exact .st0
  | fp f h g=>exact .fp f h g
  | os h=>exact .os h
  | og h h1 h2 h3=>exact .og h h1 h2 h3
  | op h=>exact .op h
  | @ag cs vs f hl h g=>exact .ag f (by simpa using hl) (all (q:=fun j=>vs[j]?) h g).1 (all (q:=fun j=>vs[j]?) h g).2
  | @tu cs vs f hl h g=>exact .tu f (by simpa using hl) (all (q:=fun j=>vs[j]?) h g).1 (all (q:=fun j=>vs[j]?) h g).2
  | @fn _ cs vs f hl h g=>exact .fn f (by simpa using hl) (all (q:=fun j=>vs[j]?) h g).1 (all (q:=fun j=>vs[j]?) h g).2
  | fb f hl h g=>exact .fb f hl h g
  | om h=>exact .om h
  | yl h=>exact .yl h
  | ls h=>exact .ls (qA.new (fun b j v e=>Bm.In.nw (hr b j v e)) _ _ _ h)
  | hv h=>exact .hv h
theorem zQj{α:Type}(d x:α)(l:List α):nth d (x::l) 0=x:=rfl
theorem nP{α:Type}(d x:α)(l:List α)(n:Nat):nth d (x::l) (n+1)=nth d l n:=rfl
theorem qNd{α:Type}(x:α)(n:Nat):Ev.put x [] n=[]:=rfl
theorem zRb{α:Type}(x y:α)(l:List α):Ev.put x (y::l) 0=x::l:=rfl
theorem zHu{α:Type}(x y:α)(l:List α)(n:Nat):Ev.put x (y::l) (n+1)=y::Ev.put x l n:=rfl
def zN(B:Bm)(r:Rd):List T→List Value→Prop
 | [],[]=>True
 | t::ts,v::vs=>Rep B r t v∧zN B r ts vs
 | _,_=>False
section
variable {B B':Bm}{r r':Rd}
theorem zN.mono(hB:BLe B B')(hr:Le r r'):∀{ts:List T}{vs:List Value},zN B r ts vs→zN B' r' ts vs
 | [],[],_=>trivial
 | _::_,_::_,h=>⟨h.1.mono hB hr,zN.mono hB hr h.2⟩
 | [],_::_,h=>h.elim
 | _::_,[],h=>h.elim
theorem zN.unN{B2:Bm}(hB:∀i p,B i=some p→B2 i=some p)(k:Nat):∀{ts:List T}{vs:List Value},zN B r ts vs→zN B2 r (ts.map (unN k)) vs
 | [],[],_=>trivial
 | _::_,_::_,h=>⟨h.1.unN hB k,zN.unN hB k h.2⟩
 | [],_::_,h=>h.elim
 | _::_,[],h=>h.elim
theorem zN.length:∀{ts:List T}{vs:List Value},zN B r ts vs→ts.length=vs.length
 | [],[],_=>rfl
 | _::_,_::_,h=>congrArg (·+1) (zN.length h.2)
 | [],_::_,h=>h.elim
 | _::_,[],h=>h.elim
theorem zN.get:∀{ts:List T}{vs:List Value},zN B r ts vs→∀{j:Nat}{t:T},ts[j]?=some t→∃v,vs[j]?=some v∧Rep B r t v
 | _::_,v::_,h,0,t,e=>by simp at e;subst e;exact⟨v,rfl,h.1⟩
 | _::_,_::_,h,j+1,t,e=>by simpa using zN.get h.2 (by simpa using e)
 | [],_,_,_,_,e=>by simp at e
 | _::_,[],h,_,_,_=>h.elim
theorem zN.getD:∀{ts:List T}{vs:List Value},zN B r ts vs→∀(j:Nat),Rep B r (nth .u ts j) (vs.getD j undef)
 | _::_,v::_,h,0=>by rw[zQj];simpa using h.1
 | _::_,_::_,h,j+1=>by rw[nP];simpa using zN.getD h.2 j
 | [],_,_,_=> .u
 | _::_,[],h,_=>h.elim
theorem zN.of:∀{ts:List T}{vs:List Value},ts.length=vs.length→(∀(j:Nat)(t:T)(v:Value),ts[j]?=some t→vs[j]?=some v→Rep B r t v)→zN B r ts vs
 | [],[],_,_=>trivial
 | t::ts,v::vs,hl,h=>⟨h 0 t v rfl rfl,zN.of (by simpa using hl) fun j t v e e'=>h (j+1) t v (by simpa using e) (by simpa using e')⟩
 | [],_::_,hl,_=>by simp at hl
 | _::_,[],hl,_=>by simp at hl
theorem zN.app:∀{ts us:List T}{vs ws:List Value},zN B r ts vs→zN B r us ws→zN B r (ts++us) (vs++ws)
 | [],_,[],_,_,h=>h
 | _::_,_,_::_,_,h,k=>⟨h.1,zN.app h.2 k⟩
 | [],_,_::_,_,h,_=>h.elim
 | _::_,_,[],_,h,_=>h.elim
theorem zN.split:∀{ts us:List T}{vs:List Value},zN B r (ts++us) vs→zN B r ts (vs.take ts.length)∧zN B r us (vs.drop ts.length)
 | [],_,_,h=>⟨trivial,h⟩
 | _::ts,us,v::vs,h=>by
  obtain⟨h1,h2⟩:=zN.split (ts:=ts) (us:=us) h.2;exact⟨⟨h.1,h1⟩,h2⟩
 | _::_,_,[],h=>h.elim
theorem zN.drop:∀(n:Nat){ts:List T}{vs:List Value},zN B r ts vs→zN B r (jA ts n) (vs.drop n)
 | 0,[],[],h=>h
 | 0,_::_,_::_,h=>h
 | n+1,_::_,_::_,h=>by simpa[jA]using zN.drop n h.2
 | _+1,[],[],_=>trivial
 | _,[],_::_,h=>h.elim
 | _,_::_,[],h=>h.elim
theorem zN.take:∀{n:Nat}{ts us:List T}{vs:List Value},zN B r ts vs→jD n ts=some us→zN B r us (vs.take n)∧(vs.take n).length=n
 | 0,_,_,_,_,e=>by simp[jD]at e;subst e;exact⟨trivial,by simp⟩
 | n+1,_::ts,us,v::vs,h,e=>by
  simp only[jD]at e;cases he:jD n ts with
  | none=>simp[he]at e
  | some x=>
   simp only[he,Option.some.injEq]at e;subst e;obtain⟨h1,h2⟩:=zN.take h.2 he;exact⟨⟨h.1,h1⟩,by simp[h2]⟩
 | _+1,[],_,_,_,e=>by simp[jD]at e
 | _+1,_::_,_,[],h,_=>h.elim
theorem zN.put:∀{ts:List T}{vs:List Value},zN B r ts vs→∀(j:Nat){t:T}{v:Value},Rep B r t v→zN B r (put t ts j) (vs.set j v)
 | [],[],_,_,_,_,_=>trivial
 | _::_,_::_,h,0,_,_,k=>⟨k,h.2⟩
 | _::_,_::_,h,j+1,_,_,k=>⟨h.1,zN.put h.2 j k⟩
 | [],_::_,h,_,_,_,_=>h.elim
 | _::_,[],h,_,_,_,_=>h.elim
theorem qN{α:Type}:∀l:List α,ln l=l.length
 | []=>rfl
 | _::l=>by simp[ln,qN l]
theorem qP{α:Type}(d:α):∀(l:List α)(n:Nat),nth d l n=l.getD n d
 | [],_=>rfl
 | _::_,0=>rfl
 | _::l,n+1=>by rw[nP];simpa using qP d l n
theorem jT{α:Type}(x:α):∀(l:List α)(n:Nat),Ev.put x l n=l.set n x
 | [],_=>rfl
 | _::_,0=>rfl
 | _::l,n+1=>by rw[zHu];simp[jT x l n]
theorem rQ:∀(l:List T)(n:Nat),jA l n=l.drop n
 | [],_=>by simp[jA]
 | _::_,0=>rfl
 | _::l,n+1=>by simp[jA,rQ l n]
theorem zCb:∀{n:Nat}{l u:List T},jD n l=some u→n≤l.length∧u=l.take n
 | 0,_,_,h=>by simp[jD]at h;subst h;simp
 | n+1,x::l,u,h=>by
  simp only[jD]at h;cases he:jD n l with
  | none=>simp[he]at h
  | some y=>
   simp only[he,Option.some.injEq]at h;obtain⟨h1,h2⟩:=zCb he;subst h;subst h2;simpa using h1
 | _+1,[],_,h=>by simp[jD]at h
theorem fH:∀l:List T,jD l.length l=some l
 | []=>rfl
 | _::l=>by simp[jD,fH l]
def Cls(B:Bm)(r:Rd)(b o:Nat)(cs:List T):Prop:=∀j t,cs[j]?=some t→∃v,r ⟨b,o+j,none⟩=some v∧Rep B r t v
theorem Cls.mono(hB:BLe B B')(hr:Le r r'){b o:Nat}{cs:List T}(h:Cls B r b o cs):Cls B' r' b o cs:=fun j t e=>by
 obtain⟨v,h1,h2⟩:=h j t e;exact⟨v,hr _ _ h1,h2.mono hB hr⟩
theorem Cls.drop{b o:Nat}{cs:List T}(h:Cls B r b o cs)(n:Nat):Cls B r b (o+n) (jA cs n):=fun j t e=>by
 rw[rQ,List.getElem?_drop]at e;obtain⟨v,h1,h2⟩:=h _ t e;exact⟨v,by rw[Nat.add_assoc];exact h1,h2⟩
theorem Cls.fun{b o:Nat}{cs:List T}(h:Cls B r b o cs):∃f:Nat→Value,(∀j t,cs[j]?=some t→r ⟨b,o+j,none⟩=some (f j))∧∀j t,cs[j]?=some t→Rep B r t (f j):=by
 refine⟨fun j=>(r ⟨b,o+j,none⟩).getD undef,fun j t e=>?_,fun j t e=>?_⟩<;>obtain⟨v,h1,h2⟩:=h j t e
 ·simp[h1]
 ·simpa[h1]using h2
theorem Cls.sl{b o n c:Nat}{cs:List T}(h:Cls B r b o cs)(hn:n≤c)(hm:c≤maxLen):Rep B r (.sl cs n) (.slice (some ⟨b,o,none⟩) n c):=by
 obtain⟨f,h1,h2⟩:=h.fun;exact .sl hn f h1 h2 hm
theorem Cls.st{b o n:Nat}{cs:List T}(h:Cls B r b o cs):Rep B r (.st cs n) (.slice (some ⟨b,o,none⟩) n n):=by
 obtain⟨f,h1,h2⟩:=h.fun;exact .st f h1 h2
theorem Cls.fp{b o:Nat}{cs:List T}(h:Cls B r b o cs):Rep B r (.fp cs) (.pointer (some ⟨b,o,none⟩)):=by
 obtain⟨f,h1,h2⟩:=h.fun;exact .fp f h1 h2
theorem zLo{cs:List T}{vs:Array Value}(h:zN B r cs vs.toList):∃f:Nat→Value,cs.length=vs.size∧(∀j t,cs[j]?=some t→vs[j]?=some (f j))∧∀j t,cs[j]?=some t→Rep B r t (f j):=by
 refine⟨fun j=>vs.getD j undef,by simpa using h.length,fun j t e=>?_,fun j t e=>?_⟩<;>obtain⟨v,h1,h2⟩:=h.get e
 ·have:vs[j]?=some v:=by simpa using h1
  simp[this]
 ·have:vs[j]?=some v:=by simpa using h1
  simpa[this]using h2
theorem zHd{cs:List T}{vs:Array Value}(f:Nat→Value)(hl:cs.length=vs.size)(h:∀j t,cs[j]?=some t→vs[j]?=some (f j))(g:∀j t,cs[j]?=some t→Rep B r t (f j)):zN B r cs vs.toList:=
 zN.of (by simpa using hl) fun j t v e e'=>by
  have h1:=h j t e;have e2:vs[j]?=some v:=by simpa using e'
  rw[h1]at e2;cases e2;exact g j t e
theorem Rep.mkAg{cs:List T}{vs:List Value}(h:zN B r cs vs):Rep B r (.ag cs) (.agg vs.toArray):=by
 obtain⟨f,h1,h2,h3⟩:=zLo (vs:=vs.toArray) (by simpa using h)
 exact .ag f h1 h2 h3
theorem Rep.mkTu{cs:List T}{vs:List Value}(h:zN B r cs vs):Rep B r (.tu cs) (.tuple vs.toArray):=by
 obtain⟨f,h1,h2,h3⟩:=zLo (vs:=vs.toArray) (by simpa using h)
 exact .tu f h1 h2 h3
theorem Rep.mkFn{k:Nat}{cs:List T}{vs:List Value}(h:zN B r cs vs):Rep B r (.fn k cs) (.func (.func k) #[] vs.toArray):=by
 obtain⟨f,h1,h2,h3⟩:=zLo (vs:=vs.toArray) (by simpa using h)
 exact .fn f h1 h2 h3
theorem Rep.agI{cs:List T}{v:Value}(h:Rep B r (.ag cs) v):∃vs:List Value,v= .agg vs.toArray∧zN B r cs vs:=by
 cases h with
 | @ag _ vs f hl h g=>exact⟨vs.toList,by simp,zHd f hl h g⟩
theorem Rep.tuI{cs:List T}{v:Value}(h:Rep B r (.tu cs) v):∃vs:List Value,v= .tuple vs.toArray∧zN B r cs vs:=by
 cases h with
 | @tu _ vs f hl h g=>exact⟨vs.toList,by simp,zHd f hl h g⟩
theorem Rep.fbI{k:Nat}{cs:List T}{v:Value}(h:Rep B r (.fb k cs) v):∃vs:List Value,v= .func (.func k) vs.toArray #[]∧zN B r cs vs:=by
 cases h with
 | @fb _ _ vs f hl h g=>exact⟨vs.toList,by simp,zHd f hl h g⟩
theorem Rep.mkFb{k:Nat}{cs:List T}{vs:List Value}(h:zN B r cs vs):Rep B r (.fb k cs) (.func (.func k) vs.toArray #[]):=by
 obtain⟨f,h1,h2,h3⟩:=zLo (vs:=vs.toArray) (by simpa using h)
 exact .fb f h1 h2 h3
theorem Rep.fnI{k:Nat}{cs:List T}{v:Value}(h:Rep B r (.fn k cs) v):∃vs:List Value,v= .func (.func k) #[] vs.toArray∧zN B r cs vs:=by
 cases h with
 | @fn _ _ vs f hl h g=>exact⟨vs.toList,by simp,zHd f hl h g⟩
theorem Rep.fpI{cs:List T}{v:Value}(h:Rep B r (.fp cs) v):∃b o,v= .pointer (some ⟨b,o,none⟩)∧Cls B r b o cs:=by
 cases h with
 | @fp _ b o f h g=>exact⟨b,o,rfl,fun j t e=>⟨f j,h j t e,g j t e⟩⟩
theorem Rep.slI{cs:List T}{n:Nat}{v:Value}(h:Rep B r (.sl cs n) v):∃ad c,v= .slice ad n c∧n≤c∧((n=0∧cs=[])∨∃b o,ad=some ⟨b,o,none⟩∧Cls B r b o cs):=by
 cases h with
 | @sl _ _ b o c hn f h g hm=>exact⟨_,c,rfl,hn,.inr ⟨b,o,rfl,fun j t e=>⟨f j,h j t e,g j t e⟩⟩⟩
 | @sl0 ad c hm=>exact⟨ad,c,rfl,Nat.zero_le _,.inl ⟨rfl,rfl⟩⟩
theorem Rep.slB{cs:List T}{n m c:Nat}{ad:Option Addr}(h:Rep B r (.sl cs n) (.slice ad m c)):c≤maxLen:=by
 cases h with
 | sl hn f h g hm=>exact hm
 | sl0 hm=>exact hm
theorem Rep.ogB{i o n m c:Nat}{ad:Option Addr}(h:Rep B r (.og i o n) (.slice ad m c)):c≤maxLen:=by
 cases h with
 | og h h1 h2 h3=>exact h3
theorem Rep.stI{cs:List T}{n:Nat}{v:Value}(h:Rep B r (.st cs n) v):∃ad,v= .slice ad n n∧((n=0∧cs=[])∨∃b o,ad=some ⟨b,o,none⟩∧Cls B r b o cs):=by
 cases h with
 | @st _ _ b o f h g=>exact⟨_,rfl,.inr ⟨b,o,rfl,fun j t e=>⟨f j,h j t e,g j t e⟩⟩⟩
 | @st0 ad=>exact⟨ad,rfl,.inl ⟨rfl,rfl⟩⟩
theorem Rep.vI{x v:Value}(h:Rep B r (.v x) v):v=x∧sc x=true:=by
 cases h with
 | v h=>exact⟨rfl,h⟩
theorem Rep.osI{i o n c:Nat}{v:Value}(h:Rep B r (.os i o n c) v):∃b C,v= .slice (some ⟨b,o,none⟩) n c∧B i=some (b,C):=by
 cases h with
 | @os _ _ _ _ b C h=>exact⟨b,C,rfl,h⟩
theorem Rep.ogI{i o n:Nat}{v:Value}(h:Rep B r (.og i o n) v):∃b C c,v= .slice (some ⟨b,o,none⟩) n c∧B i=some (b,C)∧n≤c∧(o=0→c=C):=by
 cases h with
 | @og _ _ _ c b C h h1 h2 h3=>exact⟨b,C,c,rfl,h,h1,h2⟩
theorem Rep.opI{i o:Nat}{v:Value}(h:Rep B r (.op i o) v):∃b C,v= .pointer (some ⟨b,o,none⟩)∧B i=some (b,C):=by
 cases h with
 | @op _ _ b C h=>exact⟨b,C,rfl,h⟩
theorem Rep.omI{i:Nat}{v:Value}(h:Rep B r (.om i) v):∃b C,v= .map (some b)∧B i=some (b,C):=by
 cases h with
 | @om _ b C h=>exact⟨b,C,rfl,h⟩
theorem Rep.ylI{i:Nat}{v:Value}(h:Rep B r (.yl i) v):∃b C,v= .func (.yield b) #[] #[]∧B i=some (b,C):=by
 cases h with
 | @yl _ b C h=>exact⟨b,C,rfl,h⟩
theorem Rep.lsI{g:Tg}{A:Ty}{l:List A.den}{v:Value}(h:Rep B r (.ls g A l) v):∃ad c,v= .slice ad l.length c∧aA r (B.In g) A.size (fun x us=>qA r (B.In g) A x us) ad c l:=by
 cases h with
 | ls h=>
  obtain⟨ad,c,e,h⟩:=h;cases e;exact⟨ad,c,rfl,h⟩
theorem qA.reps{g:Tg}:∀(A:Ty)(x:A.den)(vs:List Value),qA r (B.In g) A x vs→zN B r (cellsD g A x) vs
 | .lim,_,_,h=>by rw[h.1];exact⟨.v rfl,trivial⟩
 | .int _,_,_,h=>by rw[show _=_ from h];exact⟨.v rfl,trivial⟩
 | .bool,_,_,h=>by rw[show _=_ from h];exact⟨.v rfl,trivial⟩
 | .str,_,_,h=>by rw[show _=_ from h];exact⟨.v rfl,trivial⟩
 | .list _,_,_,h=>by
  obtain⟨ad,c,e,h'⟩:=h;subst e;exact⟨.ls ⟨ad,c,rfl,h'⟩,trivial⟩
 | .prod A B,_,_,⟨u,w,e,h1,h2⟩=>by rw[e];exact zN.app (qA.reps A _ _ h1) (qA.reps B _ _ h2)
theorem Rep.hvI{A:Ty}{l:List A.den}{v:Value}(h:Rep B r (.hv A l) v):∃ad c,v= .slice ad l.length c∧aA r (B.In .n) A.size (fun x us=>yN r (B.In .n) A x us) ad c l:=by
 cases h with
 | hv h=>
  obtain⟨ad,c,e,h⟩:=h;cases e;exact⟨ad,c,rfl,h⟩
theorem yN.reps:∀(A:Ty)(x:A.den)(vs:List Value),yN r (B.In .n) A x vs→zN B r (zCn A x) vs
 | .lim,_,_,h=>by obtain⟨a,rfl⟩:=h;exact⟨.u,trivial⟩
 | .int _,_,_,h=>by obtain⟨a,rfl⟩:=h;exact⟨.u,trivial⟩
 | .bool,_,_,h=>by rw[show _=_ from h];exact⟨.v rfl,trivial⟩
 | .str,_,_,h=>by rw[show _=_ from h];exact⟨.v rfl,trivial⟩
 | .list _,_,_,h=>by
  obtain⟨ad,c,e,h'⟩:=h;subst e;exact⟨.hv ⟨ad,c,rfl,h'⟩,trivial⟩
 | .prod A B,_,_,⟨u,w,e,h1,h2⟩=>by rw[e];exact zN.app (yN.reps A _ _ h1) (yN.reps B _ _ h2)
theorem jB(g:Tg):∀(A:Ty)(x:A.den),(cellsD g A x).length=A.size
 | .lim,_=>rfl
 | .int _,_=>rfl
 | .bool,_=>rfl
 | .str,_=>rfl
 | .list _,_=>rfl
 | .prod A B,x=>by rw[cellsD,List.length_append,jB g A,jB g B];rfl
theorem dJ(g:Tg)(A:Ty):∀l:List A.den,(kR g A l).length=l.length*A.size
 | []=>by simp[kR]
 | x::l=>by rw[kR,List.length_append,jB,dJ g A l,List.length_cons,Nat.succ_mul,Nat.add_comm]
theorem zJv(g:Tg)(A:Ty):∀(l:List A.den)(j:Nat)(t:T),(kR g A l)[j]?=some t→∃i x q,j=i*A.size+q∧l[i]?=some x∧(cellsD g A x)[q]?=some t
 | [],_,_,h=>by simp[kR]at h
 | x::l,j,t,h=>by
  rw[kR,List.getElem?_append]at h;split at h
  ·exact⟨0,x,j,by simp,rfl,h⟩
  ·rename_i hj;rw[jB]at h hj;obtain⟨i,y,q,h1,h2,h3⟩:=zJv g A l _ t h;exact⟨i+1,y,q,by rw[Nat.succ_mul];omega,by simpa using h2,h3⟩
theorem Rep.lsS{g:Tg}{A:Ty}{l:List A.den}{v:Value}(h:Rep B r (.ls g A l) v):Rep B r (.sl (kR g A l) l.length) v:=by
 obtain⟨ad,c,rfl,hn,hm,hh⟩:=h.lsI;rcases hh with rfl | ⟨b,o,rfl,hb,k⟩
 ·exact .sl0 hm
 ·refine Cls.sl (fun j t e=>?_) hn hm;obtain⟨i,x,q,h1,h2,h3⟩:=zJv g A l j t e;obtain⟨vs,g1,g2,g3⟩:=k i x h2;obtain⟨v,e1,e2⟩:=(qA.reps A x vs g2).get h3;exact⟨v,by rw[h1];exact g3 q v e1,e2⟩
theorem Rep.lsE{g:Tg}{A:Ty}{l:List A.den}{v:Value}(h:Rep B r (.ls g A l) v){i:Nat}(hi:i<l.length):∃b o n c,v= .slice (some ⟨b,o,none⟩) n c∧Cls B r b (o+i*A.size) (cellsD g A (nth A.zero l i)):=by
 obtain⟨ad,c,rfl,hn,hm,hh⟩:=h.lsI;rcases hh with rfl | ⟨b,o,rfl,hb,k⟩
 ·simp at hi
 ·refine⟨b,o,_,_,rfl,fun j t e=>?_⟩;have hx:l[i]?=some (nth A.zero l i):=by rw[qP];simp[hi]
  obtain⟨vs,g1,g2,g3⟩:=k i _ hx;obtain⟨v,e1,e2⟩:=(qA.reps A _ vs g2).get e;exact⟨v,by rw[Nat.add_assoc];exact g3 j v e1,e2⟩
theorem Rep.hvE{A:Ty}{l:List A.den}{v:Value}(h:Rep B r (.hv A l) v){i:Nat}(hi:i<l.length):∃b o n c,v= .slice (some ⟨b,o,none⟩) n c∧Cls B r b (o+i*A.size) (zCn A (nth A.zero l i)):=by
 obtain⟨ad,c,rfl,hn,hm,hh⟩:=h.hvI;rcases hh with rfl | ⟨b,o,rfl,hb,k⟩
 ·simp at hi
 ·refine⟨b,o,_,_,rfl,fun j t e=>?_⟩;have hx:l[i]?=some (nth A.zero l i):=by rw[qP];simp[hi]
  obtain⟨vs,g1,g2,g3⟩:=k i _ hx;obtain⟨v,e1,e2⟩:=(yN.reps A _ vs g2).get e;exact⟨v,by rw[Nat.add_assoc];exact g3 j v e1,e2⟩
theorem Rep.lsP{g:Tg}{A:Ty}{l:List A.den}{b o n c lo k:Nat}(h:Rep B r (.ls g A l) (.slice (some ⟨b,o,none⟩) n c))(hk:lo+k≤l.length):Rep B r (.ls g A ((l.drop lo).take k)) (.slice (some ⟨b,o+lo*A.size,none⟩) k (c-lo)):=by
 obtain⟨ad,c',e,hn,hm,hh⟩:=h.lsI;cases e;refine .ls ⟨some ⟨b,o+lo*A.size,none⟩,c-lo,?_,?_,by omega,?_⟩
 ·rw[List.length_take,List.length_drop,Nat.min_eq_left (by omega)]
 ·rw[List.length_take,List.length_drop,Nat.min_eq_left (by omega)];omega
 rcases hh with rfl | ⟨b',o',e,hb,kk⟩
 ·left;simp
 ·cases e;right;refine⟨_,_,rfl,hb,fun i x hx=>?_⟩;have hx:l[lo+i]?=some x:=by
   rw[List.getElem?_take]at hx;split at hx
   ·rwa[List.getElem?_drop]at hx
   ·cases hx
  obtain⟨vs,g1,g2,g3⟩:=kk _ x hx;refine⟨vs,g1,g2,fun j v hv=>?_⟩;have:=g3 j v hv;rwa[show o+lo*A.size+(i*A.size+j)=o+((lo+i)*A.size+j)by rw[Nat.add_mul];omega]
theorem Rep.cells{t:T}{v:Value}(ht:t≠.u)(h:Rep B r t v):zN B r (cellsOf t) v.cells.toList:=by
 have one:∀{t:T}{v:Value},v.cells=#[v]→cellsOf t=[t]→Rep B r t v→zN B r (cellsOf t) v.cells.toList:=fun e1 e2 h=>by rw[e1,e2];exact⟨h,trivial⟩
 cases h with
 | u=>exact absurd rfl ht
 | v h'=>refine one ?_ rfl (.v h');cases v<;>first | rfl | (simp[sc]at h')
 | ag f hl h g=>exact zHd f hl h g
 | sl hn f h g hm=>exact one rfl rfl (.sl hn f h g hm)
 | sl0 hm=>exact one rfl rfl (.sl0 hm)
 | sn hn f h g hm hb=>exact one rfl rfl (.sn hn f h g hm hb)
 | sn0 hm=>exact one rfl rfl (.sn0 hm)
 | st f h g=>exact one rfl rfl (.st f h g)
 | st0=>exact one rfl rfl .st0
 | fp f h g=>exact one rfl rfl (.fp f h g)
 | os h=>exact one rfl rfl (.os h)
 | og h h1 h2 h3=>exact one rfl rfl (.og h h1 h2 h3)
 | op h=>exact one rfl rfl (.op h)
 | tu f hl h g=>exact one rfl rfl (.tu f hl h g)
 | fn f hl h g=>exact one rfl rfl (.fn f hl h g)
 | fb f hl h g=>exact one rfl rfl (.fb f hl h g)
 | om h=>exact one rfl rfl (.om h)
 | yl h=>exact one rfl rfl (.yl h)
 | ls h=>exact one (by obtain⟨_,_,e,_⟩:=h;cases e;rfl) rfl (.ls h)
 | hv h=>exact one (by obtain⟨_,_,e,_⟩:=h;cases e;rfl) rfl (.hv h)
theorem zWw(x:Value):Rep B r (ofV x) x:=by
 unfold ofV;cases h:sc x with
 | true=>exact .v h
 | false=>exact .u
theorem nR:∀l:List Value,zN B r (l.map ofV) l
 | []=>trivial
 | x::l=>⟨zWw x,nR l⟩
theorem zBn(x:Value):Rep B r (ofC x) x:=by
 unfold ofC;split
 ·rename_i cs;have:=Rep.mkAg (B:=B) (r:=r) (nR cs.toList);simpa using this
 ·rename_i cs;have:=Rep.mkTu (B:=B) (r:=r) (nR cs.toList);simpa using this
 ·rename_i f;exact Rep.mkFn (vs:=[]) trivial
 ·exact zWw x
theorem Cls.cells{b o n:Nat}{cs us:List T}{w:World}{Y:Hid}(h:Cls B (rd w Y) b o cs)(ht:jD n cs=some us):∃vs,vs.length=n∧zN B (rd w Y) us vs∧qH w ⟨b,o,none⟩ vs:=by
 obtain⟨h1,h2⟩:=zCb ht;obtain⟨f,h3,h4⟩:=h.fun;have hg:∀j,j<n→∃t,cs[j]?=some t:=fun j hj=>⟨cs[j],by simp⟩
 refine⟨(List.range n).map f,by simp,zN.of (by simp[h2,Nat.min_eq_left h1]) fun j t v e e'=>?_,fun j v e=>?_⟩
 ·have hj:j<n:=by
   have:=(List.getElem?_eq_some_iff.1 e').1;simpa using this
  rw[h2,List.getElem?_take,if_pos hj]at e;have:v=f j:=by simpa[hj]using e'.symm
  rw[this];exact h4 j t e
 ·have hj:j<n:=by
   have:=(List.getElem?_eq_some_iff.1 e).1;simpa using this
  obtain⟨t,ht⟩:=hg j hj;have:v=f j:=by simpa[hj]using e.symm
  rw[this,qJ];exact qU (h3 j t ht)
end
def Iv(P:Program)(w:World):Prop:=P.globalNamed "internal/strconv.uint64pow10" ≠none→Lib.TabIs P w "internal/strconv.uint64pow10" .u64 Lib.pow10Tab
theorem Iv.upd{P:Program}{w w':World}(h:Iv P w)(hu:Upd E0 w w'):Iv P w':=fun hn=>Lib.tabBelow_of_tabIs (h hn) w' hu.below
def jN:TO→Bool
 | .row .. | .gro .. | .map _ | .mapd _ | .loop .. =>true
 | _=>false
def LSt:Bool→Option Code→Loop→Prop
 | true,none,rec=>rec.state= .ready∧rec.pending=none
 | true,some _,_=>False
 | false,none,rec=>rec.state= .busy
 | false,some c,rec=>rec.state= .done∧rec.pending=some c
def kX(B:Bm)(r:Rd):List (Value×T)→List MapEntry→Prop
 | [],[]=>True
 | e::l,f::es=>f.key=e.1∧Rep B r e.2 f.val∧kX B r l es
 | _,_=>False
theorem kX.mono{B B':Bm}{r r':Rd}(hB:BLe B B')(hr:Le r r'):∀{l:List (Value×T)}{es:List MapEntry},kX B r l es→kX B' r' l es
 | [],[],_=>trivial
 | _::_,_::_,h=>⟨h.1,h.2.1.mono hB hr,kX.mono hB hr h.2.2⟩
 | [],_::_,h=>h.elim
 | _::_,[],h=>h.elim
theorem kX.length{B:Bm}{r:Rd}:∀{l:List (Value×T)}{es:List MapEntry},kX B r l es→l.length=es.length
 | [],[],_=>rfl
 | _::_,_::_,h=>congrArg (·+1) (kX.length h.2.2)
 | [],_::_,h=>h.elim
 | _::_,[],h=>h.elim
inductive RO (P:Program) (B:Bm) (r:Rd) (C:Nat):TO→Obj→Prop
  | row {cs:List T} {e:TypeId} {c:Array Value} (h:zN B r cs c.toList):RO P B r C (.row cs e) (.cells c e (0,0))
  | gro {cs:Cs} {e:TypeId} {c:Array Value} {i0:TypeInfo} (hi:P.info? e=some i0) (hs:c.size=C*i0.size) (hC:C≤maxLen) (h:zN B r cs.list (c.toList.take cs.list.length)):RO P B r C (.gro cs e) (.cells c e (0,0))
  | map {l:List (Value×T)} {es:Array MapEntry} {clk:Nat} (h:kX B r l es.toList) (hc:clk=es.size) (hb:es.toList.map (·.born)=List.range es.size):RO P B r C (.map l) (.map es clk)
  | mapd {d:MD} {es:Array MapEntry} {clk:Nat} (h:kX B r d.ents es.toList) (hc:clk=es.size) (hb:es.toList.map (·.born)=List.range es.size):RO P B r C (.mapd d) (.map es clk)
  | loop {L:List T} {ps:List Nat} {a b:Code} {rec:Loop} {ready:Bool} {pend:Option Code} (hL:zN B r L rec.tmps.toList) (hp:rec.params.toList=ps) (ha:rec.assign=a) (hb:rec.body=b)
      (hna:noR a=true) (hnb:noR b=true) (hs:LSt ready pend rec):RO P B r C (.loop L ps a b ready pend) (.loop rec)
theorem RO.mono{P:Program}{B B':Bm}{r r':Rd}{C:Nat}{t:TO}{o:Obj}(hB:BLe B B')(hr:Le r r')(h:RO P B r C t o):RO P B' r' C t o:=by
 cases h with
 | row h=>exact .row (h.mono hB hr)
 | gro hi hs hC h=>exact .gro hi hs hC (h.mono hB hr)
 | map h hc hb=>exact .map (h.mono hB hr) hc hb
 | mapd h hc hb=>exact .mapd (h.mono hB hr) hc hb
 | loop hL hp ha hb hna hnb hs=>exact .loop (hL.mono hB hr) hp ha hb hna hnb hs
structure Wd(P:Program)(E:Nat→Prop)(w0:World)(X:Hid)(F:List Nat)(H:List TO)(B:Bm)(w:World)(Y:Hid)(Mo:List (Nat×Obj)):Prop where
 st:St E w0 X w Y (Mo++jK F)
 ob:∀(i:Nat)(o:TO),H[i]?=some o→jN o=true→∃b C ob,B i=some (b,C)∧(b,ob)∈Mo∧RO P B (rd w Y) C o ob
 fz:∀(i:Nat)(cs:List T),H[i]?=some (.fz cs)→∃b C,B i=some (b,C)∧Cls B (rd w Y) b 0 cs
 nn:∀i,H.length≤i→B i=none
 inj:∀(i j:Nat)(oi oj:TO)(p q:Nat×Nat),H[i]?=some oi→jN oi=true→H[j]?=some oj→jN oj=true→B i=some p→B j=some q→p.1=q.1→i=j
 bN:B.N=w0.heap.size
 iv:∀w',Upd E w0 w'→Iv P w'
section
variable {P:Program}{E:Nat→Prop}{w0:World}{X:Hid}{F:List Nat}{H:List TO}{B:Bm}{w w':World}{Y Y':Hid}{Mo:List (Nat×Obj)}
theorem St.perm{M M':List (Nat×Obj)}(hp:M.Perm M')(h:St E w0 X w Y M):St E w0 X w Y M':=
 ⟨h.upd,h.lt,h.hid,fun q hq=>h.own q (hp.mem_iff.2 hq),(hp.map (·.1)).nodup_iff.1 h.nd,h.ltX⟩
theorem Wd.step{F':List Nat}(h:Wd P E w0 X F H B w Y Mo)(hS:St E w0 X w' Y' (Mo++jK F'))(hle:Le (rd w Y) (rd w' Y')):Wd P E w0 X F' H B w' Y' Mo:=
 ⟨hS,fun i o ho hl=>by
  obtain⟨b,C,ob,h1,h2,h3⟩:=h.ob i o ho hl;exact⟨b,C,ob,h1,h2,h3.mono (BLe.refl B) hle⟩,fun i cs hc=>by
  obtain⟨b,C,h1,h2⟩:=h.fz i cs hc;exact⟨b,C,h1,h2.mono (BLe.refl B) hle⟩,h.nn,h.inj,h.bN,h.iv⟩
theorem Wd.call(h:Wd P E w0 X F H B w Y Mo)(k:Upd E0 w w'):Wd P E w0 X F H B w' Y Mo:=h.step (h.st.call k) (k.le Y)
theorem Wd.heap(h:Wd P E w0 X F H B w Y Mo){b:Nat}{ob:Obj}(hm:(b,ob)∈Mo):w.heap[b]?=some ob:=(h.st.own _ (List.mem_append_left _ hm)).1
theorem Wd.ivw(h:Wd P E w0 X F H B w Y Mo):Iv P w:=h.iv w h.st.upd
theorem Wd.bNle(h:Wd P E w0 X F H B w Y Mo):B.N≤w.heap.size:=by rw[h.bN];exact h.st.upd.size
theorem Wd.new{F':List Nat}(h:Wd P E w0 X F H B w Y Mo){g C:Nat}{o:TO}{ob:Obj}(hS:St E w0 X w' Y' (((g,ob)::Mo)++jK F'))(hle:Le (rd w Y) (rd w' Y'))(hl:jN o=true)(hR:RO P B (rd w' Y') C o ob):
  Wd P E w0 X F' (H++[o]) (tX B H.length (g,C)) w' Y' ((g,ob)::Mo)∧BLe B (tX B H.length (g,C)):=by
 have hB:BLe B (tX B H.length (g,C)):=BLe.set (h.nn _ (Nat.le_refl _));have hg:∀p∈Mo,p.1≠g:=fun p hp e=>by
  have:=hS.nd;simp only[List.cons_append,List.map_cons,List.nodup_cons,List.mem_map,not_exists,not_and]at this;exact this.1 p (List.mem_append_left _ hp) e
 have hget:∀(i:Nat)(x:TO),(H++[o])[i]?=some x→(H[i]?=some x∧i≠H.length)∨(i=H.length∧x=o):=fun i x hx=>by
  rcases Nat.lt_trichotomy i H.length with hlt | rfl | hlt
  ·rw[List.getElem?_append_left hlt]at hx;exact .inl ⟨hx,Nat.ne_of_lt hlt⟩
  ·simp at hx;exact .inr ⟨rfl,hx.symm⟩
  ·rw[List.getElem?_eq_none (by simp;omega)]at hx;cases hx
 refine⟨⟨hS,fun i x hx hlx=>?_,fun i cs hx=>?_,fun i hi=>?_,fun i j oi oj p q hi li hj lj hp hq e=>?_,h.bN,h.iv⟩,hB⟩
 ·rcases hget i x hx with⟨hx,_⟩ | ⟨rfl,rfl⟩
  ·obtain⟨b,C',ob',h1,h2,h3⟩:=h.ob i x hx hlx;exact⟨b,C',ob',hB _ _ h1,List.mem_cons_of_mem _ h2,h3.mono hB hle⟩
  ·exact⟨g,C,ob,qE _ _ _,List.mem_cons_self,hR.mono hB (Le.refl _)⟩
 ·rcases hget i _ hx with⟨hx,_⟩ | ⟨rfl,e⟩
  ·obtain⟨b,C',h1,h2⟩:=h.fz i cs hx;exact⟨b,C',hB _ _ h1,h2.mono hB hle⟩
  ·subst e;cases hl
 ·rw[List.length_append,List.length_singleton]at hi;rw[jJ _ _ (by omega)]
  exact h.nn i (by omega)
 ·have own:∀(i:Nat)(x:TO)(p:Nat×Nat),H[i]?=some x→jN x=true→B i=some p→p.1≠g:=fun i x p hx hl hp=>by
   obtain⟨b,C',ob',h1,h2,_⟩:=h.ob i x hx hl;rw[hp]at h1;cases h1;exact hg _ h2
  rcases hget i _ hi with⟨hi',ni⟩ | ⟨rfl,rfl⟩<;>rcases hget j _ hj with⟨hj',nj⟩ | ⟨rfl,rfl⟩
  ·rw[jJ _ _ ni]at hp;rw[jJ _ _ nj]at hq;exact h.inj i j oi oj p q hi' li hj' lj hp hq e
  ·rw[jJ _ _ ni]at hp;rw[qE]at hq;cases hq;exact absurd e (own i _ p hi' li hp)
  ·rw[jJ _ _ nj]at hq;rw[qE]at hp;cases hp;exact absurd e.symm (own j _ q hj' lj hq)
  ·rfl
theorem Wd.alloc(h:Wd P E w0 X F H B w Y Mo){C:Nat}{o:TO}{ob:Obj}(hl:jN o=true)(hR:RO P B (rd w Y) C o ob):
  Wd P E w0 X F (H++[o]) (tX B H.length (w.heap.size,C)) (w.alloc ob) (zBe w.heap.size Y) ((w.heap.size,ob)::Mo)∧BLe B (tX B H.length (w.heap.size,C)):=
 h.new (h.st.alloc ob) (Le.hide_new ob) hl (hR.mono (BLe.refl B) (Le.hide_new ob))
theorem zTt{α:Type}{l:List α}{k:Nat}{p q x:α}(hk:l[k]?=some q)(hp:p∈l)(hne:p≠q):p∈l.set k x:=by
 obtain⟨j,hj⟩:=List.getElem?_of_mem hp;have:k≠j:=fun e=>by subst e;rw[hk]at hj;cases hj;exact hne rfl
 exact List.mem_of_getElem? (i:=j) (by rw[List.getElem?_set_ne this];exact hj)
theorem Wd.set(h:Wd P E w0 X F H B w Y Mo){i k b C:Nat}{o o':TO}{ob ob':Obj}(hi:H[i]?=some o)(hl:jN o=true)(hB:B i=some (b,C))(hk:Mo[k]?=some (b,ob))(hS:St E w0 X w' Y (Mo.set k (b,ob')++jK F))(hle:Le (rd w Y) (rd w' Y))
  (hl':∀cs,o'≠.fz cs) (hR:jN o'=true→RO P B (rd w' Y) C o' ob'):Wd P E w0 X F (H.set i o') B w' Y (Mo.set k (b,ob')):=by
 have hlt:i<H.length:=(List.getElem?_eq_some_iff.1 hi).1;have hget:∀(j:Nat)(x:TO),(H.set i o')[j]?=some x→(j≠i∧H[j]?=some x)∨(j=i∧x=o'):=fun j x hx=>by
  by_cases e:i=j
  ·subst e;rw[List.getElem?_set_self hlt]at hx;cases hx;exact .inr ⟨rfl,rfl⟩
  ·rw[List.getElem?_set_ne e]at hx;exact .inl ⟨fun e'=>e e'.symm,hx⟩
 refine⟨hS,fun j x hx hlx=>?_,fun j cs hx=>?_,fun j hj=>h.nn j (by simpa using hj),fun j1 j2 o1 o2 p q h1 l1 h2 l2 hp hq e=>?_,h.bN,h.iv⟩
 ·rcases hget j x hx with⟨hne,hx⟩ | ⟨rfl,rfl⟩
  ·obtain⟨b',C',ob2,g1,g2,g3⟩:=h.ob j x hx hlx;refine⟨b',C',ob2,g1,zTt hk g2 (fun e=>hne ?_),g3.mono (BLe.refl B) hle⟩;cases e;exact h.inj j i x o _ _ hx hlx hi hl g1 hB rfl
  ·exact⟨b,C,ob',hB,List.mem_of_getElem? (i:=k) (by rw[List.getElem?_set_self (List.getElem?_eq_some_iff.1 hk).1]),hR hlx⟩
 ·rcases hget j _ hx with⟨hne,hx⟩ | ⟨rfl,e⟩
  ·obtain⟨b',C',g1,g2⟩:=h.fz j cs hx;exact⟨b',C',g1,g2.mono (BLe.refl B) hle⟩
  ·exact absurd e.symm (hl' cs)
 ·rcases hget j1 _ h1 with⟨n1,g1⟩ | ⟨rfl,rfl⟩<;>rcases hget j2 _ h2 with⟨n2,g2⟩ | ⟨rfl,rfl⟩
  ·exact h.inj _ _ _ _ _ _ g1 l1 g2 l2 hp hq e
  ·exact h.inj _ _ _ _ _ _ g1 l1 hi hl hp hq e
  ·exact h.inj _ _ _ _ _ _ hi hl g2 l2 hp hq e
  ·rfl
theorem Wd.gone(h:Wd P E w0 X F H B w Y Mo)(i:Nat):Wd P E w0 X F (H.set i .gone) B w Y Mo:=by
 have hget:∀(j:Nat)(x:TO),(H.set i .gone)[j]?=some x→x≠.gone→H[j]?=some x:=fun j x hx hne=>by
  by_cases e:i=j
  ·subst e;rw[List.getElem?_set]at hx;split at hx
   ·split at hx
    ·cases hx;exact absurd rfl hne
    ·cases hx
   ·exact hx
  ·rwa[List.getElem?_set_ne e]at hx
 have ng:∀{x:TO},jN x=true→x≠.gone:=fun h e=>by subst e;cases h
 exact⟨h.st,fun j x hx hlx=>h.ob j x (hget j x hx (ng hlx)) hlx,fun j cs hx=>h.fz j cs (hget j _ hx (by simp)),fun j hj=>h.nn j (by simpa using hj),
  fun j1 j2 o1 o2 p q h1 l1 h2 l2 hp hq e=>h.inj j1 j2 o1 o2 p q (hget _ _ h1 (ng l1)) l1 (hget _ _ h2 (ng l2)) l2 hp hq e,h.bN,h.iv⟩
theorem Wd.rowCells(h:Wd P E w0 X F H B w Y Mo){i b C o n:Nat}{cs us:List T}(hB:B i=some (b,C))(hr:nQ (nth .gone H i)=some cs)(ht:jD n (jA cs o)=some us):∃vs,vs.length=n∧zN B (rd w Y) us vs∧qH w ⟨b,o,none⟩ vs:=by
 rw[qP]at hr;cases hi:H[i]? with
 | none=>rw[List.getD_eq_getElem?_getD,hi]at hr;simp[nQ]at hr
 | some x=>
  rw[List.getD_eq_getElem?_getD,hi]at hr;have cellsCase:∀(c:Array Value)(e:TypeId)(z:Nat×Nat),w.heap[b]?=some (.cells c e z)→zN B (rd w Y) cs (c.toList.take cs.length)→∃vs,vs.length=n∧zN B (rd w Y) us vs∧qH w ⟨b,o,none⟩ vs:=fun c e z hb hR=>by
   obtain⟨h1,h2⟩:=zN.take (hR.drop o) ht;refine⟨_,h2,h1,fun j v hj=>?_⟩;rw[qJ,cell_of_row w b _ c e z hb];have hj':j<n:=by rw[←h2];exact(List.getElem?_eq_some_iff.1 hj).1
   rw[List.getElem?_take,if_pos hj',List.getElem?_drop,List.getElem?_take]at hj;split at hj
   ·simpa using hj
   ·cases hj
  cases x with
  | row cs' e=>
   simp only[Option.getD_some,nQ,Option.some.injEq]at hr;subst hr;obtain⟨b',C',ob,g1,g2,g3⟩:=h.ob i _ hi rfl;rw[hB]at g1;cases g1;cases g3 with
   | @row _ _ c hR=>exact cellsCase c e _ (h.heap g2) (by rw[hR.length,List.take_length];exact hR)
  | gro cs' e=>
   simp only[Option.getD_some,nQ,Option.some.injEq]at hr;subst hr;obtain⟨b',C',ob,g1,g2,g3⟩:=h.ob i _ hi rfl;rw[hB]at g1;cases g1;cases g3 with
   | @gro _ _ c i0 _ _ _ hR=>exact cellsCase c e _ (h.heap g2) hR
  | fz cs'=>
   simp only[Option.getD_some,nQ,Option.some.injEq]at hr;subst hr;obtain⟨b',C',g1,g2⟩:=h.fz i _ hi;rw[hB]at g1;cases g1;have:=(g2.drop o).cells ht;simpa using this
  | _=>simp[nQ]at hr
theorem Wd.from(h:Wd P E w0 X F H B w Y Mo){t:T}{v:Value}{n:Nat}{cs us:List T}(hR:Rep B (rd w Y) t v)(hf:bV H t=some cs)(ht:jD n cs=some us):∃b o vs,v= .pointer (some ⟨b,o,none⟩)∧vs.length=n∧zN B (rd w Y) us vs∧qH w ⟨b,o,none⟩ vs:=by
 cases t<;>simp only[bV]at hf<;>try cases hf
 ·obtain⟨b,o,rfl,hc⟩:=hR.fpI;obtain⟨vs,h1,h2,h3⟩:=hc.cells ht;exact⟨b,o,vs,rfl,h1,h2,h3⟩
 ·rename_i i o;cases hr:nQ (nth .gone H i)with
  | none=>simp[hr]at hf
  | some cs'=>
   simp only[hr,Option.some.injEq]at hf;subst hf;cases hR with
   | @op _ _ b C hB=>
    obtain⟨vs,h1,h2,h3⟩:=h.rowCells hB hr ht;exact⟨b,o,vs,rfl,h1,h2,h3⟩
theorem Wd.slice(h:Wd P E w0 X F H B w Y Mo){t:T}{v:Value}{n s:Nat}{us:List T}(hR:Rep B (rd w Y) t v)(hn:qZ t=some n)(hc:qC H s t=some us):∃ad c vs,v= .slice ad n c∧vs.length=n*s∧zN B (rd w Y) us vs∧(n*s≠0→∃a,ad=some a)∧∀a,ad=some a→qH w a vs:=by
 have nul:∀{us:List T},jD 0 ([]:List T)=some us→us=[]:=fun h=>by simpa[jD]using h.symm
 cases t with
 | u=>cases hc
 | fp=>cases hc
 | op=>cases hc
 | ag=>cases hc
 | tu=>cases hc
 | fn=>cases hc
 | fb=>cases hc
 | om=>cases hc
 | yl=>cases hc
 | hv=>cases hc
 | ls g A l=>
  simp only[qZ,Option.some.injEq]at hn;subst hn;simp only[qC]at hc;cases hb:Nat.beq s A.size with
  | false=>simp[hb]at hc
  | true=>
   simp only[hb,cond_true,Option.some.injEq]at hc;obtain rfl:=Nat.eq_of_beq_eq_true hb;subst hc;have ht:jD (l.length*A.size) (kR g A l)=some (kR g A l):=by rw[←dJ g A l];exact fH _
   obtain⟨ad,c,rfl,_,hh⟩:=hR.lsS.slI;rcases hh with⟨h0,h1⟩ | ⟨b,o,rfl,hc'⟩
   ·refine⟨ad,c,[],rfl,by simp[h0],?_,by simp[h0],fun a _ j v e=>by simp at e⟩
    rw[h1];trivial
   ·obtain⟨vs,h1,h2,h3⟩:=hc'.cells ht;exact⟨_,c,vs,rfl,h1,h2,fun _=>⟨_,rfl⟩,fun a e=>by cases e;exact h3⟩
 | v x=>
  obtain⟨rfl,_⟩:=hR.vI;unfold qC at hc;split at hc;all_goals first
   | (rename_i e;cases e;done)
   | (cases hc;done)
   | skip
  rename_i e;cases e;simp only[qZ,Option.some.injEq]at hn;subst hn;obtain rfl:=Option.some.inj hc;exact⟨none,0,[],rfl,by simp,trivial,by simp,fun a e=>by cases e⟩
 | sl cs k=>
  simp only[qZ,Option.some.injEq]at hn;subst hn;simp only[qC]at hc;obtain⟨ad,c,rfl,_,hh⟩:=hR.slI;rcases hh with⟨rfl,rfl⟩ | ⟨b,o,rfl,hc'⟩
  ·rw[Nat.zero_mul]at hc;obtain rfl:=nul hc;exact⟨ad,c,[],rfl,by simp,trivial,by simp,fun a _ j v e=>by simp at e⟩
  ·obtain⟨vs,h1,h2,h3⟩:=hc'.cells hc;exact⟨_,c,vs,rfl,h1,h2,fun _=>⟨_,rfl⟩,fun a e=>by cases e;exact h3⟩
 | sn cs k=>
  simp only[qZ,Option.some.injEq]at hn;subst hn;simp only[qC]at hc;obtain⟨ad,c,rfl,_,hh⟩:=(show Rep B (rd w Y) (.sl cs k) v from hR.dn).slI;rcases hh with⟨rfl,rfl⟩ | ⟨b,o,rfl,hc'⟩
  ·rw[Nat.zero_mul]at hc;obtain rfl:=nul hc;exact⟨ad,c,[],rfl,by simp,trivial,by simp,fun a _ j v e=>by simp at e⟩
  ·obtain⟨vs,h1,h2,h3⟩:=hc'.cells hc;exact⟨_,c,vs,rfl,h1,h2,fun _=>⟨_,rfl⟩,fun a e=>by cases e;exact h3⟩
 | st cs k=>
  simp only[qZ,Option.some.injEq]at hn;subst hn;simp only[qC]at hc;obtain⟨ad,rfl,hh⟩:=hR.stI;rcases hh with⟨rfl,rfl⟩ | ⟨b,o,rfl,hc'⟩
  ·rw[Nat.zero_mul]at hc;obtain rfl:=nul hc;exact⟨ad,0,[],rfl,by simp,trivial,by simp,fun a _ j v e=>by simp at e⟩
  ·obtain⟨vs,h1,h2,h3⟩:=hc'.cells hc;exact⟨_,_,vs,rfl,h1,h2,fun _=>⟨_,rfl⟩,fun a e=>by cases e;exact h3⟩
 | os i o k c=>
  simp only[qZ,Option.some.injEq]at hn;subst hn;simp only[qC]at hc;cases hr:nQ (nth .gone H i)with
  | none=>simp[hr]at hc
  | some cs'=>
   simp only[hr]at hc;cases hR with
   | @os _ _ _ _ b C hB=>
    obtain⟨vs,h1,h2,h3⟩:=h.rowCells hB hr hc;exact⟨_,c,vs,rfl,h1,h2,fun _=>⟨_,rfl⟩,fun a e=>by cases e;exact h3⟩
 | og i o k=>
  simp only[qZ,Option.some.injEq]at hn;subst hn;simp only[qC]at hc;cases hr:nQ (nth .gone H i)with
  | none=>simp[hr]at hc
  | some cs'=>
   simp only[hr]at hc;cases hR with
   | @og _ _ _ c b C hB _ _=>
    obtain⟨vs,h1,h2,h3⟩:=h.rowCells hB hr hc;exact⟨_,c,vs,rfl,h1,h2,fun _=>⟨_,rfl⟩,fun a e=>by cases e;exact h3⟩
end
def Ans(P:Program)(w:World)(ρ:Operand→Value)(o:Oper)(B:Bm)(r:Rd)(k:Nat):T×Option TO→Prop
 | (t,none)=>∃v,(execOp ρ o).run P w= .ok (.value v) w∧Rep B r t v
 | (t,some ob)=>∃(C:Nat)(obj:Obj)(vf:Nat→Value),(∀w',(execOp ρ o).run P w'= .ok (.value (vf w'.heap.size)) (w'.alloc obj))∧jN ob=true∧RO P B r C ob obj∧∀b,Rep (tX B k (b,C)) r t (vf b)
section
variable {P:Program}{E:Nat→Prop}{w0:World}{X:Hid}{F:List Nat}{H:List TO}{B:Bm}{w:World}{Y:Hid}{Mo:List (Nat×Obj)}{ρ:Operand→Value}{ρT:Operand→T}{o:Oper}{r:Rd}{k:Nat}
theorem zZ{t:T}{x:T×Option TO}(h:val t=some x)(hA:Ans P w ρ o B r k (t,none)):Ans P w ρ o B r k x:=by cases h;exact hA
theorem zDr{α:Type}:∀{s:Sem α}{a:α},zJa P s=some a→∀w,s.run P w= .ok a w:=by
 intro s;induction s with
 | pure x=>intro a h w;simp only[zJa,Option.some.injEq]at h;subst h;rfl
 | program f ih=>intro a h w;exact ih P h w
 | _=>intro a h w;simp[zJa]at h
theorem zRw:∀{cs:List T}{l vs:List Value},zUy cs=some l→zN B r cs vs→vs=l
 | [],_,[],h,_=>by simp[zUy]at h;exact h.symm
 | t::cs,l,v::vs,h,hR=>by
  simp only[zUy]at h;cases ht:vOf t with
  | none=>simp[ht]at h
  | some x=>
   cases hl:zUy cs with
   | none=>simp[ht,hl]at h
   | some y=>
    simp only[ht,hl,Option.some.injEq]at h;subst h;cases t<;>simp only[vOf]at ht<;>try cases ht
    rw[hR.1.vI.1,zRw hl hR.2]
 | [],_,_::_,_,h=>h.elim
 | _::_,_,[],_,h=>h.elim
theorem zNj{t:T}{x v:Value}(h:sOf t=some x)(hR:Rep B r t v):v=x:=by
 cases t<;>simp only[sOf]at h<;>try cases h
 ·exact hR.vI.1
 ·rename_i cs;obtain⟨vs,rfl,hR2⟩:=hR.agI;cases hl:zUy cs with
  | none=>simp[hl]at h
  | some l=>
   simp only[hl,Option.some.injEq]at h;rw[←h,zRw hl hR2]
theorem zRp:∀{l:List Operand},zRo ρT l=true→∀x∈l,∃v,sOf (ρT x)=some v
 | [],_,x,h=>by cases h
 | y::l,hs,x,h=>by
  simp only[zRo]at hs;cases hy:sOf (ρT y)with
  | none=>simp[hy]at hs
  | some v=>
   rcases List.mem_cons.1 h with rfl | h
   ·exact⟨v,hy⟩
   ·exact zRp (by simpa[hy]using hs) x h
theorem qFb(hρ:∀x,Rep B r (ρT x) (ρ x)){t:T}(h:zBl P ρT o=some t):Ans P w ρ o B r k (t,none):=by
 unfold zBl at h;cases hc:zQh o.op&&zRo ρT o.op.operands.toList with
 | false=>simp[hc]at h
 | true=>
  simp only[hc,cond_true]at h;simp only[Bool.and_eq_true]at hc;have he:execOp ρ o=execOp (sAt ρT) o:=execOp_congr o (mU hc.1) fun x hx=>by
   obtain⟨v,hv⟩:=zRp hc.2 x (by simpa using hx)
   rw[zNj hv (hρ x)];simp[sAt,hv]
  cases hr:zJa P (execOp (sAt ρT) o)with
  | none=>simp[hr,qFf]at h
  | some x=>
   cases x<;>simp only[hr,qFf,Option.some.injEq]at h<;>try cases h
   rename_i v;exact⟨v,by rw[he];exact zDr hr w,zBn v⟩
theorem qIo(k:IntKind)(z:Int):wr k z=k.wrap z:=by
 unfold wr;split
 ·rename_i n;cases h:Nat.blt n (qKp k)with
  | false=>rfl
  | true=>
   have hn:n<qKp k:=by simpa[Nat.blt_eq]using h
   unfold IntKind.wrap;cases k<;>simp only[qKp]at hn<;>simp[IntKind.bits,IntKind.signed]<;>omega
 ·rfl
theorem qDt(a b:Int):ieq a b=(a==b):=by
 cases a<;>cases b<;>simp only[ieq]
 ·rename_i x y;rw[Bool.eq_iff_iff];simp[←Int.ofNat_inj]
 ·rfl
 ·rfl
 ·rename_i x y;rw[Bool.eq_iff_iff];simp
theorem qTy(a b:Int):ilt a b=decide (a<b):=by
 cases a<;>cases b<;>simp only[ilt]
 ·rename_i x y;rw[Bool.eq_iff_iff];simp[Nat.blt_eq]
 ·rename_i x y;rw[Bool.eq_iff_iff];simp;omega
 ·rename_i x y;rw[Bool.eq_iff_iff];simp;omega
 ·rename_i x y;rw[Bool.eq_iff_iff];simp[Nat.blt_eq];omega
theorem zWm{j k:IntKind}(h:Nat.beq (kind j) (kind k)=true):j=k:=by
 cases j<;>cases k<;>first | rfl | (revert h;decide)
theorem qJk{op:BinOp}{k:IntKind}{a b:Int}{c:Value}(h:zYn op k a b=some c)(t:TypeId)(w:World):(binOp op t (.int k a) (.int k b)).run P w= .ok c w∧sc c=true:=by
 cases op<;>simp only[zYn,Option.some.injEq]at h<;>try cases h
 all_goals simp only[binOp,ne_eq,not_true_eq_false,if_false,Op.intArith,Op.intCmp,Sem.run_pure,qIo,qDt,qTy,sc,and_true]
 all_goals first
  | rfl
  | (simp only[Result.ok.injEq,Value.bool.injEq,and_true,bne,GT.gt,GE.ge];rw[Bool.eq_iff_iff];simp;try omega)
theorem vE{t e:TypeId}(h:elT P t=some e):P.underlying t=some (.slice e):=by
 unfold elT at h;split at h
 ·rename_i x hx;cases h;exact hx
 ·cases h
theorem qCy{d:Nat}{t e:TypeId}{a:Addr}{n c:Nat}(ht:P.underlying t=some (.slice e)):(Op.equalIn (d+1) t (.slice (some a) n c) (.slice none 0 0)).run P w= .ok false w:=by
 unfold Op.equalIn;simp only[underlying,ht,Sem.run_bind,Sem.run_pure,run_program,Result.andThen_ok]
theorem wP{j k:IntKind}(h:Nat.beq (kind j) (kind k)=true):j=k:=by
 have:=Nat.eq_of_beq_eq_true h;cases j<;>cases k<;>first | rfl | cases this
theorem rU(a b:Int):(a==b)=ieq a b:=by
 cases a with
 | ofNat a=>cases b with
  | ofNat b=>
   cases h:Nat.beq a b with
   | true=>obtain rfl:=Nat.eq_of_beq_eq_true h;simp[ieq]
   | false=>simp only[ieq,h,beq_eq_false_iff_ne];intro e;cases e;simp at h
  | negSucc b=>rfl
 | negSucc a=>cases b with
  | ofNat b=>rfl
  | negSucc b=>
   cases h:Nat.beq a b with
   | true=>obtain rfl:=Nat.eq_of_beq_eq_true h;simp[ieq]
   | false=>simp only[ieq,h,beq_eq_false_iff_ne];intro e;cases e;simp at h
theorem zLw{P:Program}{w:World}{d:Nat}{t:TypeId}{k k':IntKind}{a b:Int}(ht:P.underlying t=some (.int k')):(Op.equalIn (d+1) t (.int k a) (.int k b)).run P w= .ok (a==b) w:=by
 unfold Op.equalIn;simp only[underlying,ht,Sem.run_bind,Sem.run_pure,run_program,Result.andThen_ok];simp
theorem zBu{P:Program}{w:World}{t:TypeId}{k':IntKind}{cs:Array Value}{i:Nat}{v:Value}(ht:P.underlying t=some (.int k'))(h:cs[i]?=some v):(part t cs i).run P w= .ok v w:=by
 unfold part isAgg;simp only[underlying,ht,Sem.run_bind,Sem.run_pure,run_program,Result.andThen_ok];simp[h]
theorem qPm{P:Program}{w:World}{d:Nat}{t:TypeId}{f1 f2 f3:Field}{k1 k2 k3 q1 q2 q3:IntKind}{a1 a2 a3 b1 b2 b3:Int}(ht:P.underlying t=some (.struct #[f1,f2,f3]))(hs:P.stoodInHeld t=false)(h1:P.underlying f1.type=some (.int q1))(h2:P.underlying f2.type=some (.int q2))(h3:P.underlying f3.type=some (.int q3))
 (n1:f1.name≠ "_") (n2:f2.name≠ "_") (n3:f3.name≠ "_") (p1:f1.offset=0) (p2:f2.offset=1) (p3:f3.offset=2):
 (Op.equalIn (d+1+1) t (.agg #[.int k1 a1,.int k2 a2,.int k3 a3]) (.agg #[.int k1 b1,.int k2 b2,.int k3 b3])).run P w= .ok (a1==b1&&(a2==b2&&a3==b3)) w:=by
 unfold Op.equalIn;simp only[underlying,ht,Sem.run_bind,Sem.run_pure,run_program,Result.andThen_ok,hs];simp[n1,n2,n3,p1,p2,p3];simp only[zBu (cs:=#[Value.int k1 a1,.int k2 a2,.int k3 a3]) (i:=0) h1 rfl,zBu (cs:=#[Value.int k1 b1,.int k2 b2,.int k3 b3]) (i:=0) h1 rfl,zBu (cs:=#[Value.int k1 a1,.int k2 a2,.int k3 a3]) (i:=1) h2 rfl,zBu (cs:=#[Value.int k1 b1,.int k2 b2,.int k3 b3]) (i:=1) h2 rfl,zBu (cs:=#[Value.int k1 a1,.int k2 a2,.int k3 a3]) (i:=2) h3 rfl,zBu (cs:=#[Value.int k1 b1,.int k2 b2,.int k3 b3]) (i:=2) h3 rfl,Result.andThen_ok];simp only[List.getElem_toArray,List.getElem_cons_succ,List.getElem_cons_zero];have e1:=zLw (P:=P) (w:=w) (d:=d) (a:=a1) (b:=b1) (k:=k1) h1;have e2:=zLw (P:=P) (w:=w) (d:=d) (a:=a2) (b:=b2) (k:=k2) h2;have e3:=zLw (P:=P) (w:=w) (d:=d) (a:=a3) (b:=b3) (k:=k3) h3;rw[e1];cases a1==b1
 ·simp
 simp only[Result.andThen_ok];rw[if_neg (by simp),e2]
 cases a2==b2
 ·simp
 simp only[Result.andThen_ok];rw[if_neg (by simp),e3]
 cases a3==b3
 ·simp
 simp
theorem xB{k:IntKind}{o:Nat}{f:Field}(h:qDv P k o f=true):P.underlying f.type=some (.int k)∧f.offset=o∧f.name≠ "_" :=by
 unfold qDv at h;split at h
 ·rename_i k' hu;simp only[Bool.and_eq_true]at h;refine⟨by rw[hu,wP h.1],Nat.eq_of_beq_eq_true h.2.1,fun e=>?_⟩
  rw[e]at h;have:=h.2.2;simp at this
 ·cases h
theorem qTg{op:BinOp}{t t2:TypeId}{x y:Operand}{xs ys:List T}(ho:o.op= .binOp op t x y t2)(hx:Rep B r (.ag xs) (ρ x))(hy:Rep B r (.ag ys) (ρ y)){z:T×Option TO}(h:eq3 P op t xs ys=some z):Ans P w ρ o B r k z:=by
 unfold eq3 at h;split at h
 ·rename_i i a j b q c i' a' j' b' q' c';cases hc:vQ P t (.prod (.int i) (.prod (.int j) (.int q)))&&(!P.eqGuardType P.depth t&&(Nat.beq (kind i) (kind i')&&(Nat.beq (kind j) (kind j')&&Nat.beq (kind q) (kind q'))))with
  | false=>simp[hc]at h
  | true=>
   simp only[hc,cond_true]at h;simp only[Bool.and_eq_true,Bool.not_eq_true']at hc;obtain⟨hk,hg,e1,e2,e3⟩:=hc;obtain rfl:=wP e1;obtain rfl:=wP e2;obtain rfl:=wP e3;obtain⟨vs,hvx,hvs⟩:=hx.agI;obtain⟨us,hvy,hus⟩:=hy.agI;match vs,hvs with
   | [v1,v2,v3],⟨g1,g2,g3,_⟩=>
    match us,hus with
    | [u1,u2,u3],⟨f1,f2,f3,_⟩=>
     obtain⟨rfl,_⟩:=g1.vI;obtain⟨rfl,_⟩:=g2.vI;obtain⟨rfl,_⟩:=g3.vI;obtain⟨rfl,_⟩:=f1.vI;obtain⟨rfl,_⟩:=f2.vI;obtain⟨rfl,_⟩:=f3.vI;unfold vQ at hk;simp only at hk;split at hk
     ·rename_i f0 f1 f2 hu;simp only[Bool.and_eq_true,Bool.not_eq_true']at hk;obtain⟨hs,g0,g1,g2⟩:=hk;obtain⟨u0,o0,n0⟩:=xB g0;obtain⟨u1,o1,n1⟩:=xB g1;obtain⟨u2,o2,n2⟩:=xB g2;have he:(Op.equalIn 10000 t (.agg #[.int i a,.int j b,.int q c]) (.agg #[.int i a',.int j b',.int q c'])).run P w= .ok (ieq a a'&&(ieq b b'&&ieq c c')) w:=by
       have:=qPm (P:=P) (w:=w) (d:=9998) (k1:=i) (k2:=j) (k3:=q) (a1:=a) (a2:=b) (a3:=c) (b1:=a') (b2:=b') (b3:=c') hu hs u0 u1 u2 n0 n1 n2 o0 o1 o2;rw[rU,rU,rU]at this;exact this
      generalize (ieq a a'&&(ieq b b'&&ieq c c'))=bb at he h;split at h
      ·refine zZ h ⟨_,?_,.v rfl⟩;unfold execOp;simp only[ho,hvx,hvy,binOp,Op.equal,Op.maxDepth,eqGuard,Sem.run_pure,Sem.run_bind,Result.andThen_ok];simp[hg,run_program,Sem.run_bind,Sem.run_pure];rw[he];rfl
      ·refine zZ h ⟨_,?_,.v rfl⟩;unfold execOp;simp only[ho,hvx,hvy,binOp,Op.equal,Op.maxDepth,eqGuard,Sem.run_pure,Sem.run_bind,Result.andThen_ok];simp[hg,run_program,Sem.run_bind,Sem.run_pure];rw[he];rfl
      ·cases h
     ·cases hk
 ·cases h
theorem qMq(hρ:∀x,Rep B r (ρT x) (ρ x)){op:BinOp}{t t2:TypeId}{x y:Operand}(ho:o.op= .binOp op t x y t2){z:T×Option TO}(h:zZx P op t (ρT x) (ρT y)=some z):Ans P w ρ o B r k z:=by
 have hx:=hρ x;have hy:=hρ y;unfold zZx at h;have nil:∀{a:Option Addr}{n c:Nat},a.isSome=true→ρ x= .slice a n c→ρ y= .slice none 0 0→zHa P op t=some z→Ans P w ρ o B r k z:=fun{a n c}ha hx hy hz=>by
  obtain⟨a,rfl⟩:=Option.isSome_iff_exists.1 ha;unfold zHa at hz;cases he:elT P t with
  | none=>simp[he]at hz
  | some e=>
   have ht:=vE he;simp only[he]at hz;cases op<;>simp only[Option.some.injEq]at hz<;>try cases hz
   all_goals
    refine⟨_,?_,.v rfl⟩;unfold execOp;simp only[ho,hx,hy,eqGuard,binOp,Op.equal,Op.maxDepth,qCy (d:=9999) ht,Sem.run_bind,Sem.run_pure,Result.andThen_ok];simp[Sem.run_bind,Sem.run_pure]
 split at h
 ·rename_i a b e1 e2;rw[e1]at hx;rw[e2]at hy;obtain⟨hx,_⟩:=hx.vI;obtain⟨hy,_⟩:=hy.vI;cases hb:bin op a b with
  | none=>simp[hb]at h
  | some c=>
   simp only[hb]at h;refine zZ h ?_;obtain⟨k1,a1,k2,b1,rfl,rfl⟩:∃k1 a1 k2 b1,a= .int k1 a1∧b= .int k2 b1:=by
    unfold bin at hb;split at hb
    ·exact⟨_,_,_,_,rfl,rfl⟩
    ·cases hb
   simp only[bin]at hb;cases hk:Nat.beq (kind k1) (kind k2)with
   | false=>simp[hk]at hb
   | true=>
    obtain rfl:=zWm hk;simp only[hk,cond_true]at hb;obtain⟨h1,h2⟩:=qJk (P:=P) hb t w;refine⟨c,?_,.v h2⟩;have hg:(eqGuard op t x y (.int k1 a1) (.int k1 b1)).run P w= .ok () w:=by
     unfold eqGuard;split<;>rfl
    unfold execOp;simp only[ho,hx,hy,Sem.run_bind,hg,Result.andThen_ok,h1,Sem.run_pure]
 ·rename_i e1 e2;rw[e1]at hx;rw[e2]at hy;obtain⟨b,C,hx,_⟩:=hx.osI;exact nil rfl hx hy.vI.1 h
 ·rename_i e1 e2;rw[e1]at hx;rw[e2]at hy;obtain⟨b,C,c,hx,_⟩:=hx.ogI;exact nil rfl hx hy.vI.1 h
 ·rename_i e1 e2;rw[e1]at hx;rw[e2]at hy;obtain⟨ad,c,hx,_,⟨_,h2⟩ | ⟨b,q,rfl,_⟩⟩:=hx.slI
  ·cases h2
  ·exact nil rfl hx hy.vI.1 h
 ·rename_i e1 e2;rw[e1]at hx;rw[e2]at hy;obtain⟨ad,hx,⟨_,h2⟩ | ⟨b,q,rfl,_⟩⟩:=hx.stI
  ·cases h2
  ·exact nil rfl hx hy.vI.1 h
 ·rename_i e1 e2;rw[e1]at hx;rw[e2]at hy;exact qTg ho hx hy h
 ·cases h
theorem Rep.bool{b:Bool}{v:Value}(h:Rep B r (.v (.bool b)) v):v= .bool b:=h.vI.1
theorem zVz{x:Operand}(ho:o.op= .move x∨o.op= .assign x)(w:World):(execOp ρ o).run P w= .ok (.value (ρ x)) w:=by
 unfold execOp;rcases ho with ho | ho<;>simp only[ho]<;>rfl
theorem qGz(hρ:∀x,Rep B r (ρT x) (ρ x)){c a b:Operand}(ho:o.op= .pick c a b){z:T×Option TO}(h:zKx (ρT c) (ρT a) (ρT b)=some z):Ans P w ρ o B r k z:=by
 have hc:=hρ c;unfold zKx at h;split at h
 ·rename_i q e;rw[e]at hc;refine zZ h ?_;refine⟨bif q then ρ a else ρ b,?_,?_⟩
  ·unfold execOp;simp only[ho,hc.bool,asBool,Sem.run_bind,Sem.run_pure,Result.andThen_ok];cases q<;>rfl
  ·cases q
   ·exact hρ b
   ·exact hρ a
 ·cases h
theorem mI{e:TypeId}{cs:List T}(h:zer P e=some cs):∃i z,P.info? e=some i∧i.zero=some z∧cs=z.cells.toList.map ofV:=by
 unfold zer at h;cases hi:P.info? e with
 | none=>simp[hi]at h
 | some i=>
  simp only[hi]at h;cases hz:i.zero with
  | none=>simp[hz]at h
  | some z=>simp only[hz,Option.some.injEq]at h;exact⟨i,z,rfl,hz,h.symm⟩
theorem nU{e:TypeId}{i:TypeInfo}{z:Value}(hi:P.info? e=some i)(hz:i.zero=some z)(w:World):(zeroValue e).run P w= .ok z w:=by
 simp[zeroValue,typeInfo,hi,hz,Sem.run_bind,Sem.run_pure]
theorem zZw{e:TypeId}(ho:o.op= .alloc e){z:T×Option TO}(h:zUh P k e=some z):Ans P w ρ o B r k z:=by
 unfold zUh at h;cases hz:zer P e with
 | none=>simp[hz]at h
 | some cs=>
  simp only[hz,Option.some.injEq]at h;subst h;obtain⟨i,v,h1,h2,rfl⟩:=mI hz;refine⟨0,.cells v.cells e (0,0),fun n=> .pointer (some ⟨n,0,none⟩),fun w'=>?_,rfl,.row (nR _),fun b=> .op (qE _ _ _)⟩;unfold execOp;simp only[ho,Instr.alloc,Sem.run_bind,nU h1 h2,Result.andThen_ok,Sem.run_pure,newVar,newRow];rfl
theorem qDy{t:T}(h:isU t=false):t≠.u:=fun e=>by subst e;cases h
theorem qMr(hρ:∀x,Rep B r (ρT x) (ρ x)){e:TypeId}{x:Operand}(ho:o.op= .box e x){z:T×Option TO}(h:qVt k e (ρT x)=some z):Ans P w ρ o B r k z:=by
 unfold qVt at h;cases hu:isU (ρT x)with
 | true=>simp[hu]at h
 | false=>
  simp only[hu,cond_false,Option.some.injEq]at h;subst h;refine⟨0,.cells (ρ x).cells e (0,0),fun n=> .pointer (some ⟨n,0,none⟩),fun w'=>?_,rfl,.row ((hρ x).cells (qDy hu)),fun b=> .op (qE _ _ _)⟩;unfold execOp;simp only[ho,Instr.box,newVar,newRow,Sem.run_bind,Sem.run_pure];rfl
theorem qMw(hρ:∀x,Rep B r (ρT x) (ρ x)){x:Operand}(ho:o.op= .nilCheck x){z:T×Option TO}(h:qMv (ρT x)=some z):Ans P w ρ o B r k z:=by
 have hx:=hρ x;unfold qMv at h;split at h
 ·rename_i e;rw[e]at hx;obtain⟨b,C,hv,_⟩:=hx.opI;refine zZ h ⟨ρ x,?_,hx⟩;unfold execOp;simp only[ho,hv,Sem.run_pure]
 ·rename_i e;rw[e]at hx;obtain⟨b,o',hv,_⟩:=hx.fpI;refine zZ h ⟨ρ x,?_,hx⟩;unfold execOp;simp only[ho,hv,Sem.run_pure]
 ·rename_i e;rw[e]at hx;obtain⟨vs,hv,_⟩:=hx.fnI;refine zZ h ⟨ρ x,?_,hx⟩;unfold execOp;simp only[ho,hv,Sem.run_pure]
 ·rename_i e;rw[e]at hx;obtain⟨b,C,hv,_⟩:=hx.ylI;refine zZ h ⟨ρ x,?_,hx⟩;unfold execOp;simp only[ho,hv,Sem.run_pure]
 ·cases h
theorem zFl{g:Bool}{n:Nat}{us:List T}{vs:List Value}(hl:vs.length=n)(hg:(g||Nat.beq n 1)=true)(h:zN B r us vs):Rep B r (mkT g us) (ldV g vs)∧(g=true∨vs.length=1):=by
 cases g with
 | true=>exact⟨Rep.mkAg h,.inl rfl⟩
 | false=>
  have h1:vs.length=1:=by rw[hl];exact Nat.eq_of_beq_eq_true (by simpa using hg)
  obtain⟨v,rfl⟩:=List.length_eq_one_iff.1 h1;match us,h with
  | [t],h=>exact⟨h.1,.inr rfl⟩
structure zIq(B:Bm)(r:Rd)(w:World)(H:List TO):Prop where
 ptr:∀(t:T)(v:Value)(n:Nat)(cs us:List T),Rep B r t v→bV H t=some cs→jD n cs=some us→∃b o vs,v= .pointer (some ⟨b,o,none⟩)∧vs.length=n∧zN B r us vs∧qH w ⟨b,o,none⟩ vs
 map:∀(i b C:Nat)(l:List (Value×T)),B i=some (b,C)→nth .gone H i= .map l→∃es clk,w.heap[b]?=some (.map es clk)∧kX B r l es.toList
 mapd:∀(i b C:Nat)(d:MD),B i=some (b,C)→nth .gone H i= .mapd d→∃es clk,w.heap[b]?=some (.map es clk)∧kX B r d.ents es.toList
theorem Wd.hp(hW:Wd P E w0 X F H B w Y Mo):zIq B (rd w Y) w H:=⟨fun _ _ _ _ _ h1 h2 h3=>hW.from h1 h2 h3,fun i b C l hB hn=>by
 rw[qP,List.getD_eq_getElem?_getD]at hn;cases hi:H[i]? with
 | none=>rw[hi]at hn;cases hn
 | some x=>
  rw[hi]at hn;simp only[Option.getD_some]at hn;subst hn;obtain⟨b',C',ob,g1,g2,g3⟩:=hW.ob i _ hi rfl;rw[hB]at g1;cases g1;cases g3 with
  | @map _ es clk h _ _=>exact⟨es,clk,hW.heap g2,h⟩,fun i b C d hB hn=>by
 rw[qP,List.getD_eq_getElem?_getD]at hn;cases hi:H[i]? with
 | none=>rw[hi]at hn;cases hn
 | some x=>
  rw[hi]at hn;simp only[Option.getD_some]at hn;subst hn;obtain⟨b',C',ob,g1,g2,g3⟩:=hW.ob i _ hi rfl;rw[hB]at g1;cases g1;cases g3 with
  | @mapd _ es clk h _ _=>exact⟨es,clk,hW.heap g2,h⟩⟩
theorem zQw(hH:zIq B r w H)(hρ:∀x,Rep B r (ρT x) (ρ x)){t:TypeId}{x:Operand}(ho:o.op= .load t x){z:T×Option TO}(h:zBs P H t (ρT x)=some z):Ans P w ρ o B r k z:=by
 unfold zBs at h;cases hl:ldT P t with
 | none=>simp[hl]at h
 | some gs=>
  obtain⟨g,s⟩:=gs;cases hf:bV H (ρT x)with
  | none=>simp[hl,hf]at h
  | some cs=>
   cases ht:jD s cs with
   | none=>simp[hl,hf,ht]at h
   | some us=>
    simp only[hl,hf,ht]at h;cases hg:(g||Nat.beq s 1)with
    | false=>simp[hg]at h
    | true=>
     simp only[hg,cond_true]at h;obtain⟨b,off,vs,hv,h1,h2,h3⟩:=hH.ptr _ _ _ _ _ (hρ x) hf ht;obtain⟨h4,h5⟩:=zFl h1 hg h2;exact zZ h ⟨_,zB ho hv (by rw[h1];exact hl) h5 h3,h4⟩
theorem zN.map(hρ:∀x,Rep B r (ρT x) (ρ x)):∀l:List Operand,zN B r (l.map ρT) (l.map ρ)
 | []=>trivial
 | x::l=>⟨hρ x,zN.map hρ l⟩
theorem zQc(hρ:∀x,Rep B r (ρT x) (ρ x)){f:FuncId}{caps:Array Operand}(ho:o.op= .makeFunc (.func f) #[] caps):Ans P w ρ o B r k (.fn f (caps.toList.map ρT),none):=by
 refine⟨.func (.func f) #[] (caps.map ρ),?_,?_⟩
 ·unfold execOp;simp[ho,Instr.makeFunc,Sem.run_bind,Sem.run_pure,Result.andThen_ok]
 ·have:=Rep.mkFn (k:=f) (zN.map hρ caps.toList);cases caps;simpa using this
theorem zMp(hρ:∀x,Rep B r (ρT x) (ρ x)){f:FuncId}{first:Array Operand}(ho:o.op= .makeFunc (.func f) first #[]):Ans P w ρ o B r k (.fb f (first.toList.map ρT),none):=by
 refine⟨.func (.func f) (first.map ρ) #[],?_,?_⟩
 ·unfold execOp;simp[ho,Instr.makeFunc,Sem.run_bind,Sem.run_pure,Result.andThen_ok]
 ·have:=Rep.mkFb (k:=f) (zN.map hρ first.toList)
  cases first
  simpa using this
theorem zQu(hρ:∀x,Rep B r (ρT x) (ρ x)){x:Operand}{i:Nat}(ho:o.op= .extract x i){z:T×Option TO}(h:zBr (ρT x) i=some z):Ans P w ρ o B r k z:=by
 have hx:=hρ x;unfold zBr at h;split at h
 ·rename_i ts e;rw[e]at hx;obtain⟨vs,hv,hR⟩:=hx.tuI;split at h
  ·rename_i t hi;obtain⟨v,h1,h2⟩:=hR.get hi;refine zZ h ⟨v,?_,h2⟩;unfold execOp;simp only[ho,hv,Instr.extract,List.getElem?_toArray,h1,Sem.run_bind,Sem.run_pure,Result.andThen_ok]
  ·cases h
 ·cases h
theorem zZj{t:T}{n:Nat}{v:Value}(h:qZ t=some n)(hR:Rep B r t v):∃ad c,v= .slice ad n c:=by
 cases t with
 | v x=>
  obtain⟨rfl,_⟩:=hR.vI;unfold qZ at h;split at h<;>(try (rename_i e;cases e;done))<;>(try cases h)
  rename_i e;cases e;exact⟨_,_,rfl⟩
 | sl cs m=>simp only[qZ,Option.some.injEq]at h;subst h;obtain⟨ad,c,hv,_⟩:=hR.slI;exact⟨ad,c,hv⟩
 | sn cs m=>simp only[qZ,Option.some.injEq]at h;subst h;obtain⟨ad,c,hv,_⟩:=(show Rep B r (.sl cs m) v from hR.dn).slI;exact⟨ad,c,hv⟩
 | st cs m=>simp only[qZ,Option.some.injEq]at h;subst h;obtain⟨ad,hv,_⟩:=hR.stI;exact⟨ad,_,hv⟩
 | os i o m c=>simp only[qZ,Option.some.injEq]at h;subst h;obtain⟨b,C,hv,_⟩:=hR.osI;exact⟨_,_,hv⟩
 | og i o m=>simp only[qZ,Option.some.injEq]at h;subst h;obtain⟨b,C,c,hv,_⟩:=hR.ogI;exact⟨_,_,hv⟩
 | ls g A l=>simp only[qZ,Option.some.injEq]at h;subst h;obtain⟨ad,c,hv,_⟩:=hR.lsI;exact⟨_,_,hv⟩
 | hv A l=>simp only[qZ,Option.some.injEq]at h;subst h;obtain⟨ad,c,hv,_⟩:=hR.hvI;exact⟨_,_,hv⟩
 | _=>cases h
theorem qMu(hρ:∀x,Rep B r (ρT x) (ρ x)){c:Call}{x:Operand}(ho:o.op= .call c)(hc:c.callee= .builtin .len)(hx:c.args.toList=[x])(ht:∀n ad cp,ρ x= .slice ad n cp→∃t e,c.argTypes[0]?=some t∧P.underlying t=some (.slice e)){z:T×Option TO}(h:qVu (ρT x)=some z):Ans P w ρ o B r k z:=by
 unfold qVu at h;cases hn:qZ (ρT x)with
 | none=>simp[hn]at h
 | some n=>
  simp only[hn]at h;obtain⟨ad,cp,hv⟩:=zZj hn (hρ x);obtain⟨t,e,h1,h2⟩:=ht _ _ _ hv;refine zZ h ⟨.int .i64 (n:Int),?_,.v rfl⟩;have ha:c.args=#[x]:=Array.ext' (by simpa using hx)
  unfold execOp;simp only[ho,resolve,hc,Sem.run_bind,Sem.run_pure,Result.andThen_ok,invoke,builtin,Builtin.len_,ha,List.map_toArray,List.map_cons,List.map_nil,h1,hv];simp[underlying,h2,run_program,Sem.run_bind,Sem.run_pure,goInt]
theorem vY{t:T}{n:Nat}{v:Value}(h:sN t=some n)(hR:Rep B r t v):∃kd,v= .int kd (n:Int):=by
 unfold sN at h;split at h
 ·cases h;exact⟨_,hR.vI.1⟩
 ·cases h
def Bd(ρ:Operand→Value)(d l:Nat):Option Operand→Prop
 | none=>l=d
 | some a=>∃kd,ρ a= .int kd (l:Int)
theorem zXm{t e:TypeId}{x:Operand}{lo hi mx:Option Operand}{ad:Option Addr}{len cap g l h m:Nat}{q:Bool}(ho:o.op= .slice t x lo hi mx)(ht:P.underlying t=some (.slice e))(he:ldT P e=some (q,g))(hx:ρ x= .slice ad len cap)
  (hlo:Bd ρ 0 l lo) (hhi:Bd ρ len h hi) (hmx:Bd ρ cap m mx) (hm:hi=none→mx=none)
  (h1:l≤h) (h2:h≤m∨hi=none) (h3:m≤cap) (w:World):(execOp ρ o).run P w= .ok (.value (.slice (if m=l then ad else ad.map (·.add (l*g))) (h-l) (m-l))) w:=by
 unfold execOp;have c1:(l:Int)≤(h:Int):=by omega
 have c3:(m:Int)≤(cap:Int):=by omega
 have z1:(0:Int)≤(l:Int):=by omega
 have z2:(0:Int)≤(h:Int):=by omega
 have z3:(0:Int)≤(m:Int):=by omega
 have c2:∀a,hi=some a→(h:Int)≤(m:Int):=fun a e=>by
  rcases h2 with h2 | h2
  ·omega
  ·rw[e]at h2;cases h2
 cases lo<;>cases hi<;>cases mx<;>simp only[Bd]at hlo hhi hmx;all_goals try (obtain⟨_,hlo⟩:=hlo)
 all_goals try (obtain⟨_,hmx⟩:=hmx)
 all_goals try (cases hm rfl;done)
 all_goals try (obtain⟨_,hhi⟩:=hhi)
 all_goals try subst hlo
 all_goals try subst hmx
 all_goals try subst hhi
 all_goals try (have c2:=c2 _ rfl)
 all_goals simp[ho,hx,Instr.sliceAt,Instr.slice,Instr.sliceBounds,Instr.sliceBound,asIntOf,underlying,ht,Sem.run_bind,Sem.run_pure,run_program,Result.andThen_ok,Gv.run_sizeOf he, *]
 all_goals (intro hh;exfalso;omega)
end
section
variable {P:Program}{B:Bm}{r:Rd}{w:World}
theorem fG:∀(n:Nat)(l u:List T),nY n l=some u→n≤l.length∧u=l.take n
 | 0,_,_,h=>by simp[nY]at h;subst h;simp
 | _+1,[],_,h=>by simp[nY]at h
 | n+1,x::l,u,h=>by
  simp only[nY]at h;cases he:nY n l with
  | none=>simp[he]at h
  | some y=>
   simp only[he,Option.some.injEq]at h;obtain⟨h1,h2⟩:=fG n l y he;subst h;subst h2;exact⟨by simpa using h1,by simp⟩
theorem zAx:∀(l:List T)(n:Nat),bS l n=l.drop n
 | [],_=>by simp[bS]
 | _::_,0=>rfl
 | _::l,n+1=>by simp[bS,zAx l n]
theorem lW{A C:Ty}{l:List A.den}{m:List C.den}(h:wN A C l=some m):A=C∧HEq l m:=by
 unfold wN at h;split at h
 ·rename_i hb;have e:=Ty.beq_eq hb;subst e;cases h;exact⟨rfl,HEq.rfl⟩
 ·cases h
theorem lV{g:Tg}:∀(A:Ty){ts:List T}{x:A.den}{vs:List Value},nG g A ts=some x→zN B r ts vs→zN B r (cellsD g A x) vs∧ts.length=A.size:=by
 intro A;induction A with
 | lim=>
  intro ts x vs h hR;replace h:qBv ts=some x:=h;unfold qBv at h;split at h
  ·rename_i k a;cases hk:Nat.beq (kind k) 6 with
   | false=>simp[hk]at h
   | true=>
    simp only[hk,cond_true,Option.some.injEq]at h;subst h;obtain rfl:k= .u32:=wP (k:= .u32) hk;exact⟨hR,rfl⟩
  ·cases h
 | int k=>
  intro ts x vs h hR;replace h:qBu k ts=some x:=h;unfold qBu at h;split at h
  ·rename_i k' a;cases hk:Nat.beq (kind k) (kind k')with
   | false=>simp[hk]at h
   | true=>
    simp only[hk,cond_true,Option.some.injEq]at h;subst h;obtain rfl:=wP hk;exact⟨hR,rfl⟩
  ·cases h
 | bool=>
  intro ts x vs h hR;replace h:qBt ts=some x:=h;unfold qBt at h;split at h
  ·cases h;exact⟨hR,rfl⟩
  ·cases h
 | str=>
  intro ts x vs h hR;replace h:qBx ts=some x:=h;unfold qBx at h;split at h
  ·cases h;exact⟨hR,rfl⟩
  ·cases h
 | list A ih=>
  intro ts x vs h hR;replace h:qBw g A ts=some x:=h;unfold qBw at h;split at h
  ·cases h;match vs,hR with
   | [v],hR=>
    obtain⟨rfl,_⟩:=hR.1.vI;exact⟨⟨.ls ⟨none,0,rfl,Nat.le_refl _,Nat.zero_le _,.inl rfl⟩,trivial⟩,rfl⟩
  ·rename_i g' A' l;cases hg:g.le g' with
   | false=>simp[hg]at h
   | true=>
    simp only[hg,cond_true]at h;obtain⟨rfl,he⟩:=lW h;obtain rfl:=eq_of_heq he;match vs,hR with
    | [v],hR=>
     refine⟨⟨?_,trivial⟩,rfl⟩;have h1:=hR.1;cases h1 with
     | ls h1=>exact .ls (qA.mono (Le.refl _) (fun b h=>h.le hg) _ _ _ h1)
  ·cases h
 | prod A C ih1 ih2=>
  intro ts x vs h hR;simp only[nG]at h;cases ht:nY A.size ts with
  | none=>simp[ht]at h
  | some u=>
   simp only[ht]at h;obtain⟨hle,rfl⟩:=fG _ _ _ ht;rw[zAx]at h;cases h1:nG g A (ts.take A.size)with
   | none=>simp[h1]at h
   | some a=>
    cases h2:nG g C (ts.drop A.size)with
    | none=>simp[h1,h2]at h
    | some c=>
     simp only[h1,h2,Option.some.injEq]at h;subst h;have hs:=zN.split (ts:=ts.take A.size) (us:=ts.drop A.size) (by rw[List.take_append_drop];exact hR)
     obtain⟨k1,k2⟩:=ih1 h1 hs.1;obtain⟨k3,k4⟩:=ih2 h2 hs.2;refine⟨?_,?_⟩
     ·have:=k1.app k3;rwa[List.take_append_drop]at this
     ·show _=A.size+C.size;rw[←List.take_append_drop A.size ts,List.length_append,k2,k4]
theorem zAr{g:Tg}{A:Ty}{t:T}{x:A.den}{v:Value}(h:zJm g A t=some x)(hR:Rep B r t v):Rep B r (unT g A x) v:=by
 have hl:=jB g A x;unfold zJm at h;split at h
 ·rename_i cs;cases hb:Nat.blt 1 A.size with
  | false=>simp[hb]at h
  | true=>
   simp only[hb,cond_true]at h;obtain⟨vs,rfl,hvs⟩:=hR.agI;have k:=(lV A h hvs).1;have hb:1<A.size:=by simpa using hb
   unfold unT;split
   ·rename_i t ht;rw[ht]at hl;simp at hl;omega
   ·exact Rep.mkAg k
 ·cases hb:Nat.beq A.size 1 with
  | false=>simp[hb]at h
  | true=>
   simp only[hb,cond_true]at h;have k:=(lV A h (vs:=[v]) ⟨hR,trivial⟩).1;rw[Nat.eq_of_beq_eq_true hb]at hl;obtain⟨t',ht⟩:=List.length_eq_one_iff.1 hl;unfold unT;rw[ht]at k ⊢;exact k.1
theorem zWk{kt:TypeId}{K:Ty}{k:K.den}{v:Value}(hk:vQ P kt K=true)(hR:Rep B r (unT .a K k) v):v=xJ K k:=by
 unfold vQ at hk;split at hk
 ·exact hR.vI.1
 ·exact hR.vI.1
 ·rename_i i j l;obtain⟨a,b,c⟩:=k;obtain⟨vs,rfl,hvs⟩:=Rep.agI (cs:=[.v (.int i a),.v (.int j b),.v (.int l c)]) hR;match vs,hvs with
  | [v1,v2,v3],⟨g1,g2,g3,_⟩=>
   obtain⟨rfl,_⟩:=g1.vI;obtain⟨rfl,_⟩:=g2.vI;obtain⟨rfl,_⟩:=g3.vI;rfl
 ·cases hk
theorem qUe{kt:TypeId}{K:Ty}{a b:K.den}(hk:vQ P kt K=true)(h:keq K a b=true):a=b:=by
 have hi:∀{x y:Int},ieq x y=true→x=y:=fun h=>by rw[←rU]at h;exact eq_of_beq h
 unfold vQ at hk;split at hk
 ·exact hi h
 ·exact of_decide_eq_true (p:=(a:ByteArray)=b) h
 ·obtain⟨a1,a2,a3⟩:=a;obtain⟨b1,b2,b3⟩:=b;have h:(ieq a1 b1&&(ieq a2 b2&&ieq a3 b3))=true:=h;simp only[Bool.and_eq_true]at h;rw[hi h.1,hi h.2.1,hi h.2.2]
 ·cases hk
theorem zXs(a b:ByteArray):(a==b)=decide (a=b):=by
 obtain⟨x⟩:=a;obtain⟨y⟩:=b;show(x==y)=_;by_cases h:x=y
 ·subst h;simp
 ·simp[h]
def Fnd{α:Type}(K:Ty)(R:α→Value→Prop)(k:K.den)(l:List (K.den×α))(es:List MapEntry)(i:Nat)(q:Option (Nat×Value)):Prop:=
 (q=none∧zTh K k l=false∧(∀z,jY K z k l=z)∧∀y,bI K k y l=l++[(k,y)])∨
 ∃j e f,q=some (i+j,f.val)∧l[j]?=some e∧es[j]?=some f∧f.key=xJ K e.1∧keq K k e.1=true∧R e.2 f.val∧zTh K k l=true∧(∀z,jY K z k l=e.2)∧∀y,bI K k y l=l.set j (k,y)
theorem Fnd.nil{α:Type}{K:Ty}{R:α→Value→Prop}{k:K.den}{es:List MapEntry}{i:Nat}:Fnd K R k [] es i none:= .inl ⟨rfl,rfl,fun _=>rfl,fun _=>rfl⟩
theorem Fnd.hit{α:Type}{K:Ty}{R:α→Value→Prop}{k:K.den}{e:K.den×α}{l:List (K.den×α)}{f:MapEntry}{es:List MapEntry}{i:Nat}(h:keq K k e.1=true)(hf:f.key=xJ K e.1)(hR:R e.2 f.val):Fnd K R k (e::l) (f::es) i (some (i,f.val)):=
 .inr ⟨0,e,f,rfl,rfl,rfl,hf,h,hR,by simp[zTh,h],fun z=>by simp[jY,h],fun y=>by simp[bI,h]⟩
theorem Fnd.skip{α:Type}{K:Ty}{R:α→Value→Prop}{k:K.den}{e:K.den×α}{l:List (K.den×α)}{f:MapEntry}{es:List MapEntry}{i:Nat}{q:Option (Nat×Value)}(h:keq K k e.1=false)(hq:Fnd K R k l es (i+1) q):Fnd K R k (e::l) (f::es) i q:=by
 rcases hq with⟨h1,h2,h3,h4⟩ | ⟨j,e',f',h1,h2,h3,h4,h5,h6,h7,h8,h9⟩
 ·exact .inl ⟨h1,by simp[zTh,h,h2],fun z=>by simp[jY,h,h3],fun y=>by simp[bI,h,h4]⟩
 ·exact .inr ⟨j+1,e',f',by rw[h1];congr 2;omega,by simpa using h2,by simpa using h3,h4,h5,h6,by simp[zTh,h7],fun z=>by simp[jY,h,h8],fun y=>by simp[bI,h,h9]⟩
def qAq{α:Type}(K:Ty)(R:α→Value→Prop):List (K.den×α)→List MapEntry→Prop
 | [],[]=>True
 | e::l,f::es=>f.key=xJ K e.1∧R e.2 f.val∧qAq K R l es
 | _,_=>False
theorem zMt{α:Type}{K:Ty}{R:α→Value→Prop}{k:K.den}{d:TypeDesc}(hs:∀b:K.den,Instr.sameNow d (xJ K k) (xJ K b)=some (keq K k b)):∀(l:List (K.den×α))(es:List MapEntry)(i:Nat),qAq K R l es→∃q,Instr.findNow d (xJ K k) es i=some q∧Fnd K R k l es i q
 | [],[],i,_=>⟨none,rfl,.nil⟩
 | e::l,f::es,i,h=>by
  unfold Instr.findNow;rw[h.1,hs e.1];cases hq:keq K k e.1 with
  | true=>exact⟨_,rfl,.hit hq h.1 h.2.1⟩
  | false=>
   obtain⟨q,h1,h2⟩:=zMt hs l es (i+1) h.2.2;exact⟨q,h1,.skip hq h2⟩
 | [],_::_,_,h=>h.elim
 | _::_,[],_,h=>h.elim
theorem zVo{α:Type}{K:Ty}{R:α→Value→Prop}{k:K.den}{t:TypeId}(hs:∀b:K.den,(Op.equal t (xJ K k) (xJ K b)).run P w= .ok (keq K k b) w):∀(l:List (K.den×α))(es:List MapEntry)(i:Nat),qAq K R l es→∃q,(Instr.findAsking t (xJ K k) es i).run P w= .ok q w∧Fnd K R k l es i q
 | [],[],i,_=>⟨none,rfl,.nil⟩
 | e::l,f::es,i,h=>by
  unfold Instr.findAsking;rw[h.1];simp only[Sem.run_bind,hs e.1,Result.andThen_ok];cases hq:keq K k e.1 with
  | true=>exact⟨_,by simp[Sem.run_pure],.hit hq h.1 h.2.1⟩
  | false=>
   obtain⟨q,h1,h2⟩:=zVo hs l es (i+1) h.2.2;exact⟨q,by simpa using h1,.skip hq h2⟩
 | [],_::_,_,h=>h.elim
 | _::_,[],_,h=>h.elim
theorem zPi{α:Type}{K:Ty}{R:α→Value→Prop}{kt:TypeId}(hk:vQ P kt K=true)(k:K.den)(l:List (K.den×α))(es:List MapEntry)(h:qAq K R l es):∃q,(Instr.findKey kt (xJ K k) es).run P w= .ok q w∧Fnd K R k l es 0 q:=by
 unfold vQ at hk;split at hk
 ·rename_i i;split at hk
  ·rename_i j hu;obtain rfl:=wP hk;obtain⟨q,h1,h2⟩:=zMt (d:= .int i) (k:=k) (R:=R) (fun b=>by
    show(if i=i then some ((k:Int)==(b:Int))else none)=some (ieq k b)
    rw[if_pos rfl,rU]) l es 0 h
   refine⟨q,?_,h2⟩;unfold Instr.findKey;simp only[underlying,hu,Sem.run_bind,Sem.run_pure,run_program,Result.andThen_ok,h1]
  ·cases hk
 ·split at hk
  ·rename_i hu;obtain⟨q,h1,h2⟩:=zMt (d:= .string) (k:=k) (R:=R) (fun b=>by
    show some ((k:ByteArray)==(b:ByteArray))=some (decide ((k:ByteArray)=b));rw[zXs]) l es 0 h
   refine⟨q,?_,h2⟩;unfold Instr.findKey;simp only[underlying,hu,Sem.run_bind,Sem.run_pure,run_program,Result.andThen_ok,h1]
  ·cases hk
 ·rename_i i j n;split at hk
  ·rename_i f0 f1 f2 hu;simp only[Bool.and_eq_true,Bool.not_eq_true']at hk;obtain⟨hs,g0,g1,g2⟩:=hk;obtain⟨u0,o0,n0⟩:=xB g0;obtain⟨u1,o1,n1⟩:=xB g1;obtain⟨u2,o2,n2⟩:=xB g2;have hq:∀b:(Ty.prod (.int i) (.prod (.int j) (.int n))).den,(Op.equal kt (xJ (.prod (.int i) (.prod (.int j) (.int n))) k) (xJ (.prod (.int i) (.prod (.int j) (.int n))) b)).run P w= .ok (keq (.prod (.int i) (.prod (.int j) (.int n))) k b) w:=fun b=>by
    obtain⟨a1,a2,a3⟩:=k;obtain⟨b1,b2,b3⟩:=b;have:=qPm (P:=P) (w:=w) (d:=9998) (k1:=i) (k2:=j) (k3:=n) (a1:=a1) (a2:=a2) (a3:=a3) (b1:=b1) (b2:=b2) (b3:=b3) hu hs u0 u1 u2 n0 n1 n2 o0 o1 o2;rw[rU,rU,rU]at this;exact this
   obtain⟨q,h1,h2⟩:=zVo (k:=k) (R:=R) hq l es 0 h;unfold Instr.findKey;simp only[underlying,hu,Sem.run_bind,Sem.run_pure,run_program,Result.andThen_ok];match l,es,h with
   | [],[],h=>exact⟨none,rfl,.nil⟩
   | e::l,f::es,h=>
    refine⟨q,?_,h2⟩;have:Instr.findNow (.struct ⟨[f0,f1,f2]⟩) (xJ (.prod (.int i) (.prod (.int j) (.int n))) k) (f::es) 0=none:=rfl;rw[this];exact h1
  ·cases hk
 ·cases hk
theorem dQ{K:Ty}{kt:TypeId}(hk:vQ P kt K=true)(k:K.den)(e:Bool):(Instr.checkKey e 10000 kt (xJ K k)).run P w= .ok () w:=by
 unfold vQ at hk;split at hk
 ·split at hk
  ·rename_i j hu;show(Instr.checkKey e (9999+1) kt _).run P w=_;unfold Instr.checkKey;simp only[underlying,hu,Sem.run_bind,Sem.run_pure,run_program,Result.andThen_ok]
  ·cases hk
 ·split at hk
  ·rename_i hu;show(Instr.checkKey e (9999+1) kt _).run P w=_;unfold Instr.checkKey;simp only[underlying,hu,Sem.run_bind,Sem.run_pure,run_program,Result.andThen_ok]
  ·cases hk
 ·rename_i i j n;split at hk
  ·rename_i f0 f1 f2 hu;simp only[Bool.and_eq_true,Bool.not_eq_true']at hk;obtain⟨hs,g0,g1,g2⟩:=hk;obtain⟨u0,o0,n0⟩:=xB g0;obtain⟨u1,o1,n1⟩:=xB g1;obtain⟨u2,o2,n2⟩:=xB g2;obtain⟨a1,a2,a3⟩:=k;have one:∀{f:Field}{q q':IntKind}{a:Int},P.underlying f.type=some (.int q)→(Instr.checkKey e 9999 f.type (.int q' a)).run P w= .ok () w:=fun{f q q' a}hu=>by
    show(Instr.checkKey e (9998+1) f.type _).run P w=_;unfold Instr.checkKey;simp only[underlying,hu,Sem.run_bind,Sem.run_pure,run_program,Result.andThen_ok]
   show(Instr.checkKey e (9999+1) kt (.agg #[.int i a1,.int j a2,.int n a3])).run P w=_;unfold Instr.checkKey;simp only[underlying,hu,Sem.run_bind,Sem.run_pure,run_program,Result.andThen_ok];simp[n0,n1,n2,o0,o1,o2];simp only[zBu (cs:=#[Value.int i a1,.int j a2,.int n a3]) (i:=0) u0 rfl,zBu (cs:=#[Value.int i a1,.int j a2,.int n a3]) (i:=1) u1 rfl,zBu (cs:=#[Value.int i a1,.int j a2,.int n a3]) (i:=2) u2 rfl,Result.andThen_ok];simp only[List.getElem_toArray,List.getElem_cons_succ,List.getElem_cons_zero,one u0,one u1,one u2,Result.andThen_ok]
  ·cases hk
 ·cases hk
theorem qEc{K:Ty}{kt:TypeId}(hk:vQ P kt K=true)(k:K.den):Instr.sameBits 10000 (xJ K k) (xJ K k)=true:=by
 unfold vQ at hk;split at hk
 ·simp[xJ,Instr.sameBits]
 ·simp[xJ,Instr.sameBits,zXs]
 ·obtain⟨a,b,c⟩:=k;show Instr.sameBits (9999+1) _ _=true;simp[xJ,zLs,Instr.sameBits]
 ·cases hk
end
section
variable {P:Program}{E:Nat→Prop}{w0:World}{X:Hid}{F:List Nat}{H:List TO}{B:Bm}{w:World}{Y:Hid}{Mo:List (Nat×Obj)}{ρ:Operand→Value}{ρT:Operand→T}{o:Oper}{r:Rd}{k:Nat}
theorem nM{t k v:TypeId}(h:mapT P t=some (k,v)):P.underlying t=some (.map k v):=by
 unfold mapT at h;split at h
 ·rename_i hx;cases h;exact hx
 ·cases h
theorem zVx(hH:zIq B r w H){m:T}{v:Value}{l:List (Value×T)}(h:zJr H m=some l)(hR:Rep B r m v):(v= .map none∧l=[])∨∃b es clk,v= .map (some b)∧w.heap[b]?=some (.map es clk)∧kX B r l es.toList:=by
 unfold zJr at h;split at h
 ·cases h;exact .inl ⟨hR.vI.1,rfl⟩
 ·rename_i i;split at h
  ·rename_i l' hn;cases h;cases hR with
   | @om _ b C hB=>
    obtain⟨es,clk,h1,h2⟩:=hH.map _ _ _ _ hB hn;exact .inr ⟨b,es,clk,rfl,h1,h2⟩
  ·cases h
 ·cases h
theorem zCu{d:MD}:∀{l:List (d.K.den×d.V.den)}{es:List MapEntry},kX B r (l.map fun e=>(xJ d.K e.1,unT d.g d.V e.2)) es→qAq d.K (fun x v=>Rep B r (unT d.g d.V x) v) l es
 | [],[],_=>trivial
 | _::_,_::_,h=>⟨h.1,h.2.1,zCu h.2.2⟩
 | [],_::_,h=>h.elim
 | _::_,[],h=>h.elim
theorem qCj(hH:zIq B r w H){m:T}{v:Value}{d:MD}(h:dOf H m=some d)(hR:Rep B r m v):∃b es clk,v= .map (some b)∧w.heap[b]?=some (.map es clk)∧kX B r d.ents es.toList:=by
 unfold dOf at h;split at h
 ·rename_i i;split at h
  ·rename_i d' hn;cases h;cases hR with
   | @om _ b C hB=>
    obtain⟨es,clk,h1,h2⟩:=hH.mapd _ _ _ _ hB hn;exact⟨b,es,clk,rfl,h1,h2⟩
  ·cases h
 ·cases h
theorem yL{b:Nat}{es:Array MapEntry}{clk:Nat}(h:w.heap[b]?=some (.map es clk)):(getObj b).run P w= .ok (.map es clk) w:=by
 simp[getObj,Sem.run,h]
theorem qGv(hH:zIq B r w H)(hρ:∀x,Rep B r (ρT x) (ρ x)){c:Call}{x:Operand}{t:TypeId}{kv:TypeId×TypeId}(ho:o.op= .call c)(hc:c.callee= .builtin .len)(hx:c.args.toList=[x])(hts:c.argTypes.toList=[t])(ht:mapT P t=some kv){z:T×Option TO}(h:qGu H (ρT x)=some z):Ans P w ρ o B r k z:=by
 obtain⟨kt,vt⟩:=kv;have hu:=nM ht;unfold qGu at h;cases hd:dOf H (ρT x)with
 | some d=>
  simp only[hd]at h;have ha:c.args=#[x]:=Array.ext' (by simpa using hx)
  have hb:c.argTypes=#[t]:=Array.ext' (by simpa using hts)
  obtain⟨b,es,clk,hv,hg,hm⟩:=qCj hH hd (hρ x);refine zZ h ⟨.int .i64 (d.l.length:Int),?_,.v rfl⟩;unfold execOp;simp only[ho,resolve,hc,Sem.run_bind,Sem.run_pure,Result.andThen_ok,invoke,builtin,Builtin.len_,ha,hb,List.map_toArray,List.map_cons,List.map_nil,hv];have:=hm.length;have e:d.ents.length=d.l.length:=by simp[MD.ents]
  rw[e]at this;simp[underlying,hu,run_program,Sem.run_bind,Sem.run_pure,goInt,yL hg,this]
 | none=>
 simp only[hd]at h;cases hl:zJr H (ρT x)with
 | none=>simp[hl]at h
 | some l=>
  simp only[hl]at h;have ha:c.args=#[x]:=Array.ext' (by simpa using hx)
  have hb:c.argTypes=#[t]:=Array.ext' (by simpa using hts)
  refine zZ h ⟨.int .i64 (l.length:Int),?_,by rw[qN];exact .v rfl⟩
  unfold execOp;rcases zVx hH hl (hρ x)with⟨hv,rfl⟩ | ⟨b,es,clk,hv,hg,hm⟩
  ·simp only[ho,resolve,hc,Sem.run_bind,Sem.run_pure,Result.andThen_ok,invoke,builtin,Builtin.len_,ha,hb,List.map_toArray,List.map_cons,List.map_nil,hv];simp[underlying,hu,run_program,Sem.run_bind,Sem.run_pure,goInt]
  ·simp only[ho,resolve,hc,Sem.run_bind,Sem.run_pure,Result.andThen_ok,invoke,builtin,Builtin.len_,ha,hb,List.map_toArray,List.map_cons,List.map_nil,hv];have:=hm.length;simp[underlying,hu,run_program,Sem.run_bind,Sem.run_pure,goInt,yL hg,this]
theorem qGt(hH:zIq B r w H)(hρ:∀x,Rep B r (ρT x) (ρ x)){c:Call}(ho:o.op= .call c){z:T×Option TO}(h:zEi P H ρT c=some z):Ans P w ρ o B r k z:=by
 unfold zEi at h;split at h
 ·rename_i x t e1 e2 e3;cases he:elT P t with
  | none=>
   simp only[he]at h;cases hm:mapT P t with
   | none=>simp[hm]at h
   | some kv=>simp only[hm]at h;exact qGv hH hρ ho e1 e2 e3 hm h
  | some e=>
   simp only[he]at h;refine qMu hρ ho e1 e2 (fun n ad cp hv=>⟨t,e,?_,vE he⟩) h;have:c.argTypes=#[t]:=Array.ext' (by simpa using e3)
   rw[this];rfl
 ·cases h
theorem zWh{d:TypeDesc}{kv:Value}:∀{l:List (Value×T)}{es:List MapEntry}{i:Nat}{q:Option Nat},kX B r l es→zMe d kv l i=some q→
  (q=none∧Instr.findNow d kv es i=some none)∨∃j e f,q=some (i+j)∧l[j]?=some e∧es[j]?=some f∧Instr.findNow d kv es i=some (some (i+j,f.val))∧f.key=e.1∧Rep B r e.2 f.val
 | [],[],i,q,_,h=>by simp only[zMe,Option.some.injEq]at h;exact .inl ⟨h.symm,rfl⟩
 | e::l,f::es,i,q,hm,h=>by
  simp only[zMe]at h;unfold Instr.findNow;rw[hm.1];cases hs:Instr.sameNow d kv e.1 with
  | none=>simp[hs]at h
  | some b=>
   cases b with
   | true=>simp only[hs,Option.some.injEq]at h;exact .inr ⟨0,e,f,h.symm,rfl,rfl,rfl,hm.1,hm.2.1⟩
   | false=>
    simp only[hs]at h ⊢;rcases zWh hm.2.2 h with⟨h1,h2⟩ | ⟨j,e',f',h1,h2,h3,h4,h5,h6⟩
    ·exact .inl ⟨h1,h2⟩
    ·exact .inr ⟨j+1,e',f',by rw[h1];congr 1;omega,by simpa using h2,by simpa using h3,by rw[h4];congr 3;omega,h5,h6⟩
 | [],_::_,_,_,hm,_=>hm.elim
 | _::_,[],_,_,hm,_=>hm.elim
theorem zKe{d:TypeDesc}{kv:Value}:∀{l:List (Value×T)}{es:List MapEntry}{i:Nat},kX B r l es→zMe d kv l i=none→Instr.findNow d kv es i=none
 | [],[],i,_,h=>by simp[zMe]at h
 | e::l,f::es,i,hm,h=>by
  simp only[zMe]at h;unfold Instr.findNow;rw[hm.1];cases hs:Instr.sameNow d kv e.1 with
  | none=>rfl
  | some b=>
   cases b with
   | true=>simp[hs]at h
   | false=>simp only[hs]at h ⊢;exact zKe hm.2.2 h
 | [],_::_,_,hm,_=>hm.elim
 | _::_,[],_,hm,_=>hm.elim
theorem zWg{t:TypeId}{kv:Value}:∀{l:List (Value×T)}{es:List MapEntry}{i:Nat}{q:Option Nat},kX B r l es→qEa P t kv l i=some q→
  (q=none∧(Instr.findAsking t kv es i).run P w= .ok none w)∨∃j e f,q=some (i+j)∧l[j]?=some e∧es[j]?=some f∧(Instr.findAsking t kv es i).run P w= .ok (some (i+j,f.val)) w∧f.key=e.1∧Rep B r e.2 f.val
 | [],[],i,q,_,h=>by simp only[qEa,Option.some.injEq]at h;exact .inl ⟨h.symm,rfl⟩
 | e::l,f::es,i,q,hm,h=>by
  simp only[qEa]at h;unfold Instr.findAsking;rw[hm.1];cases hs:zJa P (Op.equal t kv e.1)with
  | none=>simp[hs]at h
  | some b=>
   simp only[Sem.run_bind,zDr hs w,Result.andThen_ok];cases b with
   | true=>simp only[hs,Option.some.injEq]at h;exact .inr ⟨0,e,f,h.symm,rfl,rfl,by simp[Sem.run_pure],hm.1,hm.2.1⟩
   | false=>
    simp only[hs]at h;rcases zWg hm.2.2 h with⟨h1,h2⟩ | ⟨j,e',f',h1,h2,h3,h4,h5,h6⟩
    ·exact .inl ⟨h1,by simpa using h2⟩
    ·exact .inr ⟨j+1,e',f',by rw[h1];congr 1;omega,by simpa using h2,by simpa using h3,by simp;rw[h4];congr 3;omega,h5,h6⟩
 | [],_::_,_,_,hm,_=>hm.elim
 | _::_,[],_,_,hm,_=>hm.elim
theorem zPw{t:TypeId}{kv:Value}{l:List (Value×T)}{es:List MapEntry}{q:Option Nat}(hm:kX B r l es)(h:zKd P t kv l=some q):
  (q=none∧(Instr.findKey t kv es).run P w= .ok none w)∨∃j e f,q=some j∧l[j]?=some e∧es[j]?=some f∧(Instr.findKey t kv es).run P w= .ok (some (j,f.val)) w∧f.key=e.1∧Rep B r e.2 f.val:=by
 unfold zKd at h;cases hu:P.underlying t with
 | none=>simp[hu]at h
 | some d=>
  simp only[hu]at h;unfold Instr.findKey;simp only[underlying,hu,Sem.run_bind,Sem.run_pure,run_program,Result.andThen_ok];cases hn:zMe d kv l 0 with
  | some q'=>
   simp only[hn,Option.some.injEq]at h;subst h;rcases zWh hm hn with⟨h1,h2⟩ | ⟨j,e',f',h1,h2,h3,h4,h5,h6⟩
   ·rw[h2];exact .inl ⟨h1,rfl⟩
   ·rw[h4];exact .inr ⟨j,e',f',by rw[h1,Nat.zero_add],h2,h3,by rw[Nat.zero_add];rfl,h5,h6⟩
  | none=>
   simp only[hn]at h;rw[zKe hm hn];rcases zWg (w:=w) hm h with⟨h1,h2⟩ | ⟨j,e',f',h1,h2,h3,h4,h5,h6⟩
   ·exact .inl ⟨h1,h2⟩
   ·exact .inr ⟨j,e',f',by rw[h1,Nat.zero_add],h2,h3,by rw[Nat.zero_add]at h4;exact h4,h5,h6⟩
theorem zPx{e:Bool}{t:TypeId}{kv:Value}(h:kOk P e t kv=true)(w:World):(Instr.checkKey e 10000 t kv).run P w= .ok () w:=by
 unfold kOk at h;cases hr:zJa P (Instr.checkKey e 10000 t kv)with
 | none=>simp[hr]at h
 | some u=>exact zDr hr w
def lkR(ok:Bool)(v:Value)(b:Bool):Value:=if ok then .tuple #[v,.bool b]else v
theorem zFn{ok b:Bool}{t:T}{v:Value}(h:Rep B r t v):Rep B r (okT ok t b) (lkR ok v b):=by
 cases ok with
 | false=>exact h
 | true=>exact Rep.mkTu (vs:=[v,.bool b]) ⟨h,.v rfl,trivial⟩
theorem qTe{l:List (Value×T)}{es:List MapEntry}(h:kX B r l es):emp l=es.toArray.isEmpty:=by
 cases l<;>cases es<;>first | rfl | exact h.elim
theorem zQx(hH:zIq B r w H)(hρ:∀x,Rep B r (ρT x) (ρ x)){t:TypeId}{m x:Operand}{ok:Bool}(ho:o.op= .lookup t m x ok){z:T×Option TO}(h:zHn P H t (ρT m) (ρT x) ok=some z):Ans P w ρ o B r k z:=by
 unfold zHn at h;cases hm:mapT P t with
 | none=>simp[hm]at h
 | some kv=>
  obtain⟨kt,vt⟩:=kv;cases hl:zJr H (ρT m)with
  | none=>simp[hm,hl]at h
  | some l=>
   cases hs:sOf (ρT x)with
   | none=>simp[hm,hl,hs]at h
   | some key=>
    simp only[hm,hl,hs]at h;cases hk:kOk P (emp l) kt key with
    | false=>simp[hk]at h
    | true=>
     simp only[hk,cond_true]at h;have hu:=nM hm;have hx:=zNj hs (hρ x);have fin:∀(es:Array MapEntry),kX B r l es.toList→
       (∀(n:Nat)(v:Value),(Instr.checkKey es.isEmpty 10000 kt key).run P w= .ok () w→(Instr.findKey kt key es.toList).run P w= .ok (some (n,v)) w→(Instr.lookup t (ρ m) key ok).run P w= .ok (lkR ok v true) w)→
       (∀(v:Value),(Instr.checkKey es.isEmpty 10000 kt key).run P w= .ok () w→(Instr.findKey kt key es.toList).run P w= .ok none w→(zeroValue vt).run P w= .ok v w→(Instr.lookup t (ρ m) key ok).run P w= .ok (lkR ok v false) w)→Ans P w ρ o B r k z:=fun es hme h1 h0=>by
      have hck:=zPx hk w;rw[qTe hme]at hck;have he2:es.toList.toArray=es:=by simp
      rw[he2]at hck;have hex:∀u,(Instr.lookup t (ρ m) key ok).run P w= .ok u w→(execOp ρ o).run P w= .ok (.value u) w:=fun u Q2=>by
       unfold execOp;simp only[ho,hx,Sem.run_bind,Q2,Result.andThen_ok,Sem.run_pure]
      cases hf:zKd P kt key l with
      | none=>simp[hf]at h
      | some q=>
       rcases zPw (w:=w) hme hf with⟨rfl,hr⟩ | ⟨j,e',f',rfl,h2,h3,hr,h5,h6⟩
       ·simp only[hf]at h;unfold qOh at h;cases hi:P.info? vt with
        | none=>simp[hi]at h
        | some i0=>
         cases hz:i0.zero with
         | none=>simp[hi,hz]at h
         | some zv=>
          simp only[hi,hz]at h;exact zZ h ⟨_,hex _ (h0 zv hck hr (nU hi hz w)),zFn (zBn zv)⟩
       ·simp only[hf]at h;have hn:qUz l j=some e'.2:=by unfold qUz;rw[h2]
        simp only[hn]at h;exact zZ h ⟨_,hex _ (h1 j f'.val hck hr),zFn h6⟩
     rcases zVx hH hl (hρ m)with⟨hv,rfl⟩ | ⟨b,es,clk,hv,hg,hme⟩
     ·refine fin #[] trivial (fun n v g1 g2=>?_) (fun v g1 g2 g3=>?_)
      ·rw[hv];unfold Instr.lookup;simp only[underlying,hu,Sem.run_bind,Sem.run_pure,run_program,Result.andThen_ok,g1,g2];rfl
      ·rw[hv];unfold Instr.lookup;simp only[underlying,hu,Sem.run_bind,Sem.run_pure,run_program,Result.andThen_ok,g1,g2,g3];rfl
     ·refine fin es hme (fun n v g1 g2=>?_) (fun v g1 g2 g3=>?_)
      ·rw[hv];unfold Instr.lookup;simp only[underlying,hu,Sem.run_bind,Sem.run_pure,run_program,yL hg,Result.andThen_ok,g1,g2];rfl
      ·rw[hv];unfold Instr.lookup;simp only[underlying,hu,Sem.run_bind,Sem.run_pure,run_program,yL hg,Result.andThen_ok,g1,g2,g3];rfl
theorem zUk(hH:zIq B r w H)(hρ:∀x,Rep B r (ρT x) (ρ x)){t:TypeId}{m x:Operand}{ok:Bool}(ho:o.op= .lookup t m x ok){z:T×Option TO}(h:zNa P H t (ρT m) (ρT x) ok=some z):Ans P w ρ o B r k z:=by
 unfold zNa at h;cases hd:dOf H (ρT m)with
 | none=>simp only[hd]at h;exact zQx hH hρ ho h
 | some d=>
  simp only[hd]at h;cases hm:mapT P t with
  | none=>simp[hm]at h
  | some kv=>
   obtain⟨kt,vt⟩:=kv;simp only[hm]at h;unfold lkD at h;split at h
   ·rename_i key z' hk hz;split at h
    ·rename_i z0 hz0;cases hko:vQ P kt d.K with
     | false=>simp[hko]at h
     | true=>
      simp only[hko,cond_true]at h;have hu:=nM hm;have hx:=zWk hko (zAr hk (hρ x));obtain⟨b,es,clk,hv,hg,hme⟩:=qCj hH hd (hρ m);obtain⟨q,hr,hf⟩:=zPi (w:=w) hko key d.l es.toList (zCu hme);unfold qOh at hz;cases hi:P.info? vt with
      | none=>simp[hi]at hz
      | some i0=>
       cases hzv:i0.zero with
       | none=>simp[hi,hzv]at hz
       | some zv=>
        simp only[hi,hzv,Option.some.injEq]at hz;subst hz;have hzr:=zAr hz0 (zBn (B:=B) (r:=r) zv);have hex:∀u,(Instr.lookup t (ρ m) (xJ d.K key) ok).run P w= .ok u w→(execOp ρ o).run P w= .ok (.value u) w:=fun u Q2=>by
         unfold execOp;simp only[ho,hx,Sem.run_bind,Q2,Result.andThen_ok,Sem.run_pure]
        rcases hf with⟨rfl,h2,h3,_⟩ | ⟨j,e,f,rfl,_,_,_,_,h6,h7,h8,_⟩
        ·rw[h2,h3]at h;refine zZ h ⟨_,hex (lkR ok zv false) ?_,zFn hzr⟩;rw[hv];unfold Instr.lookup;simp only[underlying,hu,Sem.run_bind,Sem.run_pure,run_program,Result.andThen_ok,yL hg,dQ hko,hr,nU hi hzv w];rfl
        ·rw[h7,h8]at h;refine zZ h ⟨_,hex (lkR ok f.val true) ?_,zFn h6⟩;rw[hv];unfold Instr.lookup;simp only[underlying,hu,Sem.run_bind,Sem.run_pure,run_program,Result.andThen_ok,yL hg,dQ hko,hr];rfl
    ·cases h
   ·cases h
theorem qB{a b:Nat}(h:Nat.beq a b=true):a=b:=Nat.eq_of_beq_eq_true h
theorem wL(b o' j:Nat):(some (⟨b,o',none⟩:Addr)).map (·.add j)=some ⟨b,o'+j,none⟩:=by simp[qJ]
def ad'(ad:Option Addr)(m l s:Nat):Option Addr:=if m=l then ad else ad.map (·.add (l*s))
theorem qSv{cs:List T}{ad:Option Addr}{lo hi m n s:Nat}(hmx:m≤maxLen)(h1:lo≤hi)(h2:hi≤m)(hn:hi≤n)(hh:(n=0∧cs=[])∨∃b o,ad=some ⟨b,o,none⟩∧Cls B r b o cs):
  Rep B r (bif Nat.beq lo hi then .sl [] 0 else .sl (jA cs (lo*s)) (hi-lo)) (.slice (ad' ad m lo s) (hi-lo) (m-lo)):=by
 cases e:Nat.beq lo hi with
 | true=>
  obtain rfl:=Nat.eq_of_beq_eq_true e;rw[Nat.sub_self];exact .sl0 (Nat.le_trans (Nat.sub_le _ _) hmx)
 | false=>
  have hne:lo≠hi:=fun e'=>by subst e';simp at e
  rcases hh with⟨rfl,rfl⟩ | ⟨b,o,rfl,hc⟩
  ·omega
  ·unfold ad';rw[if_neg (by omega),wL];exact(hc.drop _).sl (by omega) (Nat.le_trans (Nat.sub_le _ _) hmx)
theorem zSu{cs:List T}{ad:Option Addr}{lo hi n s:Nat}(h1:lo≤hi)(hn:hi≤n)(hh:(n=0∧cs=[])∨∃b o,ad=some ⟨b,o,none⟩∧Cls B r b o cs):
  Rep B r (bif Nat.beq lo hi then .st [] 0 else .st (jA cs (lo*s)) (hi-lo)) (.slice (ad' ad hi lo s) (hi-lo) (hi-lo)):=by
 cases e:Nat.beq lo hi with
 | true=>
  obtain rfl:=Nat.eq_of_beq_eq_true e;rw[Nat.sub_self];exact .st0
 | false=>
  have hne:lo≠hi:=fun e'=>by subst e';simp at e
  rcases hh with⟨rfl,rfl⟩ | ⟨b,o,rfl,hc⟩
  ·omega
  ·unfold ad';rw[if_neg (by omega),wL];exact(hc.drop _).st
theorem qAh{x t:T}{lo hi s n:Nat}{v:Value}(hn:qZ x=some n)(h:pY x lo hi s=some t)(hR:Rep B r x v):
  ∃ad c,v= .slice ad n c∧lo≤hi∧hi≤c∧Rep B r t (.slice (ad' ad c lo s) (hi-lo) (c-lo)):=by
 cases x with
 | sl cs m=>
  simp only[qZ,Option.some.injEq]at hn;subst hn;simp only[pY]at h;cases hc:Nat.ble lo hi&&Nat.ble hi m with
  | false=>simp[hc]at h
  | true=>
   simp only[hc,cond_true,Option.some.injEq]at h;subst h;simp only[Bool.and_eq_true,Nat.ble_eq]at hc;have hmx:=hR;obtain⟨ad,c,rfl,hcap,hh⟩:=hR.slI;exact⟨ad,c,rfl,hc.1,by omega,qSv hmx.slB hc.1 (by omega) hc.2 hh⟩
 | st cs m=>
  simp only[qZ,Option.some.injEq]at hn;subst hn;simp only[pY]at h;cases hc:Nat.ble lo hi&&Nat.beq hi m with
  | false=>simp[hc]at h
  | true=>
   simp only[hc,cond_true,Option.some.injEq]at h;subst h;simp only[Bool.and_eq_true,Nat.ble_eq]at hc;obtain⟨h1,h2⟩:=hc;obtain rfl:=qB h2;obtain⟨ad,rfl,hh⟩:=hR.stI;exact⟨ad,hi,rfl,h1,Nat.le_refl _,zSu h1 (Nat.le_refl _) hh⟩
 | os i o m c=>
  simp only[qZ,Option.some.injEq]at hn;subst hn;simp only[pY]at h;cases hc:Nat.ble lo hi&&Nat.ble hi c with
  | false=>simp[hc]at h
  | true=>
   simp only[hc,cond_true]at h;simp only[Bool.and_eq_true,Nat.ble_eq]at hc;obtain⟨b,C,rfl,hB⟩:=hR.osI;refine⟨_,c,rfl,hc.1,hc.2,?_⟩;unfold ad';cases e:Nat.beq lo c with
   | true=>
    simp only[e,cond_true,Option.some.injEq]at h;subst h;rw[if_pos (Nat.eq_of_beq_eq_true e).symm];exact .os hB
   | false=>
    simp only[e,cond_false,Option.some.injEq]at h;subst h;rw[if_neg (fun e'=>by subst e';simp at e),wL];exact .os hB
 | og i o m=>
  simp only[qZ,Option.some.injEq]at hn;subst hn;simp only[pY]at h;obtain⟨b,C,c,rfl,hB,hcap,h0⟩:=hR.ogI;have hmx:=hR.ogB;cases hc:Nat.ble lo hi&&(Nat.ble hi m&&(Nat.blt lo m&&Nat.blt 0 s))with
  | true=>
   simp only[hc,cond_true,Option.some.injEq]at h;subst h;simp only[Bool.and_eq_true,Nat.ble_eq,Nat.blt_eq]at hc;refine⟨_,c,rfl,hc.1,by omega,?_⟩
   unfold ad';rw[if_neg (by omega),wL]
   refine .og hB (by omega) (fun e=>?_) (Nat.le_trans (Nat.sub_le _ _) hmx)
   have h1:o=0:=by omega
   have h2:lo*s=0:=by omega
   have h3:lo=0:=by
    rcases Nat.mul_eq_zero.1 h2 with h | h
    ·exact h
    ·omega
   rw[h3,Nat.sub_zero];exact h0 h1
  | false=>
   simp only[hc,cond_false]at h;cases hz:Nat.beq lo 0&&Nat.beq hi 0 with
   | false=>
    simp only[hz,cond_false]at h;cases hy:Nat.beq lo hi&&Nat.ble hi m with
    | false=>simp[hy]at h
    | true=>
     simp only[hy,cond_true,Option.some.injEq]at h;subst h;simp only[Bool.and_eq_true,Nat.ble_eq]at hy;obtain rfl:=qB hy.1;refine⟨_,c,rfl,Nat.le_refl _,by omega,?_⟩
     rw[Nat.sub_self];exact .sl0 (Nat.le_trans (Nat.sub_le _ _) hmx)
   | true=>
    simp only[hz,cond_true,Option.some.injEq]at h;subst h;simp only[Bool.and_eq_true]at hz;obtain rfl:=qB hz.1;obtain rfl:=qB hz.2;refine⟨_,c,rfl,Nat.le_refl _,Nat.zero_le _,?_⟩;unfold ad';have:(if c=0 then some (⟨b,o,none⟩:Addr)else(some (⟨b,o,none⟩:Addr)).map (·.add (0*s)))=some ⟨b,o,none⟩:=by
     split
     ·rfl
     ·rw[wL];simp
    rw[this];exact .og hB (Nat.zero_le _) h0 hmx
 | v x=>
  obtain⟨rfl,_⟩:=hR.vI;unfold pY at h;split at h<;>(try (rename_i e;cases e;done))<;>(try cases h)
  rename_i e;cases e;cases hz:Nat.beq hi 0&&Nat.beq lo 0 with
  | false=>simp[hz]at h
  | true=>
   simp only[hz,cond_true,Option.some.injEq]at h;subst h;simp only[Bool.and_eq_true]at hz;obtain rfl:=qB hz.1;obtain rfl:=qB hz.2;simp only[qZ,Option.some.injEq]at hn;subst hn;exact⟨none,0,rfl,Nat.le_refl _,Nat.le_refl _,.v rfl⟩
 | sn=>simp[pY]at h
 | ls g A l=>
  simp only[qZ,Option.some.injEq]at hn;subst hn;simp only[pY]at h;cases hc:Nat.beq s A.size&&(Nat.ble lo hi&&Nat.ble hi l.length)with
  | false=>simp[hc]at h
  | true=>
   simp only[hc,cond_true,Option.some.injEq]at h;subst h;simp only[Bool.and_eq_true,Nat.ble_eq]at hc;obtain⟨hs,h1,h2⟩:=hc;obtain rfl:=qB hs;have hR':=hR;obtain⟨ad,c,rfl,hn,hm,hh⟩:=hR.lsI;refine⟨ad,c,rfl,h1,by omega,?_⟩
   by_cases e:lo=hi
   ·subst e;rw[Nat.sub_self,List.take_zero];exact .ls ⟨_,c-lo,rfl,Nat.zero_le _,by omega,.inl rfl⟩
   ·rcases hh with rfl | ⟨b,o,rfl,_,_⟩
    ·simp at h2;omega
    ·unfold ad';rw[if_neg (by omega),wL]
     exact hR'.lsP (by omega)
 | hv A l=>cases h
 | _=>cases hn
theorem qAg{x t:T}{lo hi mx s n:Nat}{v:Value}(hn:qZ x=some n)(h:lH x lo hi mx s=some t)(hR:Rep B r x v):
  ∃ad c,v= .slice ad n c∧lo≤hi∧hi≤mx∧mx≤c∧Rep B r t (.slice (ad' ad mx lo s) (hi-lo) (mx-lo)):=by
 cases x with
 | sl cs m=>
  simp only[qZ,Option.some.injEq]at hn;subst hn;simp only[lH]at h;cases hc:Nat.ble lo hi&&(Nat.beq hi mx&&Nat.ble mx m)with
  | false=>simp[hc]at h
  | true=>
   simp only[hc,cond_true,Option.some.injEq]at h;subst h;simp only[Bool.and_eq_true,Nat.ble_eq]at hc;obtain⟨h1,h2,h3⟩:=hc;obtain rfl:=qB h2;obtain⟨ad,c,rfl,hcap,hh⟩:=hR.slI;exact⟨ad,c,rfl,h1,Nat.le_refl _,by omega,zSu h1 h3 hh⟩
 | st cs m=>
  simp only[qZ,Option.some.injEq]at hn;subst hn;simp only[lH]at h;cases hc:Nat.ble lo hi&&(Nat.beq hi mx&&Nat.ble mx m)with
  | false=>simp[hc]at h
  | true=>
   simp only[hc,cond_true,Option.some.injEq]at h;subst h;simp only[Bool.and_eq_true,Nat.ble_eq]at hc;obtain⟨h1,h2,h3⟩:=hc;obtain rfl:=qB h2;obtain⟨ad,rfl,hh⟩:=hR.stI;exact⟨ad,m,rfl,h1,Nat.le_refl _,h3,zSu h1 h3 hh⟩
 | os i o m c=>
  simp only[qZ,Option.some.injEq]at hn;subst hn;simp only[lH]at h;cases hc:Nat.ble lo hi&&(Nat.ble hi mx&&Nat.ble mx c)with
  | false=>simp[hc]at h
  | true=>
   simp only[hc,cond_true,Option.some.injEq]at h;subst h;simp only[Bool.and_eq_true,Nat.ble_eq]at hc;obtain⟨b,C,rfl,hB⟩:=hR.osI;refine⟨_,c,rfl,hc.1,hc.2.1,hc.2.2,?_⟩;unfold ad';cases e:Nat.beq lo mx with
   | true=>rw[if_pos (qB e).symm];exact .os hB
   | false=>rw[if_neg (fun e'=>by subst e';simp at e),wL];exact .os hB
 | og i o m=>
  simp only[qZ,Option.some.injEq]at hn;subst hn;simp only[lH]at h;obtain⟨b,C,c,rfl,hB,hcap,h0⟩:=hR.ogI;have hmx:=hR.ogB;cases hc:Nat.ble lo hi&&(Nat.ble hi mx&&Nat.ble mx m)with
  | false=>simp[hc]at h
  | true=>
   simp only[hc,cond_true,Option.some.injEq]at h;subst h;simp only[Bool.and_eq_true,Nat.ble_eq]at hc;refine⟨_,c,rfl,hc.1,hc.2.1,by omega,?_⟩
   unfold ad';cases e:Nat.beq lo mx with
   | true=>rw[if_pos (qB e).symm];exact .os hB
   | false=>rw[if_neg (fun e'=>by subst e';simp at e),wL];exact .os hB
 | v x=>
  obtain⟨rfl,_⟩:=hR.vI;unfold lH at h;split at h<;>(try (rename_i e;cases e;done))<;>(try cases h)
  rename_i e;cases e;cases hz:Nat.beq hi 0&&(Nat.beq lo 0&&Nat.beq mx 0)with
  | false=>simp[hz]at h
  | true=>
   simp only[hz,cond_true,Option.some.injEq]at h;subst h;simp only[Bool.and_eq_true]at hz;obtain rfl:=qB hz.1;obtain rfl:=qB hz.2.1;obtain rfl:=qB hz.2.2;simp only[qZ,Option.some.injEq]at hn;subst hn;exact⟨none,0,rfl,Nat.le_refl _,Nat.le_refl _,Nat.le_refl _,.v rfl⟩
 | sn=>simp[lH]at h
 | ls g A l=>
  simp only[qZ,Option.some.injEq]at hn;subst hn;simp only[lH]at h;cases hc:(Nat.beq lo hi&&Nat.beq hi mx)&&Nat.ble mx l.length with
  | false=>simp[hc]at h
  | true=>
   simp only[hc,cond_true,Option.some.injEq]at h;subst h;simp only[Bool.and_eq_true,Nat.ble_eq]at hc;obtain⟨⟨h1,h2⟩,h3⟩:=hc;obtain rfl:=qB h1;obtain rfl:=qB h2;obtain⟨ad,c,rfl,hn,hm,hh⟩:=hR.lsI;refine⟨ad,c,rfl,Nat.le_refl _,Nat.le_refl _,by omega,?_⟩
   rw[Nat.sub_self];exact .st0
 | hv A l=>cases h
 | _=>cases hn
theorem zOl{t:Option T}{x:T×Option TO}(h:qAl t=some x):∃q,t=some q∧x=(q,none):=by
 cases t with
 | none=>cases h
 | some q=>cases h;exact⟨q,rfl,rfl⟩
theorem qGf{lo:Option Operand}{d l:Nat}(hρ:∀x,Rep B r (ρT x) (ρ x))(h:opt ρT d lo=some l):Bd ρ d l lo:=by
 cases lo with
 | none=>simp only[opt,Option.some.injEq]at h;exact h.symm
 | some a=>exact vY h (hρ a)
theorem qAa(hρ:∀x,Rep B r (ρT x) (ρ x)){t:TypeId}{x:Operand}{lo hi mx:Option Operand}(ho:o.op= .slice t x lo hi mx){z:T×Option TO}(h:pQ P t (ρT x) ρT lo hi mx=some z):Ans P w ρ o B r k z:=by
 unfold pQ at h;cases he:elT P t with
 | none=>simp[he]at h
 | some e=>
  cases hl:ldT P e with
  | none=>simp[he,hl]at h
  | some gs=>
   obtain⟨g,s⟩:=gs;cases hn:qZ (ρT x)with
   | none=>simp[he,hl,hn]at h
   | some n=>
    simp only[he,hl,hn]at h;cases h1:opt ρT 0 lo with
    | none=>simp[h1]at h
    | some l=>
     cases h2:opt ρT n hi with
     | none=>simp[h1,h2]at h
     | some hh=>
      have e1:=qGf hρ h1;have e2:=qGf hρ h2;cases mx with
      | none=>
       simp only[h1,h2,wH]at h;obtain⟨tu,hu,rfl⟩:=zOl h;obtain⟨ad,c,hv,k1,k2,k3⟩:=qAh hn hu (hρ x);exact⟨_,zXm (m:=c) (l:=l) (h:=hh) ho (vE he) hl hv e1 e2 rfl (fun _=>rfl) k1 (.inl k2) (Nat.le_refl _) w,k3⟩
      | some mo=>
       cases h3:sN (ρT mo)with
       | none=>cases hi<;>simp[h1,h2,h3,wH]at h
       | some m=>
        cases hi with
        | none=>simp[h1,h2,wH]at h
        | some a=>
        simp only[h1,h2,h3,wH]at h;obtain⟨tu,hu,rfl⟩:=zOl h;obtain⟨ad,c,hv,k1,k2,k3,k4⟩:=qAg hn hu (hρ x);exact⟨_,zXm (m:=m) (l:=l) (h:=hh) ho (vE he) hl hv e1 e2 (vY h3 (hρ mo)) (fun e=>nomatch e) k1 (.inl k2) k3 w,k4⟩
end
section
variable {P:Program}{E:Nat→Prop}{w0:World}{X:Hid}{F:List Nat}{H:List TO}{B:Bm}{w:World}{Y:Hid}{Mo:List (Nat×Obj)}{ρ:Operand→Value}{ρT:Operand→T}{o:Oper}{r:Rd}{k:Nat}
theorem zJt{s f a t:Nat}(h:zYz P s f=some (a,t)):∃fs x,P.underlying s=some (.struct fs)∧fs[f]?=some x∧x.offset=a∧x.type=t:=by
 unfold zYz at h;split at h
 ·rename_i fs hs;cases hx:fs[f]? with
  | none=>simp[hx]at h
  | some x=>simp only[hx,Option.some.injEq,Prod.mk.injEq]at h;exact⟨fs,x,hs,hx,h.1,h.2⟩
 ·cases h
theorem zIy(hρ:∀x,Rep B r (ρT x) (ρ x)){s:TypeId}{x:Operand}{f:Nat}(ho:o.op= .fieldAddr s x f){z:T×Option TO}(h:mZ P s (ρT x) f=some z):Ans P w ρ o B r k z:=by
 have hx:=hρ x;unfold mZ at h;cases hf:zYz P s f with
 | none=>simp[hf]at h
 | some at_=>
  obtain⟨a,t⟩:=at_;cases hl:ldT P t with
  | none=>simp[hf,hl]at h
  | some gs=>
   obtain⟨g,n⟩:=gs;simp only[hf,hl]at h;cases hn:Nat.beq n 0 with
   | true=>simp[hn]at h
   | false=>
    have hn0:n≠0:=fun e=>by subst e;simp at hn
    simp only[hn,cond_false]at h;obtain⟨fs,fld,h1,h2,h3,h4⟩:=zJt hf;have run:∀b q,ρ x= .pointer (some ⟨b,q,none⟩)→(execOp ρ o).run P w= .ok (.value (.pointer (some ⟨b,q+a,none⟩))) w:=fun b q hv=>by
     unfold execOp;simp only[ho,hv,Instr.fieldAt,Instr.sureAddr,fieldPlace,underlying,h1,h2,h3,h4,Sem.run_bind,Sem.run_pure,run_program,Result.andThen_ok,Gv.run_sizeOf hl,hn0,if_false,qJ]
    split at h
    ·rename_i i j e;rw[e]at hx;obtain⟨b,C,hv,hB⟩:=hx.opI;exact zZ h ⟨_,run _ _ hv,.op hB⟩
    ·rename_i cs e;rw[e]at hx;obtain⟨b,q,hv,hc⟩:=hx.fpI;exact zZ h ⟨_,run _ _ hv,(hc.drop a).fp⟩
    ·cases h
theorem zRk{t:TypeId}{g:Bool}{s a:Nat}{vs:List Value}(hl:ldT P t=some (g,s))(hg:g=true∨((vs.drop a).take s).length=1)(hs:((vs.drop a).take s).length=s)(w:World):(part t vs.toArray a).run P w= .ok (ldV g ((vs.drop a).take s)) w:=by
 unfold part;simp only[Sem.run_bind,zLc hl,Result.andThen_ok];cases g with
 | true=>
  simp only[if_true,Sem.run_bind,Gv.run_sizeOf hl,Result.andThen_ok,Sem.run_pure,ldV,cond_true];congr 2;apply Array.ext';simp[Nat.add_sub_cancel_left]
 | false=>
  have h1:((vs.drop a).take s).length=1:=by simpa using hg
  have:s=1:=hs.symm.trans h1;subst this;have hlt:a<vs.length:=by
   rcases Nat.lt_or_ge a vs.length with h | h
   ·exact h
   ·rw[List.drop_eq_nil_of_le h]at h1;simp at h1
  have e:(vs.drop a).take 1=[vs[a]]:=by
   rw[List.drop_eq_getElem_cons hlt];rfl
  rw[e];simp[hlt,ldV,Sem.run_pure]
theorem zZz(hρ:∀x,Rep B r (ρT x) (ρ x)){s:TypeId}{x:Operand}{f:Nat}(ho:o.op= .field s x f){z:T×Option TO}(h:zMz P s (ρT x) f=some z):Ans P w ρ o B r k z:=by
 have hx:=hρ x;unfold zMz at h;cases hf:zYz P s f with
 | none=>simp[hf]at h
 | some at_=>
  obtain⟨a,t⟩:=at_;simp only[hf]at h;split at h
  ·rename_i cs e;rw[e]at hx;cases hl:ldT P t with
   | none=>simp[hl]at h
   | some gs=>
    obtain⟨g,n⟩:=gs;cases ht:jD n (jA cs a)with
    | none=>simp[hl,ht]at h
    | some us=>
     simp only[hl,ht]at h;cases hg:g||Nat.beq n 1 with
     | false=>simp[hg]at h
     | true=>
      simp only[hg,cond_true]at h;obtain⟨vs,hv,hR⟩:=hx.agI;obtain⟨h5,h6⟩:=zN.take (hR.drop a) ht;obtain⟨h7,h8⟩:=zFl h6 hg h5;obtain⟨fs,fld,h1,h2,h3,h4⟩:=zJt hf;refine zZ h ⟨_,?_,h7⟩;unfold execOp;simp only[ho,hv,Instr.field,asAgg,underlying,h1,h2,h3,h4,Sem.run_bind,Sem.run_pure,run_program,Result.andThen_ok,zRk hl h8 h6]
  ·cases h
theorem zQv(hρ:∀x,Rep B r (ρT x) (ρ x)){t:TypeId}{x ix:Operand}(ho:o.op= .indexAddr t x ix){z:T×Option TO}(h:wU P t (ρT x) (ρT ix)=some z):Ans P w ρ o B r k z:=by
 have hx:=hρ x;unfold wU at h;cases hi:sN (ρT ix)with
 | none=>simp[hi]at h
 | some i=>
  simp only[hi]at h;obtain⟨kd,hv⟩:=vY hi (hρ ix);split at h
  ·rename_i e ht;cases hl:ldT P e with
   | none=>simp[hl]at h
   | some gs=>
    obtain⟨g,s⟩:=gs;simp only[hl]at h;have run:∀b off n c,ρ x= .slice (some ⟨b,off,none⟩) n c→i<n→(execOp ρ o).run P w= .ok (.value (.pointer (some ⟨b,off+i*s,none⟩))) w:=fun b off n c hs hlt=>qV ho ht hs hv hl (by omega) (by omega) (by simp) w
    split at h
    ·rename_i cs n e1;rw[e1]at hx;cases hb:Nat.blt i n with
     | false=>simp[hb]at h
     | true=>
      simp only[hb,cond_true]at h;rw[Nat.blt_eq]at hb;obtain⟨ad,c,hs,_,hh⟩:=hx.slI;rcases hh with⟨rfl,_⟩ | ⟨b,off,rfl,hc⟩
      ·omega
      ·exact zZ h ⟨_,run _ _ _ _ hs hb,(hc.drop _).fp⟩
    ·rename_i cs n e1;rw[e1]at hx;cases hb:Nat.blt i n with
     | false=>simp[hb]at h
     | true=>
      simp only[hb,cond_true]at h;rw[Nat.blt_eq]at hb;obtain⟨ad,hs,hh⟩:=hx.stI;rcases hh with⟨rfl,_⟩ | ⟨b,off,rfl,hc⟩
      ·omega
      ·exact zZ h ⟨_,run _ _ _ _ hs hb,(hc.drop _).fp⟩
    ·rename_i j off n c e1;rw[e1]at hx;cases hb:Nat.blt i n with
     | false=>simp[hb]at h
     | true=>
      simp only[hb,cond_true]at h;rw[Nat.blt_eq]at hb;obtain⟨b,C,hs,hB⟩:=hx.osI;exact zZ h ⟨_,run _ _ _ _ hs hb,.op hB⟩
    ·rename_i j off n e1;rw[e1]at hx;cases hb:Nat.blt i n with
     | false=>simp[hb]at h
     | true=>
      simp only[hb,cond_true]at h;rw[Nat.blt_eq]at hb;obtain⟨b,C,c,hs,hB,_⟩:=hx.ogI;exact zZ h ⟨_,run _ _ _ _ hs hb,.op hB⟩
    ·rename_i gg A l e1;rw[e1]at hx;cases hb:Nat.beq s A.size&&Nat.blt i l.length with
     | false=>simp[hb]at h
     | true=>
      simp only[hb,cond_true]at h;simp only[Bool.and_eq_true,Nat.blt_eq]at hb;obtain rfl:=qB hb.1;obtain⟨ad,c,hs,_⟩:=hx.lsI;obtain⟨b,o,n2,c2,e2,hc⟩:=hx.lsE hb.2;rw[e2]at hs;cases hs;exact zZ h ⟨_,run _ _ _ _ e2 hb.2,hc.fp⟩
    ·rename_i A l e1;rw[e1]at hx;cases hb:Nat.beq s A.size&&Nat.blt i l.length with
     | false=>simp[hb]at h
     | true=>
      simp only[hb,cond_true]at h;simp only[Bool.and_eq_true,Nat.blt_eq]at hb;obtain rfl:=qB hb.1;obtain⟨ad,c,hs,_⟩:=hx.hvI;obtain⟨b,o,n2,c2,e2,hc⟩:=hx.hvE hb.2;rw[e2]at hs;cases hs;exact zZ h ⟨_,run _ _ _ _ e2 hb.2,hc.fp⟩
    ·cases h
  ·rename_i n e ht;cases hl:ldT P e with
   | none=>simp[hl]at h
   | some gs=>
    obtain⟨g,s⟩:=gs;simp only[hl]at h;have run:∀b off,ρ x= .pointer (some ⟨b,off,none⟩)→i<n→(execOp ρ o).run P w= .ok (.value (.pointer (some ⟨b,off+i*s,none⟩))) w:=fun b off hs hlt=>by
     have c1:(0:Int)≤(i:Int):=by omega
     have c2:(i:Int)<(n:Int):=by omega
     unfold execOp;simp only[ho,hs,hv,Instr.indexAt,asIntOf,underlying,Instr.sureAddr,ht,Sem.run_bind,Sem.run_pure,run_program,Result.andThen_ok,c1,c2,and_self,if_true,Gv.run_sizeOf hl,qJ,Int.toNat_natCast]
    split at h
    ·rename_i j off e1;rw[e1]at hx;cases hb:Nat.blt i n with
     | false=>simp[hb]at h
     | true=>
      simp only[hb,cond_true]at h;rw[Nat.blt_eq]at hb;obtain⟨b,C,hs,hB⟩:=hx.opI;exact zZ h ⟨_,run _ _ hs hb,.op hB⟩
    ·rename_i cs e1;rw[e1]at hx;cases hb:Nat.blt i n with
     | false=>simp[hb]at h
     | true=>
      simp only[hb,cond_true]at h;rw[Nat.blt_eq]at hb;obtain⟨b,off,hs,hc⟩:=hx.fpI;exact zZ h ⟨_,run _ _ hs hb,(hc.drop _).fp⟩
    ·cases h
  ·cases h
theorem qMt(hρ:∀x,Rep B r (ρT x) (ρ x)){t:TypeId}{x ix:Operand}(ho:o.op= .index t x ix){z:T×Option TO}(h:qMs P t (ρT x) (ρT ix)=some z):Ans P w ρ o B r k z:=by
 have hx:=hρ x;unfold qMs at h;cases hi:sN (ρT ix)with
 | none=>simp[hi]at h
 | some i=>
  simp only[hi]at h;obtain⟨kd,hv⟩:=vY hi (hρ ix);split at h
  ·rename_i n e ht;cases hl:ldT P e with
   | none=>simp[hl]at h
   | some gs=>
    obtain⟨g,s⟩:=gs;simp only[hl]at h;split at h
    ·rename_i cs e1;rw[e1]at hx;cases hc:Nat.blt i n&&(g||Nat.beq s 1)with
     | false=>simp[hc]at h
     | true=>
      simp only[hc,cond_true]at h;simp only[Bool.and_eq_true]at hc;cases ht':jD s (jA cs (i*s))with
      | none=>simp[ht']at h
      | some us=>
       simp only[ht']at h;obtain⟨vs,hs,hR⟩:=hx.agI;obtain⟨h5,h6⟩:=zN.take (hR.drop (i*s)) ht';obtain⟨h7,h8⟩:=zFl h6 hc.2 h5;have hlt:=hc.1;rw[Nat.blt_eq]at hlt;have c1:(0:Int)≤(i:Int):=by omega
       have c2:(i:Int)<(n:Int):=by omega
       refine zZ h ⟨_,?_,h7⟩;unfold execOp;simp only[ho,hs,hv,Instr.index,asIntOf,underlying,ht,Sem.run_bind,Sem.run_pure,run_program,Result.andThen_ok,c1,c2,and_self,if_true,Gv.run_sizeOf hl,Int.toNat_natCast,zRk hl h8 h6]
    ·cases h
  ·cases h
theorem zBw:∀{ts:List T}{vs:List Value}{cs:List T}{c:List Value}(o:Nat),zN B r ts vs→zN B r cs c→zN B r (jF cs o ts) ((vs.zipIdx o).foldl (fun c p=>c.set p.2 p.1) c)
 | [],[],_,_,_,_,h=>h
 | t::ts,v::vs,cs,c,o,k,h=>by
  simp only[jF,List.zipIdx_cons,List.foldl_cons];exact zBw (o+1) k.2 (h.put o k.1)
 | [],_::_,_,_,_,k,_=>k.elim
 | _::_,[],_,_,_,k,_=>k.elim
theorem zJy(off:Nat):∀(l:List (Value×Nat))(c:Array Value),(l.foldl (fun cs p=>cs.setIfInBounds (off+p.2) p.1) c).toList=(l.map fun p=>(p.1,off+p.2)).foldl (fun c p=>c.set p.2 p.1) c.toList
 | [],_=>rfl
 | p::l,c=>by
  simp only[List.foldl_cons,List.map_cons];rw[zJy off l];simp
theorem zYg(off:Nat):∀(l:List Value)(k:Nat),((l.zipIdx k).map fun p=>(p.1,off+p.2))=l.zipIdx (off+k)
 | [],_=>rfl
 | x::l,k=>by
  simp only[List.zipIdx_cons,List.map_cons,zYg off l (k+1)];rfl
theorem qKj(off:Nat)(v c:Array Value):(v.zipIdx.foldl (fun cs(p:Value×Nat)=>cs.setIfInBounds (off+p.2) p.1) c).toList=(v.toList.zipIdx off).foldl (fun c p=>c.set p.2 p.1) c.toList:=by
 rw[←Array.foldl_toList,zJy,Array.toList_zipIdx,zYg];rfl
theorem zLy{pl:Nat→Option (Nat×Nat)}(hρ:∀x,Rep B r (ρT x) (ρ x)):∀(ps:List (Nat×Operand)){cs us:List T}{c:Array Value},zN B r cs c.toList→zEg pl cs (ps.map fun p=>(p.1,ρT p.2))=some us→∃c',Instr.fill pl c (ps.map fun p=>(p.1,ρ p.2))=some c'∧zN B r us c'.toList
 | [],cs,us,c,h,e=>by
  simp only[List.map_nil,zEg,Option.some.injEq]at e;subst e;exact⟨c,rfl,h⟩
 | (i,x)::ps,cs,us,c,h,e=>by
  simp only[List.map_cons,zEg]at e;cases hp:pl i with
  | none=>simp[hp]at e
  | some os=>
   obtain⟨off,s⟩:=os;simp only[hp]at e;cases hc:!isU (ρT x)&&(Nat.beq (ln (cellsOf (ρT x))) s&&Nat.ble (off+s) (ln cs))with
   | false=>simp[hc]at e
   | true=>
    simp only[hc,cond_true]at e;simp only[Bool.and_eq_true,Bool.not_eq_true',Nat.ble_eq,qN]at hc;have hx:=(hρ x).cells (qDy hc.1);have h1:(ρ x).cells.size=s:=by rw[←qB hc.2.1,hx.length];simp
    have h2:off+s≤c.size:=by
     have:=hc.2.2;rw[h.length]at this;simpa using this
    have hstep:=zBw off hx h;rw[←qKj]at hstep;obtain⟨c',h3,h4⟩:=zLy hρ ps hstep e;refine⟨c',?_,h4⟩;simp only[List.map_cons,Instr.fill,hp];rw[if_neg (by simp[h1];omega)]
    exact h3
theorem zRl(w:World):∀{l:List Field}{q:List (Nat×Nat)},zUl P l=some q→(l.mapM fun f=>(do pure (f.offset,←sizeOf f.type):Sem (Nat×Nat))).run P w= .ok q w
 | [],q,h=>by simp only[zUl,Option.some.injEq]at h;subst h;rfl
 | f::l,q,h=>by
  simp only[zUl]at h;cases hl:ldT P f.type with
  | none=>simp[hl]at h
  | some gs=>
   obtain⟨g,s⟩:=gs;cases hq:zUl P l with
   | none=>simp[hl,hq]at h
   | some q'=>
    simp only[hl,hq,Option.some.injEq]at h;subst h;simp only[List.mapM_cons,Sem.run_bind,Gv.run_sizeOf hl,Result.andThen_ok,Sem.run_pure,zRl w hq]
theorem zZy(hρ:∀x,Rep B r (ρT x) (ρ x)){t:TypeId}{ps:Array (Nat×Operand)}(ho:o.op= .build t ps){z:T×Option TO}(h:zUi P t (evP ρT ps)=some z):Ans P w ρ o B r k z:=by
 unfold zUi at h;cases hz:zer P t with
 | none=>simp[hz]at h
 | some zs=>
  cases hp:qHd P t with
  | none=>simp[hz,hp]at h
  | some pl=>
   simp only[hz,hp]at h;cases hf:zEg pl zs (evP ρT ps)with
   | none=>simp[hf]at h
   | some us=>
    simp only[hf]at h;obtain⟨i0,zv,h1,h2,rfl⟩:=mI hz;obtain⟨c',h3,h4⟩:=zLy hρ ps.toList (nR zv.cells.toList) hf;have hm:(ps.map fun p=>(p.1,ρ p.2)).toList=ps.toList.map fun p=>(p.1,ρ p.2):=by simp
    refine zZ h ⟨.agg c',?_,by have:=Rep.mkAg h4;simpa using this⟩
    unfold qHd at hp;unfold execOp;split at hp
    ·rename_i fs hs;cases hq:zUl P fs.toList with
     | none=>simp[hq]at hp
     | some q=>
      simp only[hq,Option.some.injEq]at hp;subst hp;have hfs:fs=fs.toList.toArray:=by simp
      have h3':Instr.fill (fun x=>q.toArray[x]?) zv.cells (ps.toList.map fun p=>(p.1,ρ p.2))=some c':=by
       simpa using h3
      simp only[ho,Instr.build,Sem.run_bind,nU h1 h2,Result.andThen_ok,underlying,hs,run_program,Sem.run_pure];rw[hfs];simp only[List.mapM_toArray,Sem.run_map,zRl w hq,Result.andThen_ok,Sem.run_bind,hm];rw[h3'];rfl
    ·rename_i n e hs;cases hl:ldT P e with
     | none=>simp[hl]at hp
     | some gs=>
      obtain⟨g,s⟩:=gs;simp only[hl,Option.some.injEq]at hp;subst hp;simp only[ho,Instr.build,Sem.run_bind,nU h1 h2,Result.andThen_ok,underlying,hs,run_program,Sem.run_pure,Gv.run_sizeOf hl,hm];rw[h3];rfl
    ·cases hp
def zRg(l:List Value):Nat→List Value
 | 0=>[]
 | n+1=>l++zRg l n
theorem zHx(l:List Value):∀n,zN B r (reps (l.map ofV) n) (zRg l n)
 | 0=>trivial
 | n+1=>(nR l).app (zHx l n)
theorem zRi(l:List Value):∀n,(zRg l n).length=n*l.length
 | 0=>by simp[zRg]
 | n+1=>by simp only[zRg,List.length_append,zRi l n];rw[Nat.succ_mul];omega
theorem zRh(l:List Value):∀(n j:Nat),j<n*l.length→(zRg l n)[j]?=l[j % l.length]?
 | 0,j,h=>by simp at h
 | n+1,j,h=>by
  simp only[zRg];rcases Nat.lt_or_ge j l.length with hj | hj
  ·rw[List.getElem?_append_left hj,Nat.mod_eq_of_lt hj]
  ·rw[List.getElem?_append_right hj,zRh l n _ (by rw[Nat.succ_mul]at h;omega)]
   rw[←Nat.mod_eq_sub_mod hj]
theorem zWr(z:Array Value)(n:Nat)(hz:0<z.size):(madeCells z (n*z.size)).toList=zRg z.toList n:=by
 apply List.ext_getElem?;intro j;by_cases hj:j<n*z.size
 ·rw[zRh _ _ _ (by simpa using hj)]
  have hm:j % z.size<z.size:=Nat.mod_lt _ hz;simp[madeCells,hj,hm]
 ·rw[List.getElem?_eq_none (by simp[size_madeCells];omega),List.getElem?_eq_none (by rw[zRi];simp;omega)]
theorem qGy(hρ:∀x,Rep B r (ρT x) (ρ x)){t:TypeId}{l c:Operand}(ho:o.op= .makeSlice t l c){z:T×Option TO}(h:qGx P k t (ρT l) (ρT c)=some z):Ans P w ρ o B r k z:=by
 unfold qGx at h;cases he:elT P t with
 | none=>simp[he]at h
 | some e=>
  cases hl:sN (ρT l)with
  | none=>simp[he,hl]at h
  | some nl=>
   cases hc:sN (ρT c)with
   | none=>simp[he,hl,hc]at h
   | some nc=>
    cases hz:zer P e with
    | none=>simp[he,hl,hc,hz]at h
    | some zs=>
     cases hd:ldT P e with
     | none=>simp[he,hl,hc,hz,hd]at h
     | some gs=>
      obtain⟨g,s⟩:=gs;obtain⟨i0,zv,h1,h2,rfl⟩:=mI hz;simp only[he,hl,hc,hz,hd,h1]at h;cases hcond:(Nat.ble nl nc&&Nat.ble nc 1000000)&&(Nat.ble i0.bytes 1000000&&(Nat.beq (ln (zv.cells.toList.map ofV)) s&&Nat.blt 0 s))with
      | false=>simp[hcond]at h
      | true=>
       simp only[hcond,cond_true,Option.some.injEq]at h;subst h;simp only[Bool.and_eq_true,Nat.ble_eq,Nat.blt_eq,qN,List.length_map,Array.length_toList]at hcond;obtain⟨⟨c1,c2⟩,c3,c4,c5⟩:=hcond;have c4:=qB c4;obtain⟨i1,d1,g1,_,g3,_⟩:=gM hd;rw[h1]at g1;cases g1;obtain⟨kl,vl⟩:=vY hl (hρ l);obtain⟨kc,vc⟩:=vY hc (hρ c);have hb:(i0.bytes:Int)*(nc:Int)≤281474976710656:=by
        have:i0.bytes*nc≤1000000*1000000:=Nat.mul_le_mul c3 c2;have h':((i0.bytes*nc:Nat):Int)≤281474976710656:=by omega
        rwa[Int.natCast_mul]at h'
       refine⟨0,.cells (madeCells zv.cells (nc*i0.size)) e (0,0),fun n=> .slice (some ⟨n,0,none⟩) nl nc,fun w'=>?_,rfl,.row ?_,fun b=> .os (qE _ _ _)⟩
       ·have hr:=run_make (P:=P) w' t e i0 zv (vE he) h1 h2 kl kc (nl:Int) (nc:Int) (by omega) (by omega) hb (by omega)
        unfold execOp;simp only[ho,vl,vc,hr,Sem.run_bind,Sem.run_pure,Result.andThen_ok,Int.toNat_natCast]
       ·rw[g3,←c4,zWr _ _ (by omega)]
        exact zHx _ _
theorem zHl(hρ:∀x,Rep B r (ρT x) (ρ x)){t:TypeId}{n:Nat}{ps:Array (Nat×Operand)}(ho:o.op= .buildSlice t n ps){z:T×Option TO}(h:gW P k t n (evP ρT ps)=some z):Ans P w ρ o B r k z:=by
 unfold gW at h;cases he:elT P t with
 | none=>simp[he]at h
 | some e=>
  cases hz:zer P e with
  | none=>simp[he,hz]at h
  | some zs=>
   cases hd:ldT P e with
   | none=>simp[he,hz,hd]at h
   | some gs=>
    obtain⟨g,s⟩:=gs;obtain⟨i0,zv,h1,h2,rfl⟩:=mI hz;simp only[he,hz,hd]at h;cases hcond:Nat.ble (n*s) 16777216&&(Nat.beq (ln (zv.cells.toList.map ofV)) s&&Nat.blt 0 s)with
    | false=>simp[hcond]at h
    | true=>
     simp only[hcond,cond_true]at h;simp only[Bool.and_eq_true,Nat.ble_eq,Nat.blt_eq,qN,List.length_map,Array.length_toList]at hcond;obtain⟨c1,c2,c3⟩:=hcond;have c2:=qB c2;cases hf:zEg (fun i=>some (i*s,s)) (reps (zv.cells.toList.map ofV) n) (evP ρT ps)with
     | none=>simp[hf]at h
     | some us=>
      simp only[hf,Option.some.injEq]at h;subst h;have hm0:zN B r (reps (zv.cells.toList.map ofV) n) (madeCells zv.cells (n*s)).toList:=by
       rw[←c2,zWr _ _ (by omega)];exact zHx _ _
      obtain⟨c',h3,h4⟩:=zLy hρ ps.toList hm0 hf;have hm:(ps.map fun p=>(p.1,ρ p.2)).toList=ps.toList.map fun p=>(p.1,ρ p.2):=by simp
      refine⟨0,.cells c' e (0,0),fun b=> .slice (some ⟨b,0,none⟩) n n,fun w'=>?_,rfl,.row h4,fun b=> .os (qE _ _ _)⟩;have nb:¬n*s>2^24:=by omega
      unfold execOp;simp only[ho,Instr.buildSlice,underlying,vE he,run_program,Sem.run_bind,Sem.run_pure,Result.andThen_ok,Gv.run_sizeOf hd];rw[if_neg nb];by_cases h0:n*s=0
      ·rw[if_pos h0];have hmc:(Array.range (n*s)).map (fun x=>(#[]:Array Value)[x % (#[]:Array Value).size]!)=madeCells zv.cells (n*s):=by rw[h0];simp[madeCells]
       simp only[Sem.run_bind,Sem.run_pure,Result.andThen_ok,hmc,hm,h3];rfl
      ·rw[if_neg h0];have hmc:(Array.range (n*s)).map (fun x=>zv.cells[x % zv.cells.size]!)=madeCells zv.cells (n*s):=rfl;simp only[Sem.run_bind,nU h1 h2,Sem.run_pure,Result.andThen_ok,hmc,hm,h3];rfl
theorem zXj(hH:zIq B r w H)(hρ:∀x,Rep B r (ρT x) (ρ x)){z:T×Option TO}(h:kT P H k ρT o.op=some z):Ans P w ρ o B r k z:=by
 generalize hop:o.op=op at h;cases op<;>simp only[kT]at h<;>try contradiction
 case move x=>exact zZ h ⟨_,zVz (.inl hop) w,hρ x⟩
 case assign x=>exact zZ h ⟨_,zVz (.inr hop) w,hρ x⟩
 case pick c a b=>exact qGz hρ hop h
 case alloc e=>exact zZw hop h
 case box e x=>exact qMr hρ hop h
 case build t ps=>exact zZy hρ hop h
 case buildSlice t n ps=>exact zHl hρ hop h
 case load t a=>exact zQw hH hρ hop h
 case nilCheck x=>exact qMw hρ hop h
 case binOp op t x y t2=>exact qMq (ρT:=fun y=>dn (ρT y)) (fun y=>(hρ y).dn) hop h
 case makeFunc fn first caps=>
  unfold pMkF at h;split at h
  ·rename_i e;obtain rfl:first=#[]:=Array.ext' (by simpa using e)
   exact zZ h (zQc hρ hop)
  ·split at h
   ·rename_i e;obtain rfl:caps=#[]:=Array.ext' (by simpa using e)
    exact zZ h (zMp hρ hop)
   ·cases h
  ·cases h
 case makeSlice t l c=>exact qGy hρ hop h
 case slice t x lo hi mx=>exact qAa (ρT:=fun y=>dn (ρT y)) (fun y=>(hρ y).dn) hop h
 case fieldAddr s x f=>exact zIy hρ hop h
 case field s x f=>exact zZz hρ hop h
 case indexAddr t x i=>exact zQv (ρT:=fun y=>dn (ρT y)) (fun y=>(hρ y).dn) hop h
 case index t x i=>exact qMt (ρT:=fun y=>dn (ρT y)) (fun y=>(hρ y).dn) hop h
 case extract x i=>exact zQu hρ hop h
 case call c=>exact qGt hH (ρT:=fun y=>dn (ρT y)) (fun y=>(hρ y).dn) hop h
 case lookup t m x ok=>exact zUk hH hρ hop h
 case makeMap t rs=>
  cases rs with
  | some q=>simp at h
  | none=>
   simp only[Option.some.injEq]at h;subst h;refine⟨0,.map #[] 0,fun n=> .map (some n),fun w'=>?_,rfl,.map trivial rfl rfl,fun b=> .om (qE _ _ _)⟩;unfold execOp;simp only[hop,Instr.makeMap,Option.map_none,Sem.run_bind,Sem.run_pure,newObj];rfl
end
structure FrT(n:Nat)(a:Act)(L:List T)(D:List Deferred)(B:Bm)(r:Rd):Prop where
 size:a.tmps.size=n
 reps:zN B r L a.tmps.toList
 defers:a.defers=D
section
variable {P:Program}{E:Nat→Prop}{w0:World}{X:Hid}{F:List Nat}{H:List TO}{B B':Bm}{w:World}{Y:Hid}{Mo:List (Nat×Obj)}{o:Oper}{r r':Rd}{n:Nat}{a:Act}{L:List T}{D:List Deferred}{Q:Exit→Act→World→Prop}{K:Act→World→Prop}
theorem FrT.mono(h:FrT n a L D B r)(hB:BLe B B')(hr:Le r r'):FrT n a L D B' r':=⟨h.size,h.reps.mono hB hr,h.defers⟩
theorem FrT.rep(h:FrT n a L D B r)(x:Operand):Rep B r (evO L x) (a.eval x):=by
 cases x with
 | tmp t=>
  have:=h.reps.getD t;simpa[evO,Act.eval]using this
 | const v=>exact zBn v
 | global g=>exact .u
 | func f=>exact Rep.mkFn (vs:=[]) trivial
theorem FrT.put(h:FrT n a L D B r)(d:Option Nat){t:T}{v:Value}(k:Rep B r t v):FrT n (a.put d v) (dst d t L) D B r:=by
 cases d with
 | none=>exact h
 | some d=>
  refine⟨by simpa[Act.put]using h.size,?_,h.defers⟩
  have:=h.reps.put d k;simpa[Act.put,dst]using this
def tK(P:Program)(E:Nat→Prop)(w0:World)(X:Hid)(F:List Nat)(n:Nat)(D:List Deferred)(H:List TO)(L:List T)(B:Bm)(r:Rd)(K:Act→World→Prop):Prop:=
 ∀a' w' B' Y' Mo',Wd P E w0 X F H B' w' Y' Mo'→FrT n a' L D B' (rd w' Y')→BLe B B'→Le r (rd w' Y')→K a' w'
theorem qMi(hW:Wd P E w0 X F H B w Y Mo)(hF:FrT n a L D B (rd w Y)){z:T×Option TO}{s:S}(h:kT P H (ln H) (evO L) o.op=some z)(hs:zPg o.dst L H z=some s)(hk:tK P E w0 X F n D s.H s.L B (rd w Y) K):o.wp P a w K Q:=by
 have hA:=zXj (ρ:=a.eval) hW.hp hF.rep h;rw[qN]at hA;obtain⟨t,ob⟩:=z;unfold Oper.wp;cases ob with
 | none=>
  obtain⟨v,hr,hR⟩:=hA;rw[hr];simp only[zPg,Option.some.injEq]at hs;subst hs;exact hk _ _ _ _ _ hW (hF.put o.dst hR) (BLe.refl B) (Le.refl _)
 | some ob=>
  obtain⟨C,obj,vf,hr,hl,hR,hv⟩:=hA;rw[hr];simp only[zPg,Option.some.injEq]at hs;subst hs;obtain⟨hW',hB⟩:=hW.alloc hl hR;have hle:=Le.hide_new (w:=w) (Y:=Y) obj;exact hk _ _ _ _ _ hW' ((hF.mono hB hle).put o.dst ((hv _).mono (BLe.refl _) hle)) hB hle
theorem vN:∀{ts:List T}{vs:List Value}{cs:List T}{c:Array Value}(o:Nat),zN B r ts vs→zN B r cs c.toList→zN B r (jF cs o ts) (jQ c o vs).toList
 | [],[],_,_,_,_,h=>h
 | t::ts,v::vs,cs,c,o,k,h=>by
  simp only[jF,jQ];refine vN (o+1) k.2 ?_;have:=h.put o k.1;simpa using this
 | [],_::_,_,_,_,k,_=>k.elim
 | _::_,[],_,_,_,k,_=>k.elim
theorem pU(m:Nat):∀(vs:List Value)(c:Array Value)(o:Nat),(jQ c o vs).toList.take m=(jQ (c.toList.take m).toArray o vs).toList
 | [],c,o=>by simp[jQ]
 | v::vs,c,o=>by
  simp only[jQ];rw[pU m vs];congr 2;simp[List.take_set]
theorem qVg{t:T}{v:Value}(h:one t=true)(hR:Rep B r t v):v.oneCell'=true:=by
 cases hR<;>first | rfl | (simp[one]at h;done) | (rename_i hls;obtain⟨_,_,e,_⟩:=hls;cases e;rfl) | skip
 rename_i hsc;cases v<;>first | rfl | (simp[sc]at hsc)
theorem zFo:∀{ts:List T}{vs:List Value},xV ts=true→zN B r ts vs→∀v∈vs,v.oneCell'=true
 | [],[],_,_,v,h=>by cases h
 | t::ts,u::vs,h,k,v,hv=>by
  simp only[xV,Bool.and_eq_true]at h;rcases List.mem_cons.1 hv with rfl | hv
  ·exact qVg h.1 k.1
  ·exact zFo h.2 k.2 v hv
 | [],_::_,_,k,_,_=>k.elim
 | _::_,[],_,k,_,_=>k.elim
theorem lD:∀(ts cs:List T)(o:Nat),(jF cs o ts).length=cs.length
 | [],_,_=>rfl
 | t::ts,cs,o=>by rw[jF,lD ts,jT];simp
theorem qBy{t:T}(h:xV (cellsOf t)=true):t≠.u:=fun e=>by subst e;simp[cellsOf,xV,one]at h
theorem qVk{t:TypeId}{xa xv:Operand}(hW:Wd P E w0 X F H B w Y Mo)(hF:FrT n a L D B (rd w Y))(ho:o.op= .store t xa xv)(hd:o.dst=none){H':List TO}(h:qNq P H t (evO L xa) (evO L xv)=some H')(hk:tK P E w0 X F n D H' L B (rd w Y) K):o.wp P a w K Q:=by
 have ha:=hF.rep xa;have hv:=hF.rep xv;unfold qNq at h;split at h
 ·rename_i g m i off hl e;rw[e]at ha;cases hc:xV (cellsOf (evO L xv))&&Nat.beq (ln (cellsOf (evO L xv))) m with
  | false=>simp[hc]at h
  | true=>
   simp only[hc,cond_true]at h;simp only[Bool.and_eq_true,qN]at hc;have hcs:=hv.cells (qBy hc.1);have hm:(a.eval xv).cells.size=m:=by rw[←qB hc.2,hcs.length];simp
   obtain⟨b,C,hp,hB⟩:=ha.opI;have hone:=zFo hc.1 hcs;unfold qAe at h;rw[qP,List.getD_eq_getElem?_getD]at h;have fin:∀(o' o2:TO)(c:Array Value)(ty:TypeId),H[i]?=some o'→jN o'=true→(b,Obj.cells c ty (0,0))∈Mo→H'=H.set i o2→jN o2=true→off+(cellsOf (evO L xv)).length≤c.size→
     (∀(w':World),Le (rd w Y) (rd w' Y)→RO P B (rd w' Y) C o2 (.cells (jQ c off (a.eval xv).cells.toList) ty (0,0)))→o.wp P a w K Q:=fun o' o2 c ty hi hl hmem hH hl2 hsz hR=>by
    subst hH;obtain⟨q,hq⟩:=List.getElem?_of_mem hmem;have hql:q<Mo.length:=(List.getElem?_eq_some_iff.1 hq).1;have hq2:(Mo++jK F)[q]?=some (b,.cells c ty (0,0)):=by rw[List.getElem?_append_left hql];exact hq
    obtain⟨w',hr,e1,e2,e3,e4,e5,e6⟩:=kE P (a.eval xv).cells.toList c w off 0 (hW.heap hmem) hone (by rw[hcs.length]at hsz;simpa using hsz)
    rw[Nat.add_zero]at e5;have hS:=hW.st.set q _ hq2 (Nat.le_of_eq e4.symm) e1 e2 e3 e5 (fun k _ hk=>e6 k hk);rw[List.set_append_left _ _ hql]at hS;have hle:=hW.st.le_set (w':=w') q hq2 (fun k _ hk=>e6 k hk);unfold Oper.wp;have hx:(execOp a.eval o).run P w= .ok .skip w':=by
     unfold execOp;simp only[ho,hp,Instr.storeAt,Instr.sureAddr,storeVar,Sem.run_bind,Sem.run_pure,Result.andThen_ok,Gv.run_sizeOf (by assumption),hm,ne_eq,not_true_eq_false,if_false,hr]
    rw[hx];show K (a.put o.dst undef) w';rw[hd];exact hk _ _ _ _ _ (hW.set hi hl hB hq hS hle (fun cs e=>by rw[e]at hl2;cases hl2) (fun _=>hR w' hle)) (hF.mono (BLe.refl B) hle) (BLe.refl B) hle
   cases hi:H[i]? with
   | none=>rw[hi]at h;simp at h
   | some x=>
    rw[hi]at h;cases x with
    | row cs ty=>
     simp only[Option.getD_some]at h;cases hz:Nat.ble (off+ln (cellsOf (evO L xv))) (ln cs)with
     | false=>simp[hz]at h
     | true=>
      simp only[hz,cond_true,Option.some.injEq,jT]at h;rw[Nat.ble_eq,qN,qN]at hz;obtain⟨b',C',ob,g1,g2,g3⟩:=hW.ob i _ hi rfl;rw[hB]at g1;cases g1;cases g3 with
      | @row _ _ c hR=>
       exact fin _ (.row (jF cs off (cellsOf (evO L xv))) ty) c ty hi rfl g2 h.symm rfl (by rw[hR.length]at hz;simpa using hz) fun w' hle=> .row (vN off (hcs.mono (BLe.refl B) hle) (hR.mono (BLe.refl B) hle))
    | gro cs ty=>
     simp only[Option.getD_some]at h;cases hz:Nat.ble (off+ln (cellsOf (evO L xv))) (ln cs.list)with
     | false=>simp[hz]at h
     | true=>
      simp only[hz,cond_true,Option.some.injEq,jT]at h;rw[Nat.ble_eq,qN,qN]at hz;obtain⟨b',C',ob,g1,g2,g3⟩:=hW.ob i _ hi rfl;rw[hB]at g1;cases g1;cases g3 with
      | @gro _ _ c i0 q1 q2 q3 hR=>
       have hlen:cs.list.length≤c.size:=by
        have:=hR.length;simp at this;omega
       refine fin _ (.gro (.l (jF cs.list off (cellsOf (evO L xv)))) ty) c ty hi rfl g2 h.symm rfl (by omega) fun w' hle=> .gro q1 (by rw[pX];exact q2) q3 ?_
       show zN B _ (jF cs.list off (cellsOf (evO L xv))) (List.take (jF cs.list off (cellsOf (evO L xv))).length _);rw[lD,pU];exact vN off (hcs.mono (BLe.refl B) hle) (by simpa using hR.mono (BLe.refl B) hle)
    | _=>simp at h
 ·cases h
theorem Wd.sto{i off b C:Nat}{ts:List T}{vs:List Value}{H':List TO}(hW:Wd P E w0 X F H B w Y Mo)(hB:B i=some (b,C))(h:qAe H i off ts=some H')(hcs:zN B (rd w Y) ts vs)(h1:xV ts=true):∃w' Mo',(storeCells ⟨b,off,none⟩ vs).run P w= .ok () w'∧Wd P E w0 X F H' B w' Y Mo'∧Le (rd w Y) (rd w' Y):=by
 have hone:=zFo h1 hcs;unfold qAe at h;rw[qP,List.getD_eq_getElem?_getD]at h;have fin:∀(o' o2:TO)(c:Array Value)(ty:TypeId),H[i]?=some o'→jN o'=true→(b,Obj.cells c ty (0,0))∈Mo→H'=H.set i o2→jN o2=true→off+ts.length≤c.size→
   (∀(w':World),Le (rd w Y) (rd w' Y)→RO P B (rd w' Y) C o2 (.cells (jQ c off vs) ty (0,0)))→∃w' Mo',(storeCells ⟨b,off,none⟩ vs).run P w= .ok () w'∧Wd P E w0 X F H' B w' Y Mo'∧Le (rd w Y) (rd w' Y):=fun o' o2 c ty hi hl hmem hH hl2 hsz hR=>by
  subst hH;obtain⟨q,hq⟩:=List.getElem?_of_mem hmem;have hql:q<Mo.length:=(List.getElem?_eq_some_iff.1 hq).1;have hq2:(Mo++jK F)[q]?=some (b,.cells c ty (0,0)):=by rw[List.getElem?_append_left hql];exact hq
  obtain⟨w',hr,e1,e2,e3,e4,e5,e6⟩:=kE P vs c w off 0 (hW.heap hmem) hone (by rw[hcs.length]at hsz;simpa using hsz)
  rw[Nat.add_zero]at e5;have hS:=hW.st.set q _ hq2 (Nat.le_of_eq e4.symm) e1 e2 e3 e5 (fun k _ hk=>e6 k hk);rw[List.set_append_left _ _ hql]at hS;have hle:=hW.st.le_set (w':=w') q hq2 (fun k _ hk=>e6 k hk);exact⟨w',_,hr,hW.set hi hl hB hq hS hle (fun cs e=>by rw[e]at hl2;cases hl2) (fun _=>hR w' hle),hle⟩
 cases hi:H[i]? with
 | none=>rw[hi]at h;simp at h
 | some x=>
  rw[hi]at h;cases x with
  | row cs ty=>
   simp only[Option.getD_some]at h;cases hz:Nat.ble (off+ln ts) (ln cs)with
   | false=>simp[hz]at h
   | true=>
    simp only[hz,cond_true,Option.some.injEq,jT]at h;rw[Nat.ble_eq,qN,qN]at hz;obtain⟨b',C',ob,g1,g2,g3⟩:=hW.ob i _ hi rfl;rw[hB]at g1;cases g1;cases g3 with
    | @row _ _ c hR=>
     exact fin _ (.row (jF cs off ts) ty) c ty hi rfl g2 h.symm rfl (by rw[hR.length]at hz;simpa using hz) fun w' hle=> .row (vN off (hcs.mono (BLe.refl B) hle) (hR.mono (BLe.refl B) hle))
  | gro cs ty=>
   simp only[Option.getD_some]at h;cases hz:Nat.ble (off+ln ts) (ln cs.list)with
   | false=>simp[hz]at h
   | true=>
    simp only[hz,cond_true,Option.some.injEq,jT]at h;rw[Nat.ble_eq,qN,qN]at hz;obtain⟨b',C',ob,g1,g2,g3⟩:=hW.ob i _ hi rfl;rw[hB]at g1;cases g1;cases g3 with
    | @gro _ _ c i0 q1 q2 q3 hR=>
     have hlen:cs.list.length≤c.size:=by
      have:=hR.length;simp at this;omega
     refine fin _ (.gro (.l (jF cs.list off ts)) ty) c ty hi rfl g2 h.symm rfl (by omega) fun w' hle=> .gro q1 (by rw[pX];exact q2) q3 ?_
     show zN B _ (jF cs.list off ts) (List.take (jF cs.list off ts).length _);rw[lD,pU];exact vN off (hcs.mono (BLe.refl B) hle) (by simpa using hR.mono (BLe.refl B) hle)
  | _=>simp at h
theorem lG{b:Nat}{es:Array MapEntry}{clk:Nat}{ob:Obj}(h:w.heap[b]?=some (.map es clk)):(setObj b ob).run P w= .ok () (w.putObj b ob):=by
 simp[setObj,Sem.run,h,World.putObj]
theorem kX.app{l:List (Value×T)}{es:List MapEntry}{e:Value×T}{f:MapEntry}(h:kX B r l es)(h1:f.key=e.1)(h2:Rep B r e.2 f.val):kX B r (l++[e]) (es++[f]):=by
 induction l generalizing es with
 | nil=>cases es with
  | nil=>exact⟨h1,h2,trivial⟩
  | cons=>exact h.elim
 | cons x l ih=>cases es with
  | nil=>exact h.elim
  | cons y es=>exact⟨h.1,h.2.1,ih h.2.2⟩
theorem kX.put:∀{l:List (Value×T)}{es:List MapEntry}(j:Nat){e:Value×T}{v:Value},kX B r l es→Rep B r e.2 v→kX B r (Ev.put e l j) (es.modify j fun f=>{f with key:=e.1,val:=v})
 | [],[],_,_,_,_,_=>by simp[qNd,kX]
 | x::l,y::es,0,e,v,h,k=>by simpa[zRb]using⟨rfl,k,h.2.2⟩
 | x::l,y::es,j+1,e,v,h,k=>by simpa[zHu]using⟨h.1,h.2.1,kX.put j h.2.2 k⟩
 | [],_::_,_,_,_,h,_=>h.elim
 | _::_,[],_,_,_,h,_=>h.elim
theorem qVl{t:TypeId}{xm xk xv:Operand}(hW:Wd P E w0 X F H B w Y Mo)(hF:FrT n a L D B (rd w Y))(ho:o.op= .mapUpdate t xm xk xv)(hd:o.dst=none){H':List TO}(h:qOb P H t (evO L xm) (evO L xk) (evO L xv)=some H')(hk:tK P E w0 X F n D H' L B (rd w Y) K):o.wp P a w K Q:=by
 have hm:=hF.rep xm;have hv:=hF.rep xv;unfold qOb at h;split at h
 ·rename_i i em;rw[em]at hm;split at h
  ·rename_i l hn;split at h
   ·rename_i kt vt kv ht hs;have hu:=nM ht;have hx:=zNj hs (hF.rep xk);cases hup:qXr P kt kv (evO L xv) l with
    | none=>simp[hup]at h
    | some l2=>
     simp only[hup,Option.some.injEq,jT]at h;subst h;rw[qP,List.getD_eq_getElem?_getD]at hn;have hi:H[i]?=some (.map l):=by
      cases hi:H[i]? with
      | none=>rw[hi]at hn;cases hn
      | some x=>rw[hi]at hn;simp at hn;rw[hn]
     obtain⟨b,C,hmv,hB⟩:=hm.omI;obtain⟨b',C',ob,g1,g2,g3⟩:=hW.ob i _ hi rfl;rw[hB]at g1;cases g1;cases g3 with
     | @map _ es clk hme hclk hborn=>
      have hb:=hW.heap g2;obtain⟨q,hq⟩:=List.getElem?_of_mem g2;have hql:q<Mo.length:=(List.getElem?_eq_some_iff.1 hq).1;have hq2:(Mo++jK F)[q]?=some (b,.map es clk):=by rw[List.getElem?_append_left hql];exact hq
      have fin:∀(es2:Array MapEntry)(clk2:Nat),kX B (rd w Y) l2 es2.toList→clk2=es2.size→es2.toList.map (·.born)=List.range es2.size→(Instr.mapUpdate t (.map (some b)) kv (a.eval xv)).run P w= .ok () (w.putObj b (.map es2 clk2))→o.wp P a w K Q:=fun es2 clk2 hR J2 hb2 hrun=>by
       obtain⟨hS,hle⟩:=hW.st.putObj (o':= .map es2 clk2) q hq2;rw[List.set_append_left _ _ hql]at hS;have hW2:=hW.set hi rfl hB hq hS hle (o':= .map l2) (fun cs e=>by cases e) (fun _=> .map (hR.mono (BLe.refl B) hle) J2 hb2)
       have hx2:(execOp a.eval o).run P w= .ok .skip (w.putObj b (.map es2 clk2)):=by
        unfold execOp;simp only[ho,hmv,hx,Sem.run_bind,hrun,Result.andThen_ok,Sem.run_pure]
       unfold Oper.wp;rw[hx2];show K (a.put o.dst undef) _;rw[hd];exact hk _ _ _ _ _ hW2 (hF.mono (BLe.refl B) hle) (BLe.refl B) hle
      unfold qXr at hup;cases hck:kOk P false kt kv with
      | false=>simp[hck]at hup
      | true=>
       simp only[hck,cond_true]at hup;have hck:=zPx hck w;cases hf:zKd P kt kv l with
       | none=>simp[hf]at hup
       | some y=>
        simp only[hf]at hup;rcases zPw (w:=w) hme hf with⟨rfl,hr⟩ | ⟨j,e',f',rfl,h2,h3,hr,h5,h6⟩
        ·simp only[Option.some.injEq]at hup;subst hup;refine fin (es.push {key:=kv,val:=a.eval xv,born:=clk}) (clk+1) (by simpa using hme.app (e:=(kv,evO L xv)) (f:={key:=kv,val:=a.eval xv,born:=clk}) rfl hv) (by simp[hclk]) (by
          simp only[Array.toList_push,List.map_append,hborn,List.map_cons,List.map_nil,Array.size_push,List.range_succ,hclk]) ?_
         unfold Instr.mapUpdate;simp only[underlying,hu,Sem.run_bind,Sem.run_pure,run_program,yL hb,Result.andThen_ok,hck,hr,lG hb]
        ·simp only[h2]at hup;cases hsb:Instr.sameBits 10000 e'.1 kv with
         | false=>simp[hsb]at hup
         | true=>
          simp only[hsb,cond_true,Option.some.injEq]at hup;subst hup;refine fin (es.modify j fun f=>{f with key:=kv,val:=a.eval xv}) clk (by
           have:=hme.put j (e:=(kv,evO L xv)) hv;simpa[Array.toList_modify]using this) (by simpa using hclk) (by
           have hmb:∀(l:List MapEntry)(j:Nat)(kv v:Value),(l.modify j fun f=>{f with key:=kv,val:=v}).map (·.born)=l.map (·.born):=fun l=>by
            induction l with
            | nil=>intro j kv v;simp
            | cons x l ih=>
             intro j kv v;cases j with
             | zero=>simp
             | succ j=>simp[ih]
           rw[Array.toList_modify,hmb,hborn];simp) ?_
          have hkey:((es[j]?).map (·.key)).getD kv=e'.1:=by
           have:es[j]?=some f':=by simpa using h3
           rw[this];simp[h5]
          unfold Instr.mapUpdate;simp only[underlying,hu,Sem.run_bind,Sem.run_pure,run_program,yL hb,Result.andThen_ok,hck,hr,hkey,Instr.keyThatStays,hsb,if_true,lG hb]
   ·cases h
  ·rename_i d hn;split at h
   ·rename_i kt vt ht;have hu:=nM ht;cases hup:qXq P kt d (evO L xk) (evO L xv)with
    | none=>simp[hup]at h
    | some d2=>
     simp only[hup,Option.some.injEq,jT]at h;subst h;rw[qP,List.getD_eq_getElem?_getD]at hn;have hi:H[i]?=some (.mapd d):=by
      cases hi:H[i]? with
      | none=>rw[hi]at hn;cases hn
      | some x=>rw[hi]at hn;simp at hn;rw[hn]
     obtain⟨b,C,hmv,hB⟩:=hm.omI;obtain⟨b',C',ob,g1,g2,g3⟩:=hW.ob i _ hi rfl;rw[hB]at g1;cases g1;cases g3 with
     | @mapd _ es clk hme hclk hborn=>
      have hb:=hW.heap g2;obtain⟨q,hq⟩:=List.getElem?_of_mem g2;have hql:q<Mo.length:=(List.getElem?_eq_some_iff.1 hq).1;have hq2:(Mo++jK F)[q]?=some (b,.map es clk):=by rw[List.getElem?_append_left hql];exact hq
      unfold qXq at hup;split at hup
      ·rename_i key y hkey hy;cases hko:vQ P kt d.K with
       | false=>simp[hko]at hup
       | true=>
        simp only[hko,cond_true,Option.some.injEq]at hup;subst hup;have hx:=zWk hko (zAr hkey (hF.rep xk));have hyr:=zAr hy hv;have fin:∀(es2:Array MapEntry)(clk2:Nat),kX B (rd w Y) (MD.ents ⟨d.g,d.K,d.V,bI d.K key y d.l⟩) es2.toList→clk2=es2.size→es2.toList.map (·.born)=List.range es2.size→(Instr.mapUpdate t (.map (some b)) (xJ d.K key) (a.eval xv)).run P w= .ok () (w.putObj b (.map es2 clk2))→o.wp P a w K Q:=fun es2 clk2 hR J2 hb2 hrun=>by
         obtain⟨hS,hle⟩:=hW.st.putObj (o':= .map es2 clk2) q hq2;rw[List.set_append_left _ _ hql]at hS;have hW2:=hW.set hi rfl hB hq hS hle (o':= .mapd ⟨d.g,d.K,d.V,bI d.K key y d.l⟩) (fun cs e=>by cases e) (fun _=> .mapd (hR.mono (BLe.refl B) hle) J2 hb2)
         have hx2:(execOp a.eval o).run P w= .ok .skip (w.putObj b (.map es2 clk2)):=by
          unfold execOp;simp only[ho,hmv,hx,Sem.run_bind,hrun,Result.andThen_ok,Sem.run_pure]
         unfold Oper.wp;rw[hx2];show K (a.put o.dst undef) _;rw[hd];exact hk _ _ _ _ _ hW2 (hF.mono (BLe.refl B) hle) (BLe.refl B) hle
        obtain⟨q',hr,hf⟩:=zPi (w:=w) hko key d.l es.toList (zCu hme);rcases hf with⟨rfl,_,_,h4⟩ | ⟨j,e,f,rfl,h2,h3,h4,h5,h6,_,_,h9⟩
        ·refine fin (es.push {key:=xJ d.K key,val:=a.eval xv,born:=clk}) (clk+1) ?_ (by simp[hclk]) (by
          simp only[Array.toList_push,List.map_append,hborn,List.map_cons,List.map_nil,Array.size_push,List.range_succ,hclk]) ?_
         ·have:=hme.app (e:=(xJ d.K key,unT d.g d.V y)) (f:={key:=xJ d.K key,val:=a.eval xv,born:=clk}) rfl hyr;simpa[MD.ents,h4]using this
         ·unfold Instr.mapUpdate;simp only[underlying,hu,Sem.run_bind,Sem.run_pure,run_program,yL hb,Result.andThen_ok,dQ hko,hr,lG hb]
        ·obtain rfl:=qUe hko h5;have hsb:=qEc hko e.1;refine fin (es.modify j fun f=>{f with key:=xJ d.K e.1,val:=a.eval xv}) clk ?_ (by simpa using hclk) (by
          have hmb:∀(l:List MapEntry)(j:Nat)(kv v:Value),(l.modify j fun f=>{f with key:=kv,val:=v}).map (·.born)=l.map (·.born):=fun l=>by
           induction l with
           | nil=>intro j kv v;simp
           | cons x l ih=>
            intro j kv v;cases j with
            | zero=>simp
            | succ j=>simp[ih]
          rw[Array.toList_modify,hmb,hborn];simp) ?_
         ·have:=hme.put j (e:=(xJ d.K e.1,unT d.g d.V y)) hyr;rw[jT]at this;simpa[MD.ents,h9,List.map_set,Array.toList_modify]using this
         ·have hky:((es[j]?).map (·.key)).getD (xJ d.K e.1)=xJ d.K e.1:=by
           have:es[j]?=some f:=by simpa using h3
           rw[this];simp[h4]
          unfold Instr.mapUpdate;simp only[underlying,hu,Sem.run_bind,Sem.run_pure,run_program,yL hb,Result.andThen_ok,dQ hko,hr,hky,Instr.keyThatStays,hsb,if_true,lG hb,Nat.zero_add]
      ·cases hup
   ·cases h
  ·cases h
 ·cases h
end
section
variable {P:Program}{E:Nat→Prop}{w0:World}{X:Hid}{F:List Nat}{H:List TO}{B B':Bm}{w w':World}{Y Y':Hid}{Mo:List (Nat×Obj)}{o:Oper}{r r':Rd}{n:Nat}{a:Act}{L:List T}{D:List Deferred}{Q:Exit→Act→World→Prop}{K:Act→World→Prop}
theorem Wd.move(h:Wd P E w0 X F H B w Y Mo){i:Nat}{x:TO}{p:Nat×Nat}(hi:H[i]?=some x)(hl:jN x=true)(hp:B i=some p):Wd P E w0 X F (H.set i .gone++[x]) (tX B H.length p) w Y Mo∧BLe B (tX B H.length p):=by
 have hB:BLe B (tX B H.length p):=BLe.set (h.nn _ (Nat.le_refl _));have hlt:i<H.length:=(List.getElem?_eq_some_iff.1 hi).1;have hget:∀(j:Nat)(y:TO),(H.set i .gone++[x])[j]?=some y→y≠.gone→(H[j]?=some y∧j≠H.length∧j≠i)∨(j=H.length∧y=x):=fun j y hy hne=>by
  rcases Nat.lt_trichotomy j H.length with hlt | rfl | hlt
  ·rw[List.getElem?_append_left (by simpa using hlt)]at hy
   by_cases e:i=j
   ·subst e;rw[List.getElem?_set_self hlt]at hy;cases hy;exact absurd rfl hne
   ·rw[List.getElem?_set_ne e]at hy;exact .inl ⟨hy,Nat.ne_of_lt hlt,fun e'=>e e'.symm⟩
  ·rw[List.getElem?_append_right (by simp)]at hy;simp at hy;exact .inr ⟨rfl,hy.symm⟩
  ·rw[List.getElem?_eq_none (by simp;omega)]at hy;cases hy
 have ng:∀{y:TO},jN y=true→y≠.gone:=fun h e=>by subst e;cases h
 refine⟨⟨h.st,fun j y hy hly=>?_,fun j cs hy=>?_,fun j hj=>?_,fun j1 j2 o1 o2 p1 p2 h1 l1 h2 l2 hp1 hp2 e=>?_,h.bN,h.iv⟩,hB⟩
 ·rcases hget j y hy (ng hly)with⟨hy,_,_⟩ | ⟨rfl,rfl⟩
  ·obtain⟨b,C,ob,g1,g2,g3⟩:=h.ob j y hy hly;exact⟨b,C,ob,hB _ _ g1,g2,g3.mono hB (Le.refl _)⟩
  ·obtain⟨b,C,ob,g1,g2,g3⟩:=h.ob i _ hi hl;rw[hp]at g1;cases g1;exact⟨b,C,ob,qE _ _ _,g2,g3.mono hB (Le.refl _)⟩
 ·rcases hget j _ hy (by simp)with⟨hy,_,_⟩ | ⟨rfl,e⟩
  ·obtain⟨b,C,g1,g2⟩:=h.fz j cs hy;exact⟨b,C,hB _ _ g1,g2.mono hB (Le.refl _)⟩
  ·subst e;cases hl
 ·simp at hj;rw[jJ _ _ (by omega)]
  exact h.nn j (by omega)
 ·rcases hget j1 _ h1 (ng l1)with⟨k1,n1,m1⟩ | ⟨rfl,rfl⟩<;>rcases hget j2 _ h2 (ng l2)with⟨k2,n2,m2⟩ | ⟨rfl,rfl⟩
  ·rw[jJ _ _ n1]at hp1;rw[jJ _ _ n2]at hp2;exact h.inj _ _ _ _ _ _ k1 l1 k2 l2 hp1 hp2 e
  ·rw[jJ _ _ n1]at hp1;rw[qE]at hp2;cases hp2;exact absurd (h.inj _ _ _ _ _ _ k1 l1 hi hl hp1 hp e) m1
  ·rw[jJ _ _ n2]at hp2;rw[qE]at hp1;cases hp1;exact absurd (h.inj _ _ _ _ _ _ k2 l2 hi hl hp2 hp e.symm) m2
  ·rfl
theorem qBh{N b:Nat}(h:N≤apM b)(h0:0<N):(N+N / 4+192)*b≤281474976710656∧N≤281474976710656:=by
 unfold apM at h;have h1:N*5≤(281474976710656 / b-192)*4:=by
  have:=Nat.div_mul_le_self ((281474976710656 / b-192)*4) 5;omega
 have h2:N+N / 4+192≤281474976710656 / b:=by omega
 have h3:=Nat.mul_le_mul_right b h2;have h4:=Nat.div_mul_le_self 281474976710656 b;have h5:=Nat.div_le_self 281474976710656 b;exact⟨by omega,by omega⟩
theorem zSi{e s N:Nat}(h:zAn P e s N=true){g:Bool}(hd:ldT P e=some (g,s)):∃i z,P.info? e=some i∧i.zero=some z∧i.size=s∧z.cells.size=s∧N≤apM i.bytes∧0<s:=by
 unfold zAn at h;split at h
 ·rename_i i z hi hz;obtain⟨i',v,h1,h2,rfl⟩:=mI hz;rw[hi]at h1;cases h1;simp only[Bool.and_eq_true,Nat.ble_eq,Nat.blt_eq,qN,List.length_map,Array.length_toList]at h;obtain⟨i1,d1,g1,_,g3,_⟩:=gM hd;rw[hi]at g1;cases g1;exact⟨i,v,hi,h2,g3,qB h.1,h.2.1,h.2.2⟩
 ·cases h
theorem qTr{e:TypeId}{i0:TypeInfo}{z:Value}{s C N:Nat}{us:List T}{olds news:List Value}{na nb:Nat}(hi:P.info? e=some i0)(hs:i0.size=s)(hz:z.cells.size=s)(hR:zN B r us (olds++news))(h1:olds.length=na*s)(h2:news.length=nb*s)(hN:na+nb=N)(hC:N≤C)(hm:C≤maxLen):
  RO P B r C (.gro (.l us) e) (.cells (olds.toArray++news.toArray++Builtin.zeroCells z.cells (C-N)) e (0,0)):=by
 subst hN;refine .gro hi ?_ hm ?_
 ·rw[qDp z s hz olds news na nb C h1 h2 hC,hs]
 ·simp only[Array.toList_append,List.append_assoc];show zN B r us (List.take us.length _);rw[←List.append_assoc,hR.length];have:olds++news=(olds++news):=rfl;rw[List.take_left];exact hR
theorem gJ{c:Call}{x y:Operand}{t:TypeId}(ho:o.op= .call c)(hc:c.callee= .builtin .append)(hx:c.args=#[x,y])(ht:c.argTypes=#[t,t]){v:Value}(hr:(Builtin.append_ #[t,t] o.type #[a.eval x,a.eval y]).run P w= .ok v w'):(execOp a.eval o).run P w= .ok (.value v) w':=by
 unfold execOp;simp only[ho,resolve,hc,hx,ht,invoke,builtin,Sem.run_bind,Sem.run_pure,Result.andThen_ok,List.map_toArray,List.map_cons,List.map_nil,hr]
theorem jV(g:Tg)(A:Ty):∀l:List A.den,(flatR g A l).length=l.length*A.size
 | []=>by simp[flatR]
 | x::l=>by rw[flatR,List.length_append,jB,jV g A l,List.length_cons,Nat.succ_mul]
theorem zOn{c:Cs}{b:List T}{vs:List Value}(h:zN B r (c.list++b) vs):zN B r (c.app b).list vs∧(c.app b).list.length=(c.list++b).length:=by
 cases c with
 | l cs=>exact⟨h,rfl⟩
 | d g A x=>
  cases hy:nG g A b with
  | some y=>
   have e:(Cs.d g A x).app b= .d g A (y::x):=by simp only[Cs.app,hy]
   rw[e];have h1:zN B r (flatR g A x) (vs.take (flatR g A x).length)∧zN B r b (vs.drop (flatR g A x).length):=zN.split h;obtain⟨h2,h3⟩:=lV A hy h1.2;refine⟨?_,?_⟩
   ·show zN B r (flatR g A x++cellsD g A y) vs;have:=h1.1.app h2;rwa[List.take_append_drop]at this
   ·show(flatR g A x++cellsD g A y).length=(flatR g A x++b).length;rw[List.length_append,List.length_append,jB,h3]
  | none=>
   have e:(Cs.d g A x).app b= .l (flatR g A x++b):=by simp only[Cs.app,hy]
   rw[e];exact⟨h,rfl⟩
theorem zCv(g:Tg)(A:Ty)(x:List A.den):∀l:List A.den,flatR g A (l.reverse++x)=flatR g A x++kR g A l:=by
 intro l;induction l generalizing x with
 | nil=>simp[kR]
 | cons a l ih=>
  rw[List.reverse_cons,List.append_assoc,ih,kR];show flatR g A x++cellsD g A a++kR g A l=_;rw[List.append_assoc]
theorem dK(g:Tg)(A:Ty)(l:List A.den):flatR g A l.reverse=kR g A l:=by
 have:=zCv g A [] l;simpa[flatR]using this
theorem dC{g g':Tg}(h:g'.le g=true):∀(A:Ty)(x:A.den){vs:List Value},zN B r (cellsD g A x) vs→zN B r (cellsD g' A x) vs
 | .lim,_,_,h=>h
 | .int _,_,_,h=>h
 | .bool,_,_,h=>h
 | .str,_,_,h=>h
 | .list _,_,[v],hR=>by
  refine⟨?_,trivial⟩;have h1:=hR.1;cases h1 with
  | ls h1=>exact .ls (qA.mono (Le.refl _) (fun b k=>k.le h) _ _ _ h1)
 | .list _,_,[],h=>h.elim
 | .list _,_,_::_::_,h=>h.2.elim
 | .prod A C,x,vs,hR=>by
  have hs:=zN.split (ts:=cellsD g A x.1) (us:=cellsD g C x.2) hR;have:=(dC h A _ hs.1).app (dC h C _ hs.2);rwa[List.take_append_drop]at this
theorem zGl{g g':Tg}(h:g'.le g=true)(A:Ty):∀(l:List A.den){vs:List Value},zN B r (kR g A l) vs→zN B r (kR g' A l) vs
 | [],_,h=>h
 | x::l,vs,hR=>by
  have hs:=zN.split (ts:=cellsD g A x) (us:=kR g A l) hR;have:=(dC h A _ hs.1).app (zGl h A l hs.2);rwa[List.take_append_drop]at this
theorem qBi{c:Cs}{y:T}{b:List T}{s:Nat}{vs:List Value}(hb:qC H s y=some b)(h:zN B r (c.list++b) vs):zN B r (c.apY y b).list vs∧(c.apY y b).list.length=(c.list++b).length:=by
 unfold Cs.apY;split
 ·rename_i g A l;simp only[qC]at hb;cases hs:Nat.beq s A.size with
  | false=>simp[hs]at hb
  | true=>
   simp only[hs,cond_true,Option.some.injEq]at hb;subst hb;unfold Cs.apL;split
   ·show zN B r (flatR g A l.reverse) vs∧_;rw[dK];refine⟨h,?_⟩;show(flatR g A l.reverse).length=_;rw[dK];rfl
   ·exact⟨h,rfl⟩
   ·rename_i g' A' x;split
    ·rename_i l' hl';obtain⟨rfl,he⟩:=lW hl';obtain rfl:=eq_of_heq he;cases hg:g'.le g with
     | false=>exact⟨h,rfl⟩
     | true=>
      rw[cond_true];have hs:=zN.split (ts:=flatR g' A x) (us:=kR g A l) h;refine⟨?_,?_⟩
      ·show zN B r (flatR g' A (l.reverse++x)) vs;rw[zCv];have:=hs.1.app (zGl hg A l hs.2);rwa[List.take_append_drop]at this
      ·show(flatR g' A (l.reverse++x)).length=(flatR g' A x++kR g A l).length;rw[zCv,List.length_append,List.length_append,dJ,dJ]
    ·exact⟨h,rfl⟩
 ·exact zOn h
theorem RO.apY{C s:Nat}{c:Cs}{y:T}{b:List T}{e:TypeId}{ob:Obj}(hb:qC H s y=some b)(h:RO P B r C (.gro (.l (c.list++b)) e) ob):RO P B r C (.gro (c.apY y b) e) ob:=by
 cases h with
 | gro hi hs hC h=>
  obtain⟨h1,h2⟩:=qBi hb h;refine .gro hi hs hC ?_;rw[h2];exact h1
theorem RO.app{C:Nat}{c:Cs}{b:List T}{e:TypeId}{ob:Obj}(h:RO P B r C (.gro (.l (c.list++b)) e) ob):RO P B r C (.gro (c.app b) e) ob:=by
 cases h with
 | gro hi hs hC h=>
  obtain⟨h1,h2⟩:=zOn h;refine .gro hi hs hC ?_;rw[h2];exact h1
def qAo(P:Program)(E:Nat→Prop)(w0:World)(X:Hid)(F:List Nat)(B:Bm)(w:World)(Y:Hid)(Mo:List (Nat×Obj))(us:Cs)(e:TypeId)(N:Nat)(x:T)(run:Result Value):Prop:=
  ∃C,N≤C∧C≤maxLen∧
    ((∃obj,run= .ok (.slice (some ⟨w.heap.size,0,none⟩) N C) (w.drew.alloc obj)∧RO P B (rd w.drew Y) C (.gro us e) obj)∨
     ∃i o n b cur c2 q,x= .og i o n∧B i=some (b,C)∧Mo[q]?=some (b,.cells cur e (0,0))∧run= .ok (.slice (some ⟨b,0,none⟩) N C) (w.setRow b c2)∧
      St E w0 X (w.setRow b c2) Y (Mo.set q (b,.cells c2 e (0,0))++jK F)∧Le (rd w Y) (rd (w.setRow b c2) Y)∧RO P B (rd (w.setRow b c2) Y) C (.gro us e) (.cells c2 e (0,0)))
def zLj(H:List TO)(e:TypeId)(s nx:Nat)(us:Cs)(x:T):Prop:=
 (∃v,x= .v v)∨(∃cs n,x= .st cs n)∨(∃i o n,x= .os i o n n)∨∃i,x= .og i 0 nx∧H[i]?=some (.gro us e)∧us.list.length=nx*s
theorem zOo(hW:Wd P E w0 X F H B w Y Mo){x y:T}{xv yv:Value}{t ty e:TypeId}{g:Bool}{s nx ny:Nat}{uc:Cs}{vs:List T}(hx:Rep B (rd w Y) x xv)(hy:Rep B (rd w Y) y yv)(ht:P.underlying t=some (.slice e))(hd:ldT P e=some (g,s))
  (c1:qC H s x=some uc.list) (c2:qC H s y=some vs) (c3:qZ x=some nx) (c4:qZ y=some ny) (hny:0<ny) (hok:zAn P e s (nx+ny)=true) (hon:xV vs=true) (hb:zLj H e s nx uc x):
  qAo P E w0 X F B w Y Mo (uc.apY y vs) e (nx+ny) x ((Builtin.append_ #[t,t] ty #[xv,yv]).run P w):=by
 obtain⟨adx,cx,olds,rfl,lx,rx,sx,ax⟩:=hW.slice hx c3 c1;have cy2:=c2;obtain⟨ady,cy,news,rfl,ly,ry,sy,ay⟩:=hW.slice hy c4 c2;obtain⟨i0,z,q1,q2,q3,q4,q5,q7⟩:=zSi hok hd;have hone:=zFo hon ry;obtain⟨ya,rfl⟩:=sy (Nat.mul_ne_zero (by omega) (by omega))
 have hnews:=ay _ rfl;obtain⟨hbyt,hnn⟩:=qBh q5 (by omega)
 have hmax:nx+ny≤maxLen:=by simp only[maxLen];omega
 have hge:=grownCap_ge w (nx+ny) cx e;have hgm:=grownCap_le_maxLen w (nx+ny) cx e hmax;have C1:=(Upd.drew w).le Y;have fresh:cx<nx+ny→(adx=none→nx=0∧cx=0)→qAo P E w0 X F B w Y Mo (uc.apY y vs) e (nx+ny) x ((Builtin.append_ #[t,t] ty #[.slice adx nx cx,.slice (some ya) ny cy]).run P w):=fun hlt hnil=>by
  refine⟨grownCap w (nx+ny) cx e,hge,hgm,.inl ⟨.cells (olds.toArray++news.toArray++Builtin.zeroCells z.cells (grownCap w (nx+ny) cx e-(nx+ny))) e (0,0),?_,RO.apY cy2 (qTr q1 q3 q4 ((rx.app ry).mono (BLe.refl B) C1) lx ly rfl hge hgm)⟩⟩;cases adx with
  | none=>
   obtain⟨rfl,rfl⟩:=hnil rfl;have ho0:olds=[]:=List.eq_nil_of_length_eq_zero (by rw[lx];simp)
   subst ho0;have hr:=run_append_nil (P:=P) w t ty e i0 z ht q1 q2 ya ny cy news (by rw[q3];exact ly) hnews hny (by omega) (by have:=hbyt;simp only[Nat.zero_add]at this;exact Nat.le_trans (Nat.mul_le_mul_right _ (by omega)) this)
   simp only[Nat.zero_add];simpa using hr
  | some xa=>exact run_append_grow (P:=P) w t ty e i0 z ht q1 q2 xa nx cx olds (by rw[q3];exact lx) (ax _ rfl) ya ny cy news (by rw[q3];exact ly) hnews hlt (by omega) (growslice_fits_wide (by omega) hbyt)
 rcases hb with⟨v,rfl⟩ | ⟨cs,m,rfl⟩ | ⟨i,o',m,rfl⟩ | ⟨i,rfl,hi,hcs⟩
 ·have hv:=hx.vI.1;subst hv;have:adx=none∧nx=0∧cx=0:=by
   unfold qZ at c3;split at c3<;>(try (rename_i e2;cases e2;done))<;>(try cases c3)
   rename_i e2;cases e2;exact⟨rfl,rfl,rfl⟩
  obtain⟨rfl,rfl,rfl⟩:=this;exact fresh (by omega) (fun _=>⟨rfl,rfl⟩)
 ·obtain⟨ad2,hv,hh⟩:=hx.stI;simp only[qZ,Option.some.injEq]at c3;subst c3;cases hv;refine fresh (by omega) (fun e0=>?_)
  rcases hh with⟨rfl,_⟩ | ⟨b,o',e2,_⟩
  ·exact⟨rfl,rfl⟩
  ·rw[e0]at e2;cases e2
 ·obtain⟨b,C,hv,hB⟩:=hx.osI;simp only[qZ,Option.some.injEq]at c3;subst c3;cases hv;exact fresh (by omega) (fun e0=>by cases e0)
 ·obtain⟨b,C,c',hv,hB,hmc,h0⟩:=hx.ogI;cases hv;obtain rfl:=h0 rfl;rcases Nat.lt_or_ge cx (nx+ny)with hroom | hroom
  ·exact fresh hroom (fun e0=>by cases e0)
  ·obtain⟨b',C',ob,g1,g2,g3⟩:=hW.ob i _ hi rfl;rw[hB]at g1;cases g1;cases g3 with
   | @gro _ _ cur i1 r1 r2 r3 hR=>
    rw[q1]at r1;cases r1;have hfit:nx*i0.size+news.length≤cur.size:=by rw[ly,q3,r2,q3,←Nat.add_mul];exact Nat.mul_le_mul_right _ hroom
    have hr:=run_append_room (P:=P) w t ty e i0 ht q1 b nx cx cur (hW.heap g2) ya ny cy news (by rw[q3];exact ly) hnews hone hroom hfit
    obtain⟨q,hq⟩:=List.getElem?_of_mem g2;have hql:q<Mo.length:=(List.getElem?_eq_some_iff.1 hq).1;have hq2:(Mo++jK F)[q]?=some (b,.cells cur e (0,0)):=by rw[List.getElem?_append_left hql];exact hq
    rw[q3]at hfit;have hrow:cur.toList.take (nx*s)=olds:=by
     have h1:=ax _ rfl;have h2:(cur.toList.take (nx*s)).length=nx*s:=by simp;omega
     refine List.ext_getElem? fun j=>?_;by_cases hj:j<nx*s
     ·have e1:olds[j]?=some olds[j]:=by simp[lx,hj]
      have h3:=h1 j _ e1;rw[qJ,cell_of_row w b _ cur e _ (hW.heap g2),Nat.zero_add]at h3;rw[e1,List.getElem?_take,if_pos hj];simpa using h3
     ·rw[List.getElem?_eq_none (by omega),List.getElem?_eq_none (by omega)]
    rw[q3,hrow]at hr;generalize J2:(olds++news++cur.toList.drop (nx*s+news.length)).toArray=c2 at hr;have hS:=hW.st.set (w':=w.setRow b c2) q _ hq2 (by simp) rfl rfl rfl (setRow_heap w b cur _ e _ (hW.heap g2)) (fun k _ hk=>setRow_other w b k _ hk)
    rw[List.set_append_left _ _ hql]at hS;have hle:=hW.st.le_set (w':=w.setRow b c2) q hq2 (fun k _ hk=>setRow_other w b k _ hk);have hlen:(uc.list++vs).length=(olds++news).length:=(rx.app ry).length;refine⟨cx,hroom,r3,.inr ⟨i,0,nx,b,cur,c2,q,rfl,hB,hq,hr,hS,hle,?_⟩⟩;refine RO.apY cy2 (.gro q1 ?_ r3 ?_)
    ·rw[←r2,←J2];simp[lx];omega
    ·have e0:c2.toList.take (olds++news).length=olds++news:=by rw[←J2];exact List.take_left
     show zN B _ (uc.list++vs) (List.take (uc.list++vs).length _);rw[hlen,e0];exact(rx.app ry).mono (BLe.refl B) hle
theorem qVj{c:Call}{x y:Operand}{t t2:TypeId}(hW:Wd P E w0 X F H B w Y Mo)(hF:FrT n a L D B (rd w Y))(ho:o.op= .call c)(hc:c.callee= .builtin .copy)(hargs:c.args=#[x,y])(hts:c.argTypes=#[t,t2])
  {tv:T} {H':List TO} (h:qJu P H t (evO L x) (evO L y)=some (tv,H')) (hk:tK P E w0 X F n D H' (dst o.dst tv L) B (rd w Y) K):o.wp P a w K Q:=by
 have hx:=hF.rep x;have hy:=hF.rep y;unfold qJu at h;split at h
 ·rename_i i off nx cx ex;rw[ex]at hx;obtain⟨b,C,hvx,hB⟩:=hx.osI;cases he:elT P t with
  | none=>simp[he]at h
  | some e=>
   have ht:=vE he;cases hd:ldT P e with
   | none=>simp[he,hd]at h
   | some gs=>
    obtain⟨g,s⟩:=gs;simp only[he,hd]at h;split at h
    ·rename_i us ny c1 c2;cases hk1:jD (Nat.min ny nx*s) us with
     | none=>simp[hk1]at h
     | some qs=>
      simp only[hk1]at h;cases hz:xV qs&&Nat.blt 0 (Nat.min ny nx*s)with
      | false=>simp[hz]at h
      | true=>
       simp only[hz,cond_true]at h;simp only[Bool.and_eq_true,Nat.blt_eq]at hz;cases hs:qAe H i off qs with
       | none=>simp[hs]at h
       | some H2=>
        simp only[hs,Option.some.injEq,Prod.mk.injEq]at h;obtain⟨rfl,rfl⟩:=h;obtain⟨ady,cy,vs,ey,ly,ry,sy,ay⟩:=hW.slice hy c2 c1;have C2:Nat.min ny nx*s≤ny*s:=Nat.mul_le_mul_right s (Nat.min_le_left ny nx);obtain⟨ad,rfl⟩:=sy (by omega)
        have hR:zN B (rd w Y) qs (vs.take (Nat.min ny nx*s)):=(ry.take hk1).1;obtain⟨w',Mo',hst,hW',hle⟩:=hW.sto hB hs hR hz.1;have hl:(loadCells ad (Nat.min ny nx*s)).run P w= .ok (vs.take (Nat.min ny nx*s)).toArray w:=by
         have:=run_loadCells_list (P:=P) w ad (vs.take (Nat.min ny nx*s)) (fun j v e=>by
          rw[List.getElem?_take]at e;split at e
          ·exact ay ad rfl j v e
          ·cases e)
         rwa[List.length_take,Nat.min_eq_left (by omega)]at this
        have hsz:(sizeOf e).run P w= .ok s w:=Gv.run_sizeOf hd w;have hex:(execOp a.eval o).run P w= .ok (.value (goInt (Nat.min ny nx))) w':=by
         unfold execOp;simp only[ho,resolve,hc,hargs,hts,invoke,builtin,Sem.run_bind,Sem.run_pure,Result.andThen_ok,List.map_toArray,List.map_cons,List.map_nil,hvx,ey];simp[Builtin.copy_,run_underlying ht,Builtin.lenOf,Builtin.firstCells,hsz,hl,hst]
        unfold Oper.wp;rw[hex];exact hk _ _ _ _ _ hW' ((hF.mono (BLe.refl B) hle).put o.dst (.v rfl)) (BLe.refl B) hle
    ·cases h
 ·cases h
theorem qFt{c:Call}{x y:Operand}{t:TypeId}(hW:Wd P E w0 X F H B w Y Mo)(hF:FrT n a L D B (rd w Y))(ho:o.op= .call c)(hc:c.callee= .builtin .append)(hargs:c.args=#[x,y])(hts:c.argTypes=#[t,t])
  {tv:T} {H':List TO} (h:zSj P H t (evO L x) (evO L y)=some (tv,H')) (hk:tK P E w0 X F n D H' (dst o.dst tv L) B (rd w Y) K):o.wp P a w K Q:=by
 have hx:=hF.rep x;have hy:=hF.rep y;unfold zSj at h;cases he:elT P t with
 | none=>simp[he]at h
 | some e=>
  have ht:=vE he;cases hd:ldT P e with
  | none=>simp[he,hd]at h
  | some gs=>
   obtain⟨g,s⟩:=gs;simp only[he,hd]at h;split at h
   ·rename_i us vs nx ny c1 c2 c3 c4;cases hz:Nat.beq ny 0 with
    | true=>
     obtain⟨adx,cx,olds,ex,lx,rx,sx,ax⟩:=hW.slice hx c3 c1;obtain⟨ady,cy,news,ey,ly,ry,sy,ay⟩:=hW.slice hy c4 c2;obtain rfl:=qB hz;simp only[hz,cond_true]at h;obtain⟨i0,_,g1,_,g3,_⟩:=gM hd;have hcap:tv=evO L x∧H'=H∧nx≤cx:=by
      unfold qJe at h;split at h
      ·rename_i v e1;cases h;rw[e1]at hx;obtain⟨hv,hsc⟩:=hx.vI;rw[ex]at hv;subst hv;rw[e1]at c3;refine⟨rfl,rfl,?_⟩;unfold qZ at c3;split at c3<;>(try (rename_i e2;cases e2;done))<;>(try cases c3)
       exact Nat.zero_le _
      ·rename_i i o' m e1;cases h;rw[e1]at hx c3;obtain⟨b,C,c',hv,_,hle,_⟩:=hx.ogI;simp only[qZ,Option.some.injEq]at c3;subst c3;rw[ex]at hv;cases hv;exact⟨rfl,rfl,hle⟩
      ·rename_i i o' m c' e1;cases hb:Nat.ble m c' with
       | false=>simp[hb]at h
       | true=>
        simp only[hb,cond_true,Option.some.injEq,Prod.mk.injEq]at h;rw[e1]at hx c3;obtain⟨b,C,hv,_⟩:=hx.osI;simp only[qZ,Option.some.injEq]at c3;subst c3;rw[ex]at hv;cases hv;rw[Nat.ble_eq]at hb;exact⟨h.1.symm,h.2.symm,hb⟩
      ·rename_i cs m e1;cases h;rw[e1]at hx c3;obtain⟨ad2,hv,_⟩:=hx.stI;simp only[qZ,Option.some.injEq]at c3;subst c3;rw[ex]at hv;cases hv;exact⟨rfl,rfl,Nat.le_refl _⟩
      ·cases h
     obtain⟨rfl,rfl,hle⟩:=hcap;have hrun:(Builtin.append_ #[t,t] o.type #[a.eval x,a.eval y]).run P w= .ok (a.eval x) w:=by
      rw[ex,ey];have hf:(Builtin.firstCells s 0 (.slice ady 0 cy)).run P w= .ok #[] w:=by
       cases ady with
       | none=>rfl
       | some q=>simp[Builtin.firstCells,loadCells,Sem.run_pure,Sem.run_bind];rfl
      cases adx with
      | none=>simp[Builtin.append_,run_underlying ht,sizeOf,typeInfo,g1,g3,Builtin.lenOf,Sem.run_bind,Sem.run_pure,hf,hle]
      | some q=>simp[Builtin.append_,run_underlying ht,sizeOf,typeInfo,g1,g3,Builtin.lenOf,Sem.run_bind,Sem.run_pure,hf,hle,storeCells]
     unfold Oper.wp;rw[gJ ho hc hargs hts hrun];exact hk _ _ _ _ _ hW (hF.put o.dst hx) (BLe.refl B) (Le.refl _)
    | false=>
     have hny:0<ny:=by
      rcases Nat.eq_zero_or_pos ny with h0 | h0
      ·subst h0;simp at hz
      ·exact h0
     simp only[hz,cond_false]at h;cases hok:zAn P e s (nx+ny)&&xV vs with
     | false=>simp[hok]at h
     | true=>
      simp only[hok,cond_true]at h;simp only[Bool.and_eq_true]at hok;have fin:∀(uc:Cs)(H0:List TO),uc.list=us→(tv,H')=(.og (ln H) 0 (nx+ny),H0++[.gro (uc.apY (evO L y) vs) e])→zLj H e s nx uc (evO L x)→(∀(w2:World)(Y2:Hid)(B2:Bm)(M2:List (Nat×Obj)),Wd P E w0 X F (H++[.gro (uc.apY (evO L y) vs) e]) B2 w2 Y2 M2→Wd P E w0 X F (H0++[.gro (uc.apY (evO L y) vs) e]) B2 w2 Y2 M2)→
        (∀i o n,evO L x= .og i o n→H0=H.set i .gone∧∃x,H[i]?=some x∧jN x=true)→o.wp P a w K Q:=fun uc H0 hus hres hb hH0 hog=>by
       subst hus;cases hres;obtain⟨C,hC1,hC2,hA⟩:=zOo (ty:=o.type) hW hx hy ht hd c1 c2 c3 c4 hny hok.1 hok.2 hb;unfold Oper.wp;rcases hA with⟨obj,hrun,hRO⟩ | ⟨i,o',n',b,cur,c2',q,ex,hB,hq,hrun,hS,hle,hRO⟩
       ·obtain⟨hW',hBl⟩:=(hW.call (Upd.drew w)).alloc (C:=C) rfl hRO;have hle:=((Upd.drew w).le Y).trans (Le.hide_new (w:=w.drew) (Y:=Y) obj);rw[gJ ho hc hargs hts hrun];refine hk _ _ _ _ _ (hH0 _ _ _ _ hW') ((hF.mono hBl hle).put o.dst ?_) hBl hle;rw[qN];exact .og (qE _ _ _) hC1 (fun _=>rfl) hC2
       ·obtain⟨rfl,x0,hi,hlx⟩:=hog _ _ _ ex;have hlt:i<H.length:=(List.getElem?_eq_some_iff.1 hi).1;have hW2:=hW.set hi hlx hB hq hS hle (fun cs e=>by cases e) (fun _=>hRO)
        obtain⟨hW3,hB3⟩:=hW2.move (i:=i) (x:= .gro (uc.apY (evO L y) vs) e) (by rw[List.getElem?_set_self hlt]) rfl hB
        rw[List.set_set,List.length_set]at hW3;rw[List.length_set]at hB3;rw[gJ ho hc hargs hts hrun];refine hk _ _ _ _ _ hW3 ((hF.mono hB3 hle).put o.dst ?_) hB3 hle;rw[qN];exact .og (qE _ _ _) hC1 (fun _=>rfl) hC2
      have id0:∀(w2:World)(Y2:Hid)(B2:Bm)(M2:List (Nat×Obj)),Wd P E w0 X F (H++[.gro ((Cs.l us).apY (evO L y) vs) e]) B2 w2 Y2 M2→Wd P E w0 X F (H++[.gro ((Cs.l us).apY (evO L y) vs) e]) B2 w2 Y2 M2:=fun _ _ _ _ h=>h;unfold qJg at h;split at h
      ·rename_i v e1;exact fin (.l us) H rfl (Option.some.inj h).symm (.inl ⟨v,e1⟩) id0 (fun i o n e2=>by rw[e1]at e2;cases e2)
      ·rename_i cs m e1;exact fin (.l us) H rfl (Option.some.inj h).symm (.inr (.inl ⟨_,_,e1⟩)) id0 (fun i o n e2=>by rw[e1]at e2;cases e2)
      ·rename_i i o' m c' e1;cases hb:Nat.beq m c' with
       | false=>simp[hb]at h
       | true=>
        obtain rfl:=qB hb;simp only[hb,cond_true]at h;exact fin (.l us) H rfl (Option.some.inj h).symm (.inr (.inr (.inl ⟨_,_,_,e1⟩))) id0 (fun i o n e2=>by rw[e1]at e2;cases e2)
      ·rename_i i o' m e1;unfold qSb at h;split at h
       ·rename_i cs e' hnth;cases hb:Nat.beq o' 0&&(Nat.beq (ln cs.list) (m*s)&&Nat.beq e e')with
        | false=>simp[hb]at h
        | true=>
         simp only[hb,cond_true]at h;simp only[Bool.and_eq_true,qN]at hb;obtain rfl:=qB hb.1;have hcs:=qB hb.2.1;obtain rfl:=qB hb.2.2;rw[qP,List.getD_eq_getElem?_getD]at hnth;have hi:H[i]?=some (.gro cs e):=by
          cases hi:H[i]? with
          | none=>rw[hi]at hnth;cases hnth
          | some q=>rw[hi]at hnth;simp at hnth;rw[hnth]
         rw[e1]at c1 c3;simp only[qZ,Option.some.injEq]at c3;subst c3;have hus:cs.list=us:=by
          unfold qC at c1;simp only[qP,List.getD_eq_getElem?_getD,hi,Option.getD_some,nQ]at c1;obtain⟨t1,t2⟩:=zCb c1;rw[t2,rQ,List.drop_zero,←hcs,List.take_length]
         have hlt:i<H.length:=(List.getElem?_eq_some_iff.1 hi).1;refine fin cs (H.set i .gone) hus ?_ (.inr (.inr (.inr ⟨i,e1,hi,hcs⟩))) (fun w2 Y2 B2 M2 h2=>?_) (fun i2 o2 n2 e2=>?_)
         ·rw[←Option.some.inj h,jT]
         ·have:=h2.gone i;rwa[List.set_append_left _ _ hlt]at this
         ·rw[e1]at e2;cases e2;exact⟨rfl,_,hi,rfl⟩
       ·cases h
      ·cases h
   ·cases h
end
end Go.Ev

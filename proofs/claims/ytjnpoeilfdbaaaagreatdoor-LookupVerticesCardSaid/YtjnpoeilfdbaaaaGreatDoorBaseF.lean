import Derived.Shelf.SlIterI.Nil
import Derived.Shelf.SortM.Plain
import Derived.Shelf.SortM.SortNone
import Derived.Lib.SliceRun
import Derived.OwnWalk
import Derived.Shelf.Slices.Clone
import Derived.Test.YtjnpoeilfdbaaaaGreatDoorBaseE
set_option linter.unusedVariables false
set_option linter.unusedSimpArgs false
set_option linter.unnecessarySimpa false
namespace Go.Proofs.YtjnpoeilfdbaaaaGreatDoor
open Go Go.Gv Go.Ev IntKind
noncomputable def zSp:List T→Option (List Nat)
 | []=>some []
 | t::l=>match t with
  | .v (.int .i64 (.ofNat x))=>bif Nat.blt x 9223372036854775808 then(match zSp l with | some r=>some (x::r) | none=>none)else none
  | _=>none
noncomputable def qUm:List T→Option (T×Bool)
 | [.sl (t::cs) n]=>bif Nat.beq (ln (t::cs)) n&&Nat.blt n 1000 then(match zSp (t::cs)with | some l=>some (.v (.string ⟨(zDc l).toArray⟩),true) | none=>none)else none
 | _=>none
theorem zVe{B:Bm}{r:Rd}:∀{cs:List T}{l:List Nat},zSp cs=some l→l.length=cs.length∧(∀x∈l,x≤9223372036854775807)∧∀(k x:Nat),l[k]?=some x→∃t,cs[k]?=some t∧∀v,Rep B r t v→v= .int .i64 x
 | [],l,h=>by simp only[zSp,Option.some.injEq]at h;subst h;simp
 | t::cs,l,h=>by
  simp only[zSp]at h;split at h
  ·rename_i x;cases hb:Nat.blt x 9223372036854775808 with
   | false=>simp[hb]at h
   | true=>
    simp only[hb,cond_true]at h;cases hr:zSp cs with
    | none=>simp[hr]at h
    | some q=>
     simp only[hr,Option.some.injEq]at h;subst h;obtain⟨h1,h2,h3⟩:=zVe (B:=B) (r:=r) hr;rw[Nat.blt_eq]at hb;have hb:=Nat.le_of_lt_succ hb;refine⟨by simp[h1],fun y hy=>?_,fun k y hk=>?_⟩
     ·rcases List.mem_cons.1 hy with rfl | hy
      ·exact hb
      ·exact h2 y hy
     ·cases k with
      | zero=>simp at hk;subst hk;exact⟨_,rfl,fun v hv=>hv.vI.1⟩
      | succ k=>simpa using h3 k y (by simpa using hk)
  ·cases h
theorem qUn{ts:List T}{tv:T}{nw:Bool}(h:qUm ts=some (tv,nw))(k:Nat):KnP Tryz.prog k 54 ts tv nw:=by
 unfold qUm at h;split at h
 ·rename_i t cs n;cases hb:Nat.beq (ln (t::cs)) n&&Nat.blt n 1000 with
  | false=>simp[hb]at h
  | true=>
   simp only[hb,cond_true]at h;simp only[Bool.and_eq_true,Nat.blt_eq]at hb;have hn:=zY hb.1;rw[qR]at hn;cases hk:zSp (t::cs)with
   | none=>simp[hk]at h
   | some l=>
    simp only[hk,Option.some.injEq,Prod.mk.injEq]at h;obtain⟨rfl,rfl⟩:=h;intro B w X qC R hI _ hX hR hK;obtain⟨h1,h2,h3⟩:=zVe (B:=B) (r:=rd w X) hk;match qC,hR with
    | [v],⟨hv,_⟩=>
     cases hv with
     | @sl _ _ b o c hnc f hf hg hm=>
      have hlen:l.length=n:=by rw[h1,←hn]
      subst hlen;refine(zPg b o c l w (by omega) h2 (hI (by rw[qGi];exact fun h=>by cases h)) fun j x hj=>?_).mono ?_
      ·obtain⟨t',ht,hv⟩:=h3 j x hj;rw[←hv _ (hg j t' ht)];exact yQ (hf j t' ht)
      ·rintro e w' ⟨rfl,hb⟩;exact hK _ w' (Upd.of_below hb) (.v rfl)
 ·cases h
noncomputable def tb0:List (Nat×(List T→Option (T×Bool))):=(54,qUm)::zSv
theorem jAp:zL Tryz.prog (zR tb0):=fF (fun _ _ _ h k=>qUn h k) qYd
end Go.Proofs.YtjnpoeilfdbaaaaGreatDoor
namespace Go.Proofs.YtjnpoeilfdbaaaaGreatDoor
open Go Go.Gv Go.RowKit Go.Sort Go.Maps Go.Shelf IntKind
set_option maxRecDepth 100000
set_option maxHeartbeats 1000000
def zPh:Go.Shelf.Ren:=⟨fun | 7=>127 | 10=>155 | n=>n,fun | 23=>200 | 26=>3 | 3=>28 | 28=>208 | 0=>0 | 27=>207 | 33=>180 | 4=>4 | n=>n,fun n=>n⟩
theorem zYb:Go.Proofs.SlLaysZI.n7 Tryz.prog zPh:={mixed:=by kernel_rfl,f7:=⟨"maps.Keys[map[int]clearway/api.Rat,int,clearway/api.Rat]",by decide,Tryz.func127.trans (congrArg some (by kernel_rfl))⟩,f10:=⟨"maps.Keys[map[int]clearway/api.Rat,int,clearway/api.Rat]$1",by decide,Tryz.func155.trans (congrArg some (by kernel_rfl))⟩,t0:=Tryz.underlying0,a0:=Tryz.isAgg0,z0:=Tryz.sizeOf0,v0:=Tryz.zeroValue0,t4:=Tryz.underlying4,a4:=Tryz.isAgg4,z4:=Tryz.sizeOf4,v4:=Tryz.zeroValue4,t23:=Tryz.underlying200,a23:=Tryz.isAgg200,z23:=Tryz.sizeOf200,v23:=Tryz.zeroValue200,t26:=Tryz.underlying3,a26:=Tryz.isAgg3,z26:=Tryz.sizeOf3,v26:=Tryz.zeroValue3,t27:=Tryz.underlying207,a27:=Tryz.isAgg207,z27:=Tryz.sizeOf207,v27:=Tryz.zeroValue207,t28:=Tryz.underlying208,a28:=Tryz.isAgg208,z28:=Tryz.sizeOf208,v28:=Tryz.zeroValue208,t33:=Tryz.underlying180,a33:=Tryz.isAgg180,z33:=Tryz.sizeOf180,v33:=Tryz.zeroValue180}
def zHy:Go.Shelf.Ren:=⟨fun | 6=>126 | 8=>153 | 9=>154 | 11=>166 | 13=>168 | 12=>167 | 23=>184 | 24=>185 | 14=>175 | 15=>176 | 16=>177 | 17=>178 | 18=>179 | 19=>180 | 20=>181 | 21=>182 | 22=>183 | 25=>190 | 26=>191 | 27=>192 | 28=>193 | 29=>194 | 30=>161 | 31=>197 | n=>n,fun | 26=>3 | 28=>208 | 24=>22 | 0=>0 | 3=>3 | 37=>181 | 48=>143 | 50=>141 | 4=>4 | 40=>261 | 39=>260 | 45=>107 | 5=>5 | 9=>9 | 51=>271 | 55=>275 | 57=>277 | 58=>278 | 33=>180 | n=>n,fun n=>n⟩
theorem zRa:Go.Proofs.SlLaysZI.n6 Tryz.prog zHy:={mixed:=by kernel_rfl,f6:=⟨"slices.Sorted[int]",by decide,Tryz.func126.trans (congrArg some (by kernel_rfl))⟩,f8:=⟨"slices.Collect[int]",by decide,Tryz.func153.trans (congrArg some (by kernel_rfl))⟩,f11:=⟨"slices.AppendSeq[[]int,int]",by decide,Tryz.func166.trans (congrArg some (by kernel_rfl))⟩,t0:=Tryz.underlying0,a0:=Tryz.isAgg0,z0:=Tryz.sizeOf0,v0:=Tryz.zeroValue0,t24:=Tryz.underlying22,a24:=Tryz.isAgg22,z24:=Tryz.sizeOf22,v24:=Tryz.zeroValue22,t26:=Tryz.underlying3,a26:=Tryz.isAgg3,z26:=Tryz.sizeOf3,v26:=Tryz.zeroValue3,t28:=Tryz.underlying208,a28:=Tryz.isAgg208,z28:=Tryz.sizeOf208,v28:=Tryz.zeroValue208,i26:=by kernel_rfl}
def qHa:Go.Shelf.Ren:=⟨fun | 5=>154 | 8=>168 | 7=>167 | 19=>184 | 20=>185 | 10=>175 | 11=>176 | 12=>177 | 13=>178 | 14=>179 | 15=>180 | 16=>181 | 17=>182 | 18=>183 | 30=>190 | 31=>191 | 32=>192 | 33=>193 | 34=>194 | 35=>161 | 40=>197 | n=>n,fun | 23=>22 | 25=>3 | 3=>3 | 32=>181 | 22=>22 | 0=>0 | 44=>143 | 46=>141 | 4=>4 | 36=>261 | 35=>260 | 41=>107 | 5=>5 | 9=>9 | 53=>271 | 57=>275 | 63=>277 | 64=>278 | n=>n,fun n=>n⟩
theorem zKl:Go.Proofs.SlLaysM.n5 Tryz.prog qHa:={mixed:=by kernel_rfl,f5:=⟨"slices.Sort[[]int,int]",by decide,Tryz.func154.trans (congrArg some (by kernel_rfl))⟩,f7:=⟨"slices.pdqsortOrdered[int]",by decide,Tryz.func167.trans (congrArg some (by kernel_rfl))⟩,f8:=Tryz.func168.trans (congrArg some (by kernel_rfl)),f10:=⟨"slices.insertionSortOrdered[int]",by decide,Tryz.func175.trans (congrArg some (by kernel_rfl))⟩,f11:=⟨"slices.heapSortOrdered[int]",by decide,Tryz.func176.trans (congrArg some (by kernel_rfl))⟩,f12:=⟨"slices.breakPatternsOrdered[int]",by decide,Tryz.func177.trans (congrArg some (by kernel_rfl))⟩,f13:=⟨"slices.choosePivotOrdered[int]",by decide,Tryz.func178.trans (congrArg some (by kernel_rfl))⟩,f14:=⟨"slices.reverseRangeOrdered[int]",by decide,Tryz.func179.trans (congrArg some (by kernel_rfl))⟩,f15:=⟨"slices.partialInsertionSortOrdered[int]",by decide,Tryz.func180.trans (congrArg some (by kernel_rfl))⟩,f16:=⟨"cmp.Less[int]",by decide,Tryz.func181.trans (congrArg some (by kernel_rfl))⟩,f17:=⟨"slices.partitionEqualOrdered[int]",by decide,Tryz.func182.trans (congrArg some (by kernel_rfl))⟩,f18:=⟨"slices.partitionOrdered[int]",by decide,Tryz.func183.trans (congrArg some (by kernel_rfl))⟩,f19:=Tryz.func184.trans (congrArg some (by kernel_rfl)),f20:=Tryz.func185.trans (congrArg some (by kernel_rfl)),f30:=⟨"slices.siftDownOrdered[int]",by decide,Tryz.func190.trans (congrArg some (by kernel_rfl))⟩,f31:=Tryz.func191.trans (congrArg some (by kernel_rfl)),f32:=Tryz.func192.trans (congrArg some (by kernel_rfl)),f33:=⟨"slices.medianAdjacentOrdered[int]",by decide,Tryz.func193.trans (congrArg some (by kernel_rfl))⟩,f34:=⟨"slices.medianOrdered[int]",by decide,Tryz.func194.trans (congrArg some (by kernel_rfl))⟩,f35:=⟨"cmp.isNaN[int]",by decide,Tryz.func161.trans (congrArg some (by kernel_rfl))⟩,f40:=⟨"slices.order2Ordered[int]",by decide,Tryz.func197.trans (congrArg some (by kernel_rfl))⟩,t0:=Tryz.underlying0,a0:=Tryz.isAgg0,z0:=Tryz.sizeOf0,v0:=Tryz.zeroValue0,t3:=Tryz.underlying3,a3:=Tryz.isAgg3,z3:=Tryz.sizeOf3,v3:=Tryz.zeroValue3,t4:=Tryz.underlying4,a4:=Tryz.isAgg4,z4:=Tryz.sizeOf4,v4:=Tryz.zeroValue4,t5:=Tryz.underlying5,a5:=Tryz.isAgg5,z5:=Tryz.sizeOf5,v5:=Tryz.zeroValue5,t9:=Tryz.underlying9,a9:=Tryz.isAgg9,z9:=Tryz.sizeOf9,v9:=Tryz.zeroValue9,t22:=Tryz.underlying22,a22:=Tryz.isAgg22,z22:=Tryz.sizeOf22,v22:=Tryz.zeroValue22,t23:=Tryz.underlying22,a23:=Tryz.isAgg22,z23:=Tryz.sizeOf22,v23:=Tryz.zeroValue22,t25:=Tryz.underlying3,a25:=Tryz.isAgg3,z25:=Tryz.sizeOf3,v25:=Tryz.zeroValue3,t32:=Tryz.underlying181,a32:=Tryz.isAgg181,z32:=Tryz.sizeOf181,v32:=Tryz.zeroValue181,t35:=Tryz.underlying260,a35:=Tryz.isAgg260,z35:=Tryz.sizeOf260,v35:=Tryz.zeroValue260,t36:=Tryz.underlying261,a36:=Tryz.isAgg261,z36:=Tryz.sizeOf261,v36:=Tryz.zeroValue261,t41:=Tryz.underlying107,a41:=Tryz.isAgg107,z41:=Tryz.sizeOf107,v41:=Tryz.zeroValue107,t44:=Tryz.underlying143,a44:=Tryz.isAgg143,z44:=Tryz.sizeOf143,v44:=Tryz.zeroValue143,t46:=Tryz.underlying141,a46:=Tryz.isAgg141,z46:=Tryz.sizeOf141,v46:=Tryz.zeroValue141,t53:=Tryz.underlying271,a53:=Tryz.isAgg271,z53:=Tryz.sizeOf271,v53:=Tryz.zeroValue271,t57:=Tryz.underlying275,a57:=Tryz.isAgg275,z57:=Tryz.sizeOf275,v57:=Tryz.zeroValue275,t63:=Tryz.underlying277,a63:=Tryz.isAgg277,z63:=Tryz.sizeOf277,v63:=Tryz.zeroValue277,t64:=Tryz.underlying278,a64:=Tryz.isAgg278,z64:=Tryz.sizeOf278,v64:=Tryz.zeroValue278}
def zSo(x:Int):List Int→List Int
 | []=>[x]
 | y::l=>if x≤y then x::y::l else y::zSo x l
def bJ:List Int→List Int
 | []=>[]
 | x::l=>zSo x (bJ l)
theorem zDa(x:Int):∀l:List Int,(zSo x l).Perm (x::l)
 | []=> .refl _
 | y::l=>by
  unfold zSo;split
  ·exact .refl _
  ·exact((zDa x l).cons y).trans (.swap x y l)
theorem aP:∀l:List Int,(bJ l).Perm l
 | []=> .refl _
 | x::l=>(zDa x (bJ l)).trans ((aP l).cons x)
theorem zEh(x:Int):∀l:List Int,l.Pairwise (·≤·)→(zSo x l).Pairwise (·≤·)
 | [],_=>by simp[zSo]
 | y::l,h=>by
  have h1:=List.pairwise_cons.1 h;unfold zSo;split
  ·rename_i hxy;exact .cons (fun a ha=>by
    rcases List.mem_cons.1 ha with rfl | ha
    ·exact hxy
    ·exact Int.le_trans hxy (h1.1 a ha)) h
  ·rename_i hxy;refine .cons (fun a ha=>?_) (zEh x l h1.2);rcases List.mem_cons.1 ((zDa x l).mem_iff.1 ha)with rfl | ha
   ·omega
   ·exact h1.1 a ha
theorem zBz:∀l:List Int,(bJ l).Pairwise (·≤·)
 | []=> .nil
 | x::l=>zEh x _ (zBz l)
theorem zIu{l m:List Int}(h:l.Perm m)(hl:l.Pairwise (·≤·))(hm:m.Pairwise (·≤·)):l=m:=
 List.Perm.eq_of_pairwise (le:=(·≤·)) (fun _ _ _ _ h1 h2=>Int.le_antisymm h1 h2) hl hm h
theorem qMo(m:Nat):AnyZI.SortsIn Tryz.prog zHy Fence.wide m:=
 ⟨fun blk off cap ss W hH hblk hsz=>callsIn_wide.2 (AnyM.slices_Sort_int zKl blk off cap ss W hH hblk hsz),fun p cap W=>callsIn_wide.2 (AnyM.slices_Sort_int_none zKl p cap W)⟩
abbrev R0:Value→Option (DataW Unit×List MemPlace):=fun _=>some (.lit (.bool true),[])
theorem zOr:∀(l:List (Int×Value))(b:Nat),(ents l b).map (·.key)=l.map fun p=>Value.int .i64 p.1
 | [],_=>rfl
 | _::l,b=>by simp[ents,zOr l]
theorem zCr:∀(l:List (Int×Value))(b:Nat),(ents l b).map (·.born)=List.range' b l.length
 | [],_=>rfl
 | _::l,b=>by simp[ents,zCr l,List.range'_succ]
theorem qGn{P:Program}{k:TypeId}(hk:P.underlying k=some (.int .i64)){z:Int}{v:Value}{b:Nat}(hz: -9223372036854775808≤z∧z≤9223372036854775807):Go.WideElems.rd P k R0 ⟨.int .i64 z,v,b⟩=some (.int .i64 z,.lit (.bool true)):=
 Go.WideElems.rd_mk (R:=R0) (val:=v) (born:=b) (yv:=(.lit (.bool true),[])) (keyOf_int_mk (a:=z) hk (by simp[Lit.wf,IntKind.min,IntKind.max,hz,IntKind.bits,IntKind.signed])) rfl
theorem zGb{P:Program}{k:TypeId}(hk:P.underlying k=some (.int .i64)):∀(l:List (Int×Value))(b:Nat),(∀x∈l,-9223372036854775808≤x.1∧x.1≤9223372036854775807)→∀x∈ents l b,∃z,Go.WideElems.rd P k R0 x=some (.int .i64 z,.lit (.bool true))
 | [],_,_,x,hx=>by cases hx
 | p::l,b,h,x,hx=>by
  rcases List.mem_cons.1 hx with rfl | hx
  ·exact⟨p.1,qGn hk (h p List.mem_cons_self)⟩
  ·exact zGb hk l (b+1) (fun x hx=>h x (List.mem_cons_of_mem _ hx)) x hx
theorem zUt{P:Program}{k:TypeId}(hk:P.underlying k=some (.int .i64)):∀(l:List (Int×Value))(b:Nat),(∀x∈l,-9223372036854775808≤x.1∧x.1≤9223372036854775807)→((ents l b).map (Go.WideElems.rg P k R0)).map (fun p=>Go.intOf p.1)=l.map Prod.fst
 | [],_,_=>rfl
 | p::l,b,h=>by
  rw[ents,List.map_cons,List.map_cons,List.map_cons,zUt hk l (b+1) (fun x hx=>h x (List.mem_cons_of_mem _ hx)),Go.WideElems.rg_of (qGn hk (h p List.mem_cons_self))];rfl
theorem zYu{P:Program}{k:TypeId}{w:World}{b:Nat}{es:List (Int×Value)}(hk:P.underlying k=some (.int .i64))(hb:w.heap[b]?=some (mapO es))(hnd:(es.map Prod.fst).Nodup)
  (hr:∀x∈es,-9223372036854775808≤x.1∧x.1≤9223372036854775807) (hl:es.length≤maxLen):w.ownsMap P k R0 b es.length (.map (((ents es 0).map (Go.WideElems.rg P k R0)).foldr DataW.insert [])):=by
 refine⟨(ents es 0).toArray,es.length,hb,⟨by simpa[rV]using hl,⟨fun x hx=>?_,?_,?_⟩,fun x hx=>?_⟩,by simp[rV],rfl⟩
 ·have h1:x.born∈(ents es 0).map (·.born):=List.mem_map_of_mem (by simpa using hx)
  rw[zCr]at h1;have:=List.mem_range'.1 h1;omega
 ·show((ents es 0).map (·.born)).Nodup;rw[zCr];exact List.nodup_range'
 ·show((ents es 0).map (·.key)).Nodup;rw[zOr];have h2:es.map (fun p=>Value.int .i64 p.1)=(es.map Prod.fst).map (Value.int .i64):=by simp
  rw[h2];exact List.Pairwise.map _ (fun a b h e=>h (by simpa using e)) hnd
 ·obtain⟨z,hz⟩:=zGb hk es 0 hr x (by simpa using hx)
  exact⟨_,hz⟩
theorem zYc{P:Program}{k:TypeId}{es:List (Int×Value)}(hk:P.underlying k=some (.int .i64))(hr:∀x∈es,-9223372036854775808≤x.1∧x.1≤9223372036854775807):
  (intKeys (DataW.map (((ents es 0).map (Go.WideElems.rg P k R0)).foldr DataW.insert []))).Perm (es.map Prod.fst):=by
 show((((ents es 0).map (Go.WideElems.rg P k R0)).foldr DataW.insert []).map fun p=>Go.intOf p.1).Perm _;rw[←zUt hk es 0 hr];exact(Go.WideShapes.sorted_perm _).map _
theorem zKk{P:Program}{k:TypeId}(es:List (Int×Value)):Maps.size (DataW.map (((ents es 0).map (Go.WideElems.rg P k R0)).foldr DataW.insert []))=es.length:=by
 show(((ents es 0).map (Go.WideElems.rg P k R0)).foldr DataW.insert []).length=es.length;rw[length_sorted];simp[rV]
theorem zNg(w:World){b b2:Nat}{es:List (Int×Value)}(hb:w.heap[b]?=some (mapO es))(hb2:w.heap[b2]?=some (.cells #[.map (some b)] 200 (0,0)))(hnd:(es.map Prod.fst).Nodup)
  (hr:∀x∈es,-9223372036854775808≤x.1∧x.1≤9223372036854775807) (hl:es.length*8≤140737488355328):
  Calls Tryz.prog 126 #[.func (.func 155) #[] #[.pointer (some ⟨b2,0,none⟩)]] w (Ret E0 w fun w' v=>∃ad cap,v= .slice ad es.length cap∧es.length≤cap∧cap≤maxLen∧((es=[]∧ad=none)∨∃g,ad=some ⟨g,0,none⟩∧∀(i:Nat)(x:Int),(bJ (es.map Prod.fst))[i]?=some x→rd w' (old w) ⟨g,i,none⟩=some (.int .i64 x))):=by
 have hk:Tryz.prog.underlying 3=some (.int .i64):=by kernel_rfl
 have hown:=zYu hk hb hnd hr (by simp only[maxLen];omega)
 have hlt2:b2<w.heap.size:=by
  rcases Nat.lt_or_ge b2 w.heap.size with h | h
  ·exact h
  ·rw[Array.getElem?_eq_none h]at hb2;cases hb2
 have hseq:SeqGives Fence.wide 2 Tryz.prog 155 #[.pointer (some ⟨b2,0,none⟩)] encZ (fun ss=>ss.Perm (intKeys _)) (Maps.size _) w:=
  AnyZI.keys_gives (ρ:=zPh) {zYb with} Fence.wide _ trivial rfl (by omega) b2 b es.length _ _ hlt2 (by simp[World.cell?,hb2]) hown
 have cS:=AnyZI.sorted_in zRa Fence.wide 5 trivial trivial trivial trivial rfl (by omega) (qMo _) (enters_of Tryz.func154 (by kernel_rfl) rfl) 155 #[.pointer (some ⟨b2,0,none⟩)] trivial (enters_of Tryz.func155 (by kernel_rfl) rfl) _ _ (by rw[zKk];simp only[maxLen];omega) (by rw[zKk];omega) _ hseq
 refine((callsIn_wide (n:=5)).1 cS).mono ?_;rintro e w' ⟨v,ss,rfl,hperm,hrow,hnil,hbel⟩;refine⟨Upd.of_below hbel,v,rfl,?_⟩;have hs:ss.mergeSort (fun x y=>decide (x≤y))=bJ (es.map Prod.fst):=by
  refine zIu (((List.mergeSort_perm _ _).trans hperm).trans ((zYc hk hr).trans (aP _).symm)) ?_ (zBz _);have h1:=List.pairwise_mergeSort (le:=fun x y:Int=>decide (x≤y)) (fun a b c h1 h2=>by simp only[decide_eq_true_eq]at *;omega) (fun a b=>by simp only[Bool.or_eq_true,decide_eq_true_eq];omega) ss
  exact h1.imp fun h=>by simpa using h
 rw[hs]at hrow;have hzl:(bJ (es.map Prod.fst)).length=es.length:=by rw[(aP _).length_eq,List.length_map]
 obtain⟨hxl,hrow⟩:=hrow;rcases hrow with⟨rfl,h0⟩ | ⟨g,cap,cur,rfl,hbase,hg,hn,hcap,hsz,hxs⟩
 ·have h1:es=[]:=List.eq_nil_of_length_eq_zero (by rw[←hzl];simpa[h0]using hxl)
  subst h1;exact⟨none,0,rfl,Nat.le_refl _,Nat.zero_le _,.inl ⟨rfl,rfl⟩⟩
 ·have hle:ss.length=es.length:=by rw[←hzl];simpa using hxl.symm
  rw[hle];refine⟨_,cap,rfl,by omega,by simp only[maxLen]at hcap ⊢;omega,.inr ⟨g,rfl,fun i x hi=>?_⟩⟩
  have hil:=(List.getElem?_eq_some_iff.1 hi).1;have hc:cur[i]?=some (.int .i64 x):=by
   have h3:(cur.toList.take (ss.length*1))[i]?=some (.int .i64 x):=by
    rw[hxs];simp[hi]
   rw[List.getElem?_take]at h3;split at h3
   ·simpa using h3
   ·cases h3
  refine rD ((cell_of_row w' g _ cur _ _ hg).trans (by simpa using hc)) (Nat.not_lt.2 hbase) (frozen_of_row w' g _ cur _ hg)
end Go.Proofs.YtjnpoeilfdbaaaaGreatDoor
namespace Go.Proofs.YtjnpoeilfdbaaaaGreatDoor
open Go Go.Gv Go.Ev IntKind
noncomputable def zGl:List (Value×T)→Option (List Int)
 | []=>some []
 | p::l=>match p.1 with
  | .int .i64 z=>bif xZ z then(match zGl l with | some r=>some (z::r) | none=>none)else none
  | _=>none
noncomputable def qKr(z:Int):List Int→Bool
 | []=>false
 | y::l=>ieq z y||qKr z l
noncomputable def qEn:List Int→Bool
 | []=>true
 | z::l=>!qKr z l&&qEn l
noncomputable def skE:Oo:=fun H f az=>bif Nat.beq f 126 then(match az with
 | [.fn g [.op i o]]=>bif Nat.beq g 155&&Nat.beq o 0 then(match nth .gone H i with
  | .row [.om j] e=>bif Nat.beq e 200 then(match nth .gone H j with
   | .map l=>(match zGl l with
    | some zs=>bif qEn zs&&Nat.blt (ln zs) 1000000 then some (.sn ((bJ zs).map fun z=>T.v (.int .i64 z)) (ln zs))else none
    | none=>none)
   | _=>none)else none
  | _=>none)else none
 | _=>none)else none
theorem zVn{z:Int}:∀{l:List Int},qKr z l=false→z∉l
 | [],_=>by simp
 | y::l,h=>by
  simp only[qKr,Bool.or_eq_false_iff]at h;intro hm;rcases List.mem_cons.1 hm with rfl | hm
  ·have:=h.1;rw[zLx]at this;simp at this
  ·exact zVn h.2 hm
theorem zVq:∀{l:List Int},qEn l=true→l.Nodup
 | [],_=> .nil
 | z::l,h=>by
  simp only[qEn,Bool.and_eq_true,Bool.not_eq_true']at h;exact List.nodup_cons.2 ⟨zVn h.1,zVq h.2⟩
theorem zPi{B:Bm}{r:Rd}:∀{l:List (Value×T)}{es:List MapEntry}{zs:List Int}{k:Nat},zGl l=some zs→xD B r l es→es.map (·.born)=List.range' k es.length→
  ∃es':List (Int×Value),es=ents es' k∧es'.map Prod.fst=zs∧es'.length=es.length∧∀x∈es',-9223372036854775808≤x.1∧x.1≤9223372036854775807
 | [],[],zs,k,h,_,_=>by
  simp only[zGl,Option.some.injEq]at h;subst h;exact⟨[],rfl,rfl,rfl,by simp⟩
 | p::l,f::es,zs,k,h,hR,hb=>by
  simp only[zGl]at h;split at h
  ·rename_i z hz;cases hi:xZ z with
   | false=>simp[hi]at h
   | true=>
    simp only[hi,cond_true]at h;cases hr:zGl l with
    | none=>simp[hr]at h
    | some q=>
     simp only[hr,Option.some.injEq]at h;subst h;simp only[List.map_cons,List.length_cons,List.range'_succ,List.cons.injEq]at hb;obtain⟨es',e1,e2,e3,e4⟩:=zPi hr hR.2.2 hb.2;refine⟨(z,f.val)::es',?_,by simp[e2],by simp[e3],fun x hx=>?_⟩
     ·simp only[ents,←e1];congr 1;cases f;simp only[MapEntry.mk.injEq];exact⟨hR.1.trans hz,trivial,hb.1⟩
     ·rcases List.mem_cons.1 hx with rfl | hx
      ·exact mW hi
      ·exact e4 x hx
  ·cases h
 | [],_::_,_,_,_,hR,_=>hR.elim
 | _::_,[],_,_,_,hR,_=>hR.elim
theorem zPt{H:List TO}{i:Nat}{x:TO}(h:nth .gone H i=x)(hx:x≠.gone):H[i]?=some x:=by
 rw[jA,List.getD_eq_getElem?_getD]at h;cases hi:H[i]? with
 | none=>rw[hi]at h;exact absurd h.symm hx
 | some y=>rw[hi]at h;simp at h;rw[h]
theorem zW:qAi Tryz.prog skE:=by
 intro H f az tv h E w0 X F B w Y Mo qC R hW hA hk;unfold skE at h;cases hf:Nat.beq f 126 with
 | false=>simp[hf]at h
 | true=>
  obtain rfl:=zY hf;simp only[hf,cond_true]at h;split at h
  ·rename_i g i o;cases hc:Nat.beq g 155&&Nat.beq o 0 with
   | false=>simp[hc]at h
   | true=>
    simp only[hc,cond_true]at h;simp only[Bool.and_eq_true]at hc;obtain rfl:=zY hc.1;obtain rfl:=zY hc.2;split at h
    ·rename_i j e hi;cases he:Nat.beq e 200 with
     | false=>simp[he]at h
     | true=>
      obtain rfl:=zY he;simp only[he,cond_true]at h;split at h
      ·rename_i l hj;cases hz:zGl l with
       | none=>simp[hz]at h
       | some zs=>
        simp only[hz]at h;cases hd:qEn zs&&Nat.blt (ln zs) 1000000 with
        | false=>simp[hd]at h
        | true=>
         simp only[hd,cond_true,Option.some.injEq]at h;subst h;simp only[Bool.and_eq_true,Nat.blt_eq,qR]at hd;match qC,hA with
         | [v],⟨hv,_⟩=>
          obtain⟨caps,rfl,hcs⟩:=hv.fnI;match caps,hcs with
          | [pv],⟨hp,_⟩=>
           obtain⟨b2,C2,rfl,hB2⟩:=hp.opI;have hi:=zPt hi (by simp)
           have hj:=zPt hj (by simp)
           obtain⟨b2',C',ob,g1,g2,g3⟩:=hW.ob i _ hi rfl;rw[hB2]at g1;cases g1;cases g3 with
           | @row _ _ c hR=>
            have J0:∃b C,B j=some (b,C)∧c=#[.map (some b)]:=by
             match hcl:c.toList,hR with
             | [mv],hR=>
              obtain⟨b,C,rfl,hB⟩:=hR.1.omI;exact⟨b,C,hB,Array.ext' (by simpa using hcl)⟩
             | [],hR=>exact hR.elim
             | _::_::_,hR=>exact hR.2.elim
            obtain⟨b,C,hB,rfl⟩:=J0;obtain⟨b',C'',ob',q1,q2,q3⟩:=hW.ob j _ hj rfl;rw[hB]at q1;cases q1;cases q3 with
            | @map _ es clk hm hclk hborn=>
             obtain⟨es',e1,e2,e3,e4⟩:=zPi (k:=0) hz hm (by rw[hborn,List.range_eq_range'];simp)
             have hmO:w.heap[b]?=some (Gv.mapO es'):=by
              rw[hW.heap q2,Gv.mapO,←e1,e3,hclk];simp
             have hlen:es'.length=zs.length:=by rw[←e2];simp
             refine(zNg w hmO (hW.heap g2) (by rw[e2];exact zVq hd.1) e4 (by rw[hlen];have:=hd.2;omega)).mono ?_
             rintro ee w' ⟨hu,vv,rfl,ad,cap,rfl,hcap1,hcap2,hcells⟩;refine hk _ w' B Y Mo (hW.call hu) ?_ (BLe.refl B) (hu.le Y);rw[e2]at hcells;rw[qR,←hlen];rcases hcells with⟨rfl,rfl⟩ | ⟨g,rfl,hcells⟩
             ·obtain rfl:zs=[]:=by simpa using e2.symm
              exact .sn0 hcap2
             ·refine .sn hcap1 (fun n=> .int .i64 ((bJ zs).getD n 0)) (fun n t ht=>?_) (fun n t ht=>?_) hcap2 (fun n t ht=>?_);all_goals rw[List.getElem?_map]at ht;obtain⟨z,hz1,rfl⟩:=Option.map_eq_some_iff.1 ht
              ·have:=Le.new (Y:=Y) hW.st.lt _ _ (hcells n z hz1);rw[Nat.zero_add,this];simp[hz1]
              ·have:(bJ zs).getD n 0=z:=by simp[hz1]
               rw[this];exact .v rfl
              ·exact Nat.le_trans hW.bNle (Nat.not_lt.1 (wE (hcells n z hz1)))
      ·cases h
    ·cases h
  ·cases h
end Go.Proofs.YtjnpoeilfdbaaaaGreatDoor
namespace Go.Proofs.YtjnpoeilfdbaaaaGreatDoor
open Go Go.RowKit IntKind
set_option maxHeartbeats 2000000 in
set_option maxRecDepth 100000 in
theorem qIq(n c:Nat)(w:World):Calls Tryz.prog 112 #[.slice none n c] w fun e w'=>e= .returned (.slice none 0 0)∧w'=w:=by
 have q26:∀(w:World)(a:Option Addr)(n c n' c':Nat),(binOp .eql 26 (.slice a n c) (.slice none n' c')).run Tryz.prog w= .ok (.bool a.isNone) w:=fun w a n c n' c'=>Lib.run_eql_slice_nil w _ _ a n c n' c' Tryz.underlying26
 go_enter Tryz.func112,Tryz.ntmps112
 go_wp2
 go_ret
 exact⟨rfl,rfl⟩
theorem qJx:(Tryz.prog.info? 143).map (fun i=>(i.zero,i.size,i.bytes))=some (some (.int .u32 0),1,4):=by kernel_rfl
set_option maxHeartbeats 2000000 in
set_option maxRecDepth 100000 in
theorem qBp(a:Addr)(c:Nat)(w:World):Calls Tryz.prog 112 #[.slice (some a) 0 c] w fun e w'=>∃v',e= .returned v'∧w'.ownsRow w.heap.size 143 1 v' 0 []∧Below w.heap.size w w':=by
 obtain⟨i0,hi,hz0,hz1,hz2⟩:=info_parts qJx;have q26:∀(w:World)(a:Option Addr)(n c n' c':Nat),(binOp .eql 26 (.slice a n c) (.slice none n' c')).run Tryz.prog w= .ok (.bool a.isNone) w:=fun w a n c n' c'=>Lib.run_eql_slice_nil w _ _ a n c n' c' Tryz.underlying26
 go_enter Tryz.func112,Tryz.ntmps112
 go_wp2_with (at_builtin;refine wpList_append_own _ rfl _ _ 26 rfl w.heap.size 143 i0 (.int .u32 0) 1 4 Tryz.underlying26 hi hz0 hz1 hz2 rfl (by decide) _ _ _ rfl (World.ownsRow_made w #[] 0 (Nat.le_refl _) (Nat.zero_le _) rfl) a 0 c [] rfl rfl (by intro j u hj;simp at hj) (by intro u hu;cases hu) (by unfold maxLen;omega) (by omega) (by simp) ?_)
 intro v' w1 hown hgrow hnil
 go_wp2
 go_ret
 refine⟨v',rfl,by simpa using hown,?_⟩
 exact((Below.refl _ w).alloc (Nat.le_refl _) _).grown hgrow (by simp) (by intro k hk;simp[Value.ownBlock]at hk;omega)
end Go.Proofs.YtjnpoeilfdbaaaaGreatDoor
namespace Go.Proofs.YtjnpoeilfdbaaaaGreatDoor
open Go Go.Gv Go.Ev IntKind
noncomputable def qBs:List T→Option (T×Bool)
 | [.sl [] 0]=>some (.sl [] 0,true)
 | _=>none
theorem qRb{ts:List T}{tv:T}{nw:Bool}(h:qBs ts=some (tv,nw))(k:Nat):KnP Tryz.prog k 112 ts tv nw:=by
 unfold qBs at h;split at h
 ·simp only[Option.some.injEq,Prod.mk.injEq]at h;obtain⟨rfl,rfl⟩:=h;intro B w X qC R _ _ hX hR hK;match qC,hR with
  | [v],⟨hv,_⟩=>
   obtain⟨ad,c,rfl,_,_⟩:=hv.slI;cases ad with
   | none=>
    refine(qIq 0 c w).mono ?_;rintro e w' ⟨rfl,rfl⟩;exact hK _ w' (Upd.refl _ _) (.sl0 (by simp[maxLen]))
   | some a=>
    refine(qBp a c w).mono ?_;rintro e w' ⟨v',rfl,⟨_,hrow⟩,hb⟩;refine hK _ w' (Upd.of_below hb) ?_;rcases hrow with⟨rfl,_⟩ | ⟨g,cap,cur,rfl,_,_,_,hcap,_⟩
    ·exact .sl0 (by simp[maxLen])
    ·exact .sl0 hcap
 ·cases h
noncomputable def dmE:List T→Option (T×Bool)
 | [x,y]=>(match zMc x,zMc y with
  | some l,some l2=>bif ieq (or2 (xE l l2) (zEp (val l2))) 0 then some (.tu [unL (kG (val l / val l2)),unL (kG (val l % val l2)),.v (.int .i64 0)],true)else none
  | _,_=>none)
 | _=>none
theorem jBp{ts:List T}{tv:T}{nw:Bool}(h:dmE ts=some (tv,nw))(k:Nat):KnP Tryz.prog k 117 ts tv nw:=by
 unfold dmE at h;split at h
 ·rename_i x y;split at h
  ·rename_i l l2 e1 e2;cases hb:ieq (or2 (xE l l2) (zEp (val l2))) 0 with
   | false=>simp[hb]at h
   | true=>
    simp only[hb,cond_true,Option.some.injEq,Prod.mk.injEq]at h;obtain⟨rfl,rfl⟩:=h;intro B w X qC R _ _ hX hR hK;match qC,hR with
    | [vx,vy],⟨hx,hy,_⟩=>
     obtain⟨ad,n,c,rfl,h1⟩:=zAu e1 hx;obtain⟨ad2,n2,c2,rfl,h2⟩:=zAu e2 hy;have h0:or2 (xE l l2) (zEp (val l2))=0:=by rw[zLx]at hb;simpa using hb
     refine(zNt w X hX ad n c l h1 ad2 n2 c2 l2 h2).mono ?_;rintro e w' ⟨hu,v,rfl,hv⟩;rcases hv with⟨hne,_⟩ | ⟨_,u,u2,q1,q2,a1,b1,c1,a2,b2,c3,rfl,hq,_,hr,_⟩
     ·exact absurd h0 hne
     ·obtain⟨_,_,_,rfl,f1⟩:=hq.natV;obtain⟨_,_,_,rfl,f2⟩:=hr.natV;refine hK _ w' hu ?_;exact Rep.mkTu (vs:=[_,_,_]) ⟨zNp (f1 (old w) fun _ _ h=>h).lim,zNp (f2 (old w) fun _ _ h=>h).lim,.v rfl,trivial⟩
  ·cases h
 ·cases h
noncomputable def tb1:List (Nat×(List T→Option (T×Bool))):=(112,qBs)::(117,dmE)::tb0
theorem qHh:zL Tryz.prog (zR tb1):=fF (fun _ _ _ h k=>qRb h k) (fF (fun _ _ _ h k=>jBp h k) jAp)
end Go.Proofs.YtjnpoeilfdbaaaaGreatDoor
namespace Go.Proofs.YtjnpoeilfdbaaaaGreatDoor
open Go Go.RowKit Go.Shelf IntKind
set_option maxRecDepth 100000
def qRa:Go.Shelf.Ren:=⟨fun | 15=>23 | n=>n,fun | 22=>22 | 3=>3 | 4=>4 | n=>n,fun n=>n⟩
theorem qIr:Go.Proofs.Lays2.n15 Tryz.prog qRa:={mixed:=by kernel_rfl,f15:=Tryz.func23.trans (congrArg some (by kernel_rfl)),t3:=Tryz.underlying3,a3:=Tryz.isAgg3,z3:=Tryz.sizeOf3,v3:=Tryz.zeroValue3,t4:=Tryz.underlying4,a4:=Tryz.isAgg4,z4:=Tryz.sizeOf4,v4:=Tryz.zeroValue4,t22:=Tryz.underlying22,a22:=Tryz.isAgg22,z22:=Tryz.sizeOf22,v22:=Tryz.zeroValue22,i3:=by kernel_rfl}
end Go.Proofs.YtjnpoeilfdbaaaaGreatDoor

import Derived.Test.YtdfmdiakjdggbaaGreatDoorBaseA
import Derived.Test.YtdfmdiakjdggbaaGreatDoorBaseB
set_option linter.unusedVariables false
set_option linter.unusedSimpArgs false
set_option linter.unnecessarySimpa false
namespace Go.Proofs.YtdfmdiakjdggbaaGreatDoor
open Go Go.Gv Go.RowKit IntKind
set_option maxRecDepth 100000
set_option maxHeartbeats 1000000
theorem bR{x y:Nat}(h:qC (x:Int) (y:Int)≥0):y≤x:=zMt (by omega)
theorem mO{x y:Nat}(h:¬qC (x:Int) (y:Int)≥0):x<y:=zMu (by omega)
theorem zZl(w:World)(X:Hid)(hX:∀k o,X k o→k<w.heap.size)(ad:Option Addr)(len cap:Nat)(l:List Nat)(h:zL (rd w X) ad len cap l)(ad2:Option Addr)(len2 Q2:Nat)(l2:List Nat)(h2:zL (rd w X) ad2 len2 Q2 l2)(J1:zQ l)(J2:zQ l2)(hl1:len≤512)(hl2:len2≤512)(hd:0<val l2):Calls Tryz.prog 268 #[.slice ad len cap,.slice ad2 len2 Q2] w (Ret E0 w fun w' v=>∃u u2 lq lr ad len cap ad2 len2 Q2,v= .tuple #[u,u2]∧bC 214 w w' u lq ad len cap (val l / val l2)∧bC 214 w w' u2 lr ad2 len2 Q2 (val l % val l2)):=by
 obtain rfl:=h.hlen;obtain rfl:=h2.hlen;have hcap:=h.hcap;have hbig:=h.hbig;have hcap2:=h2.hcap;have hbig2:=h2.hbig;refine zKb (n:=38) (vs:=[.slice ad l.length cap,.slice ad2 l2.length Q2]) Tryz.func268 rfl rfl rfl kr (fun a0 G0=>?_);have G0:Fr 38 a0 [(0,.slice ad l.length cap),(1,.slice ad2 l2.length Q2)]:=G0;have C0:St E0 w X w X []:=St.start hX;refine zG (fun K1 Z1=>?_);refine zC ?_;refine qK G0 kr (nN (d:=3) (fun b=> .pointer (some ⟨b,0,none⟩)) (.cells #[.slice ad2 l2.length Q2] 26 (0,0)) G0 kr C0 kw ?_);intro b2 w2 Y2 C2 y2 P2 a3 G3;refine qK G3 kr (nN (d:=4) (fun b=> .pointer (some ⟨b,0,none⟩)) (.cells #[.slice none 0 0] 26 (0,0)) G3 kr C2 kw ?_);intro b4 w4 Y4 C4 y4 P4 a5 G5;refine qK G5 kr (nN (d:=5) (fun b=> .pointer (some ⟨b,0,none⟩)) (.cells #[.slice none 0 0] 26 (0,0)) G5 kr C4 kw ?_);intro b6 w6 Y6 C6 y6 P6 a7 G7;refine zH ?_;refine zA (Z1 _ _ ?_);refine zG (fun K8 Z8=>?_);refine zC ?_;refine zD 2 [(9,.int .i64 (l.length:Int)),(8,.slice ad l.length cap)] G7 kr kr (fun a9 G9=>?_);refine qK G9 kr (zUc (d:=10) (t:=26) (e:=214) (m:=l.length) (l:=(l.length:Int)) (z:= .int .u32 0) (i0:=Tryz.t214) G9 kr C6 rfl kr (by first | rfl | omega) kr kr kr kr kr (by show 4*_≤_;omega) (by omega) ?_)
 intro b10 w10 Y10 C10 y10 P10 a11 G11;have D10:=zS.zeros l.length (by simp only[maxLen];omega)
 refine qK G11 kr (zF (t:=26) (b:=b4) (off:=0) (c':=#[.slice (some ⟨b10,0,none⟩) l.length l.length]) (g:=false) (m:=1) 2 _ G11 kr C10 rfl kr rfl kr kr kr rfl (by first | decide | (simp;done)) kr rfl ?_)
 intro w12 C12 y12;refine zH ?_;refine zA (Z8 _ _ ?_);refine zG (fun K13 Z13=>?_);refine zG (fun K14 Z14=>?_);refine zC ?_;refine zD 1 [(11,.slice ad l.length cap)] G11 kr kr (fun a15 G15=>?_);refine qK G15 kr (jY (d:=12) (f:=284) (cap:=#[]) (vs:=#[.slice ad l.length cap]) G15 kr C12 rfl kr kr (fun w=>Tryz.call284 _ w) (zZi _ _ C12.lt ad l.length cap) ?_);rintro v16 w16 C16 y16 P16 ⟨bx16,rfl,hge16,hget16⟩ a17 G17;have C18:=St.adopt C16 (fun o h=>Nat.not_lt.2 hge16 (C12.lt _ _ h)) (Nat.le_trans C12.upd.size hge16) hget16;have y18:=Le.adopt y16 hge16;refine zH ?_;refine zA (Z14 _ _ ?_);refine jX ?_;refine zEj (f:=297) (caps:=#[.pointer (some ⟨bx16,0,none⟩)]) G17 C18 kr kr (fun args w=>Tryz.call297 args w) fun rec19 l19 b19 w19 Y19 hr19 C19 y19 P19=>?_;have G20:=zAs b19 G17;refine zVr l19 bx16 ad l.length cap l (by omega) (fun k w'=>∃(Y':Hid)(curq:Array Value)(lq:List Nat)(rb:List (Nat×Obj))(adr:Option Addr)(capr:Nat)(lr:List Nat)(q:Nat),St E0 w X w' Y' ((l19,.loop rec19)::(b19,.deferred (some []))::(bx16,.cells #[.slice ad l.length cap] 26 (0,0))::(b10,.cells curq 214 (0,0))::(b6,.cells #[.slice adr lr.length capr] 26 (0,0))::(b4,.cells #[.slice (some ⟨b10,0,none⟩) l.length l.length] 26 (0,0))::(b2,.cells #[.slice ad2 l2.length Q2] 26 (0,0))::rb)∧Le (rd w19 Y19) (rd w' Y')∧(zS l.length l.length curq lq)∧(RSt 214 rb adr capr lr)∧(zQ lr)∧(val lq=2^k*q)∧(val l / 2^k=q*val l2+val lr)∧(val lr<val l2)) _ _ ((h.mono (Le7 y2 y4 y6 y10 y12 y18 y19)).mono Le.x0) ?_ ?_ ?_ ?_ (C19.at0 2 rfl rfl) ?_
 rintro k w21 ⟨Y21,curq,lq,rb,adr,capr,lr,q,C21,y21,hp21_0,hp21_1,hp21_2,hp21_3,hp21_4,hp21_5⟩;exact C21.at0 2 rfl rfl;rintro k w22 ⟨Y22,curq,lq,rb,adr,capr,lr,q,C22,y22,hp22_0,hp22_1,hp22_2,hp22_3,hp22_4,hp22_5⟩;intro hk;obtain⟨b,off,rfl,_⟩:=h.addr (by omega)
 exact⟨b,off,rfl,((h.cell (i:=k / 32) (by omega)).mono (Le8 y2 y4 y6 y10 y12 y18 y19 y22)).mono Le.x0⟩
 intro k w23 hk;rintro⟨Y23,curq,lq,rb,adr,capr,lr,q,C23,y23,hp23_0,hp23_1,hp23_2,hp23_3,hp23_4,hp23_5⟩;refine zGf (p:=13) (q:=14) hr19 G17 C23 kr kr (fun a24 G24=>?_);have hkl:k / 32<l.length:=by omega
 have hrowq:=hp23_0;have hrst:=hp23_1;have hcanlr:=hp23_2;have hvq:=hp23_3;have hdiv:=hp23_4;have hlt:=hp23_5;rcases hrst with⟨rfl,rfl,rfl,rfl⟩ | ⟨gr,curr,rfl,rfl,hrowr⟩
 refine zG (fun K25 Z25=>?_);refine zC ?_;refine zD 1 [(6,.int .i64 (k:Int))] G24 kr kr (fun a26 G26=>?_);refine zH ?_;refine zA (Z25 _ _ ?_);refine zC ?_;refine zD 1 [(7,.int .u32 ((val l / 2^k % 2:Nat):Int))] G26 kr kr (fun a27 G27=>?_);refine zH ?_;refine zA ?_;refine zAe hr19 C23 (fun w28 C28 y28=>?_);refine jX ?_;refine zG (fun K29 Z29=>?_);refine zC ?_;refine qK G27 kr (zE (d:=15) (v:= .slice none 0 0) G27 kr (zB (t:=26) (g:=false) (vs:=[.slice none 0 0]) (ad:=⟨b6,0,none⟩) rfl kr kr ir (C28.cells 4 rfl rfl)) ?_);intro a30 G30;refine zD 1 [(16,.int .u32 ((val l / 2^k % 2:Nat):Int))] G30 kr kr (fun a31 G31=>?_);refine qK G31 kr (jY (d:=17) (f:=227) (cap:=#[]) (vs:=#[.slice none 0 0,.int .u32 ((val l / 2^k % 2:Nat):Int)]) G31 kr C28 rfl kr kr (fun w=>Tryz.call227 _ w) (zQj _ X0 (zT _) (val l / 2^k % 2) (by omega)) ?_)
 rintro v32 w32 C32 y32 P32 ⟨ls32,ad32,len32,Q32,⟨⟨rfl,hl32,hlt32,ho32⟩,hcan32,hval32⟩,hlen32⟩ a33 G33;have hx32:val ls32=2*val ([]:List Nat)+val l / 2^k % 2:=by simp only[val];omega
 rcases ho32 with⟨rfl,rfl,rfl⟩ | ⟨g32,T32,rfl,hge32,hget32,D32⟩
 have hn32:ls32=[]:=List.eq_nil_of_length_eq_zero hl32.symm;subst hn32;refine qK G33 kr (zF (t:=26) (b:=b6) (off:=0) (c':=#[.slice none 0 0]) (g:=false) (m:=1) 4 _ G33 kr C32 rfl kr rfl kr kr kr rfl (by first | decide | (simp;done)) kr rfl ?_)
 intro w36 C36 y36;refine zH ?_;refine zA (Z29 _ _ ?_);refine zG (fun K37 Z37=>?_);refine zC ?_;refine qK G33 kr (zE (d:=18) (v:= .slice none 0 0) G33 kr (zB (t:=26) (g:=false) (vs:=[.slice none 0 0]) (ad:=⟨b6,0,none⟩) rfl kr kr ir (C36.cells 4 rfl rfl)) ?_);intro a38 G38;refine qK G38 kr (zE (d:=19) (v:= .slice ad2 l2.length Q2) G38 kr (zB (t:=26) (g:=false) (vs:=[.slice ad2 l2.length Q2]) (ad:=⟨b2,0,none⟩) rfl kr kr ir (C36.cells 6 rfl rfl)) ?_);intro a39 G39;refine qK G39 kr (jY (d:=20) (f:=225) (cap:=#[]) (vs:=#[.slice none 0 0,.slice ad2 l2.length Q2]) G39 kr C36 rfl kr kr (fun w=>Tryz.call225 _ w) (aL _ X0 (zT _) _ _ _ ([]) (zL.nil none (by omega)) _ _ _ l2 ((h2.mono (qEx y2 y4 y6 y10 y12 y18 y19 y23 y28 y32 y36)).mono Le.x0) (.inl rfl) J2 (by omega)) ?_)
 rintro v40 w40 C40 y40 P40 rfl a41 G41;refine zD 1 [(21,.bool (decide ((qC (val ([])) (val l2))≥0)))] G41 kr kr (fun a42 G42=>?_);refine zH ?_;refine zA (Z37 _ _ ?_);refine sK (decide ((qC (val ([])) (val l2))≥0)) G42 kr kr (fun J43=>?_) (fun J43=>?_);have G44:=G42.set 21 (v':= .bool true) kr rfl (zK J43);have F45:(qC (val ([])) (val l2))≥0:=of_decide_eq_true J43;have hcmp:=bR F45;simp only[val]at hcmp;omega;have G46:=G42.set 21 (v':= .bool false) kr rfl (zK J43);have F47:¬((qC (val ([])) (val l2))≥0):=of_decide_eq_false J43;have hcmp:=mO F47;refine xV ?_;refine jP ?_;refine nV hr19 C40 (fun w48 C48 y48=>kP.next ?_);exact⟨_,curq,lq,[],none,0,[],(2*q),C48,(Le6 y23 y28 y32 y36 y40 y48),hrowq,.inl ⟨rfl,rfl,rfl,rfl⟩,(.inl rfl),by rw[hvq,Nat.pow_succ];ac_rfl,zZk hdiv hx32,hcmp⟩
 subst hl32;have C34:=St.adopt C32 (fun o h=>Nat.not_lt.2 hge32 (C28.lt _ _ h)) (Nat.le_trans C28.upd.size hge32) hget32;have y34:=Le.adopt y32 hge32;have C35:=St.mid (B:=[]) [(l19,.loop (zMn rec19)),(b19,.deferred (some [])),(bx16,.cells #[.slice ad l.length cap] 26 (0,0)),(b10,.cells curq 214 (0,0)),(b6,.cells #[.slice none 0 0] 26 (0,0)),(b4,.cells #[.slice (some ⟨b10,0,none⟩) l.length l.length] 26 (0,0)),(b2,.cells #[.slice ad2 l2.length Q2] 26 (0,0))] C34;have y35:Le (rd w32 (bY g32 Y23)) (rd w32 (bY g32 Y23)):=Le.refl _;refine qK G33 kr (zF (t:=26) (b:=b6) (off:=0) (c':=#[.slice (some ⟨g32,0,none⟩) ls32.length Q32]) (g:=false) (m:=1) 4 _ G33 kr C35 rfl kr rfl kr kr kr rfl (by first | decide | (simp;done)) kr rfl ?_)
 intro w49 C49 y49;refine zH ?_;refine zA (Z29 _ _ ?_);refine zG (fun K50 Z50=>?_);refine zC ?_;refine qK G33 kr (zE (d:=18) (v:= .slice (some ⟨g32,0,none⟩) ls32.length Q32) G33 kr (zB (t:=26) (g:=false) (vs:=[.slice (some ⟨g32,0,none⟩) ls32.length Q32]) (ad:=⟨b6,0,none⟩) rfl kr kr ir (C49.cells 4 rfl rfl)) ?_);intro a51 G51;refine qK G51 kr (zE (d:=19) (v:= .slice ad2 l2.length Q2) G51 kr (zB (t:=26) (g:=false) (vs:=[.slice ad2 l2.length Q2]) (ad:=⟨b2,0,none⟩) rfl kr kr ir (C49.cells 6 rfl rfl)) ?_);intro a52 G52;refine qK G52 kr (jY (d:=20) (f:=225) (cap:=#[]) (vs:=#[.slice (some ⟨g32,0,none⟩) ls32.length Q32,.slice ad2 l2.length Q2]) G52 kr C49 rfl kr kr (fun w=>Tryz.call225 _ w) (aL _ X0 (zT _) _ _ _ ls32 (zS.limbs (Y:=X0) D32 (C49.get 7 rfl) (fun _ h=>h.elim)) _ _ _ l2 ((h2.mono (qLm y2 y4 y6 y10 y12 y18 y19 y23 y28 y34 y35 y49)).mono Le.x0) hcan32 J2 (by omega)) ?_)
 rintro v53 w53 C53 y53 P53 rfl a54 G54;refine zD 1 [(21,.bool (decide ((qC (val ls32) (val l2))≥0)))] G54 kr kr (fun a55 G55=>?_);refine zH ?_;refine zA (Z50 _ _ ?_);refine sK (decide ((qC (val ls32) (val l2))≥0)) G55 kr kr (fun J56=>?_) (fun J56=>?_);have G57:=G55.set 21 (v':= .bool true) kr rfl (zK J56);have F58:(qC (val ls32) (val l2))≥0:=of_decide_eq_true J56;have hcmp:=bR F58;obtain⟨hset1,hset2,hset3⟩:=zLi lq hrowq.lt k q (by rw[hrowq.len];exact hkl) hvq
 refine zG (fun K59 Z59=>?_);refine zC ?_;refine qK G57 kr (zE (d:=22) (v:= .slice (some ⟨g32,0,none⟩) ls32.length Q32) G57 kr (zB (t:=26) (g:=false) (vs:=[.slice (some ⟨g32,0,none⟩) ls32.length Q32]) (ad:=⟨b6,0,none⟩) rfl kr kr ir (C53.cells 4 rfl rfl)) ?_);intro a60 G60;refine qK G60 kr (zE (d:=23) (v:= .slice ad2 l2.length Q2) G60 kr (zB (t:=26) (g:=false) (vs:=[.slice ad2 l2.length Q2]) (ad:=⟨b2,0,none⟩) rfl kr kr ir (C53.cells 6 rfl rfl)) ?_);intro a61 G61;refine qK G61 kr (aI (d:=24) (f:=226) (cap:=#[]) (vs:=#[.slice (some ⟨g32,0,none⟩) ls32.length Q32,.slice ad2 l2.length Q2]) 7 G61 kr C53 rfl kr kr (fun w=>Tryz.call226 _ w) rfl (wY _ g32 ls32.length Q32 _ ls32 (C53.get 7 rfl) D32 (by omega) _ _ _ l2 ((h2.mono (Le13 y2 y4 y6 y10 y12 y18 y19 y23 y28 y34 y35 y49 y53)).mono (C53.leHG 7 rfl)) (zV D32.lt J2 (by omega)) (by omega)) ?_)
 rintro v62 w62 ob62 ⟨T62,ls62,rfl,hg62,D62,hcan62,hval62⟩ hob62 C62 y62 a63 G63;obtain rfl:=Option.some.inj (hob62.symm.trans hg62);refine qK G63 kr (zF (t:=26) (b:=b6) (off:=0) (c':=#[.slice (some ⟨g32,0,none⟩) ls62.length Q32]) (g:=false) (m:=1) 4 _ G63 kr C62 rfl kr rfl kr kr kr rfl (by first | decide | (simp;done)) kr rfl ?_)
 intro w64 C64 y64;refine zH ?_;refine zA (Z59 _ _ ?_);refine gZ (N:=11) (yA [(⟨b4,0,none⟩,[.slice (some ⟨b10,0,none⟩) l.length l.length]),(⟨b10,k / 32,none⟩,[.int .u32 ((lq.getD (k / 32) 0:Nat):Int)])]) [10] kr kr kr C64 fun w65 C65 y65 P65=>?_;refine pQ (yA.cons (C65.cells 5 rfl rfl) (yA.cons (C65.rowCells 3 rfl hrowq (by have:=hrowq.len;(try simp only[List.length_set]at *);omega)) (yA.nil _))) (fun hH65=>?_)
 refine sW (d:=25) (v:= .slice (some ⟨b10,0,none⟩) l.length l.length) 0 G63 rfl kr kr kr (fun w hw=>zB (t:=26) (g:=false) (vs:=[.slice (some ⟨b10,0,none⟩) l.length l.length]) (ad:=⟨b4,0,none⟩) rfl kr kr ir (hw.get 0 kr)) hH65 ?_;intro a66 G66;refine zJ (d:=26) (v:= .int .i64 (k:Int)) 1 G66 rfl kr kr kw (fun _=>hH65) fun a67 G67=>?_;refine zJ (d:=27) (v:= .int .i64 (i64.wrap (Int.tdiv ((k:Int)) (32)))) 2 G67 rfl kr kr kw (fun _=>hH65) fun a68 G68=>?_;have G69:=G68.set 27 (v':= .int .i64 ((k / 32:Nat):Int)) kr rfl (zO (lV _ (by omega)))
 refine zJ (d:=28) (v:= .pointer (some ⟨b10,k / 32,none⟩)) 3 G69 rfl kr kr (fun w=>qQ (t:=26) (e:=214) (b:=b10) (off:=0) (len:=l.length) (cap:=l.length) (kd:= .i64) (i:=((k / 32:Nat):Int)) (g:=false) (m:=1) (off':=k / 32) rfl kr kr kr kr (by omega) (by omega) (by first | rfl | omega | (simp;done) | (simp;omega)) w) (fun _=>hH65) fun a70 G70=>?_
 refine sW (d:=29) (v:= .int .u32 ((lq.getD (k / 32) 0:Nat):Int)) 4 G70 rfl kr kr kr (fun w hw=>zB (t:=214) (g:=false) (vs:=[.int .u32 ((lq.getD (k / 32) 0:Nat):Int)]) (ad:=⟨b10,k / 32,none⟩) rfl kr kr ir (hw.get 1 kr)) hH65 ?_;intro a71 G71;refine zJ (d:=30) (v:= .int .i64 (k:Int)) 5 G71 rfl kr kr kw (fun _=>hH65) fun a72 G72=>?_;refine zJ (d:=31) (v:= .int .i64 (Int.tmod ((k:Int)) (32))) 6 G72 rfl kr kr kw (fun _=>hH65) fun a73 G73=>?_;have G74:=G73.set 31 (v':= .int .i64 ((k % 32:Nat):Int)) kr rfl (zO (zBo _));refine zJ (d:=32) (v:= .int .u32 ((2^(k % 32):Nat):Int)) 7 G74 rfl kr kr (fun w=>zPf rfl rfl rfl (by omega)) (fun _=>hH65) fun a75 G75=>?_
 refine zJ (d:=33) (v:= .int .u32 (wQ ((lq.getD (k / 32) 0:Nat):Int) ((2^(k % 32):Nat):Int))) 8 G75 rfl kr kr kw (fun _=>hH65) fun a76 G76=>?_;have G77:=G76.set 33 (v':= .int .u32 ((lq.getD (k / 32) 0+2^(k % 32):Nat):Int)) kr rfl (zO hset1);refine zJ (d:=34) (v:= .pointer (some ⟨b10,k / 32,none⟩)) 9 G77 rfl kr kr (fun w=>qQ (t:=26) (e:=214) (b:=b10) (off:=0) (len:=l.length) (cap:=l.length) (kd:= .i64) (i:=((k / 32:Nat):Int)) (g:=false) (m:=1) (off':=k / 32) rfl kr kr kr kr (by omega) (by omega) (by first | rfl | omega | (simp;done) | (simp;omega)) w) (fun _=>hH65) fun a78 G78=>?_
 refine xY [10] kr rfl ?_;refine jN.cons (i:=10) G78 rfl kr (rZ (t:=214) (y:=(lq.getD (k / 32) 0+2^(k % 32))) (k:=k / 32) (e:=((lq.getD (k / 32) 0+2^(k % 32):Nat):Int)) 3 G78 kr C65 rfl rfl rfl (rfl) kr rfl hrowq (by have:=hrowq.len;(try simp only[List.length_set]at *);omega) (hset2) ?_) jN.nil
 intro T79 w79 D79 C79 y79;refine⟨rG kr,?_⟩;refine zBn kr (nrm ?_);refine jP ?_;refine nV hr19 C79 (fun w80 C80 y80=>kP.next ?_);exact⟨_,T79,(lq.set (k / 32) (lq.getD (k / 32) 0+2^(k % 32))),[(g32,.cells T62 214 (0,0))],(some ⟨g32,0,none⟩),Q32,ls62,(2*q+1),C80,(qEx y23 y28 y34 y35 y49 y53 y62 y64 y65 y79 y80),D79,.inr ⟨_,_,rfl,rfl,D62⟩,hcan62,by rw[hset3,hvq,Nat.pow_succ,Nat.mul_add,Nat.mul_one];congr 1;ac_rfl,qFy hdiv (hval62.trans (by rw[hx32])) (by omega),by have:=hval62;omega⟩
 have G81:=G55.set 21 (v':= .bool false) kr rfl (zK J56);have F82:¬((qC (val ls32) (val l2))≥0):=of_decide_eq_false J56;have hcmp:=mO F82;refine xV ?_;refine jP ?_;refine nV hr19 C53 (fun w83 C83 y83=>kP.next ?_);exact⟨_,curq,lq,[(g32,.cells T32 214 (0,0))],(some ⟨g32,0,none⟩),Q32,ls32,(2*q),C83,(Le7 y23 y28 y34 y35 y49 y53 y83),hrowq,.inr ⟨_,_,rfl,rfl,D32⟩,hcan32,by rw[hvq,Nat.pow_succ];ac_rfl,zZk hdiv hx32,hcmp⟩
 refine zG (fun K84 Z84=>?_);refine zC ?_;refine zD 1 [(6,.int .i64 (k:Int))] G24 kr kr (fun a85 G85=>?_);refine zH ?_;refine zA (Z84 _ _ ?_);refine zC ?_;refine zD 1 [(7,.int .u32 ((val l / 2^k % 2:Nat):Int))] G85 kr kr (fun a86 G86=>?_);refine zH ?_;refine zA ?_;refine zAe hr19 C23 (fun w87 C87 y87=>?_);refine jX ?_;refine zG (fun K88 Z88=>?_);refine zC ?_;refine qK G86 kr (zE (d:=15) (v:= .slice (some ⟨gr,0,none⟩) lr.length capr) G86 kr (zB (t:=26) (g:=false) (vs:=[.slice (some ⟨gr,0,none⟩) lr.length capr]) (ad:=⟨b6,0,none⟩) rfl kr kr ir (C87.cells 4 rfl rfl)) ?_);intro a89 G89;refine zD 1 [(16,.int .u32 ((val l / 2^k % 2:Nat):Int))] G89 kr kr (fun a90 G90=>?_);have hlnr:=zV h2.hlt hcanlr (Nat.le_of_lt hlt);refine qK G90 kr (zOi (d:=17) (f:=227) (cap:=#[]) (vs:=#[.slice (some ⟨gr,0,none⟩) lr.length capr,.int .u32 ((val l / 2^k % 2:Nat):Int)]) 7 G90 kr C87 rfl kr kr (fun w=>Tryz.call227 _ w) rfl (zMz _ gr lr.length capr _ lr (C87.get 7 rfl) hrowr (by omega) hcanlr (val l / 2^k % 2) (by omega)) ?_)
 rintro v91 w91 Y91 g91 o91 ⟨T91,Q91,ls91,rfl,rfl,D91,hlen91,hcan91,hval91⟩ C91 y91 a92 G92;refine qK G92 kr (zF (t:=26) (b:=b6) (off:=0) (c':=#[.slice (some ⟨g91,0,none⟩) ls91.length Q91]) (g:=false) (m:=1) 4 _ G92 kr C91 rfl kr rfl kr kr kr rfl (by first | decide | (simp;done)) kr rfl ?_)
 intro w93 C93 y93;refine zH ?_;refine zA (Z88 _ _ ?_);refine zG (fun K94 Z94=>?_);refine zC ?_;refine qK G92 kr (zE (d:=18) (v:= .slice (some ⟨g91,0,none⟩) ls91.length Q91) G92 kr (zB (t:=26) (g:=false) (vs:=[.slice (some ⟨g91,0,none⟩) ls91.length Q91]) (ad:=⟨b6,0,none⟩) rfl kr kr ir (C93.cells 4 rfl rfl)) ?_);intro a95 G95;refine qK G95 kr (zE (d:=19) (v:= .slice ad2 l2.length Q2) G95 kr (zB (t:=26) (g:=false) (vs:=[.slice ad2 l2.length Q2]) (ad:=⟨b2,0,none⟩) rfl kr kr ir (C93.cells 6 rfl rfl)) ?_);intro a96 G96;refine qK G96 kr (jY (d:=20) (f:=225) (cap:=#[]) (vs:=#[.slice (some ⟨g91,0,none⟩) ls91.length Q91,.slice ad2 l2.length Q2]) G96 kr C93 rfl kr kr (fun w=>Tryz.call225 _ w) (aL _ X0 (zT _) _ _ _ ls91 (zS.limbs (Y:=X0) D91 (C93.get 7 rfl) (fun _ h=>h.elim)) _ _ _ l2 ((h2.mono (qEx y2 y4 y6 y10 y12 y18 y19 y23 y87 y91 y93)).mono Le.x0) hcan91 J2 (by omega)) ?_)
 rintro v97 w97 C97 y97 P97 rfl a98 G98;refine zD 1 [(21,.bool (decide ((qC (val ls91) (val l2))≥0)))] G98 kr kr (fun a99 G99=>?_);refine zH ?_;refine zA (Z94 _ _ ?_);refine sK (decide ((qC (val ls91) (val l2))≥0)) G99 kr kr (fun J100=>?_) (fun J100=>?_);have G101:=G99.set 21 (v':= .bool true) kr rfl (zK J100);have F102:(qC (val ls91) (val l2))≥0:=of_decide_eq_true J100;have hcmp:=bR F102;obtain⟨hset1,hset2,hset3⟩:=zLi lq hrowq.lt k q (by rw[hrowq.len];exact hkl) hvq
 refine zG (fun K103 Z103=>?_);refine zC ?_;refine qK G101 kr (zE (d:=22) (v:= .slice (some ⟨g91,0,none⟩) ls91.length Q91) G101 kr (zB (t:=26) (g:=false) (vs:=[.slice (some ⟨g91,0,none⟩) ls91.length Q91]) (ad:=⟨b6,0,none⟩) rfl kr kr ir (C97.cells 4 rfl rfl)) ?_);intro a104 G104;refine qK G104 kr (zE (d:=23) (v:= .slice ad2 l2.length Q2) G104 kr (zB (t:=26) (g:=false) (vs:=[.slice ad2 l2.length Q2]) (ad:=⟨b2,0,none⟩) rfl kr kr ir (C97.cells 6 rfl rfl)) ?_);intro a105 G105;refine qK G105 kr (aI (d:=24) (f:=226) (cap:=#[]) (vs:=#[.slice (some ⟨g91,0,none⟩) ls91.length Q91,.slice ad2 l2.length Q2]) 7 G105 kr C97 rfl kr kr (fun w=>Tryz.call226 _ w) rfl (wY _ g91 ls91.length Q91 _ ls91 (C97.get 7 rfl) D91 (by omega) _ _ _ l2 ((h2.mono (qLm y2 y4 y6 y10 y12 y18 y19 y23 y87 y91 y93 y97)).mono (C97.leHG 7 rfl)) (zV D91.lt J2 (by omega)) (by omega)) ?_)
 rintro v106 w106 ob106 ⟨T106,ls106,rfl,hg106,D106,hcan106,hval106⟩ hob106 C106 y106 a107 G107;obtain rfl:=Option.some.inj (hob106.symm.trans hg106);refine qK G107 kr (zF (t:=26) (b:=b6) (off:=0) (c':=#[.slice (some ⟨g91,0,none⟩) ls106.length Q91]) (g:=false) (m:=1) 4 _ G107 kr C106 rfl kr rfl kr kr kr rfl (by first | decide | (simp;done)) kr rfl ?_)
 intro w108 C108 y108;refine zH ?_;refine zA (Z103 _ _ ?_);refine gZ (N:=11) (yA [(⟨b4,0,none⟩,[.slice (some ⟨b10,0,none⟩) l.length l.length]),(⟨b10,k / 32,none⟩,[.int .u32 ((lq.getD (k / 32) 0:Nat):Int)])]) [10] kr kr kr C108 fun w109 C109 y109 P109=>?_;refine pQ (yA.cons (C109.cells 5 rfl rfl) (yA.cons (C109.rowCells 3 rfl hrowq (by have:=hrowq.len;(try simp only[List.length_set]at *);omega)) (yA.nil _))) (fun hH109=>?_)
 refine sW (d:=25) (v:= .slice (some ⟨b10,0,none⟩) l.length l.length) 0 G107 rfl kr kr kr (fun w hw=>zB (t:=26) (g:=false) (vs:=[.slice (some ⟨b10,0,none⟩) l.length l.length]) (ad:=⟨b4,0,none⟩) rfl kr kr ir (hw.get 0 kr)) hH109 ?_;intro a110 G110;refine zJ (d:=26) (v:= .int .i64 (k:Int)) 1 G110 rfl kr kr kw (fun _=>hH109) fun a111 G111=>?_;refine zJ (d:=27) (v:= .int .i64 (i64.wrap (Int.tdiv ((k:Int)) (32)))) 2 G111 rfl kr kr kw (fun _=>hH109) fun a112 G112=>?_;have G113:=G112.set 27 (v':= .int .i64 ((k / 32:Nat):Int)) kr rfl (zO (lV _ (by omega)))
 refine zJ (d:=28) (v:= .pointer (some ⟨b10,k / 32,none⟩)) 3 G113 rfl kr kr (fun w=>qQ (t:=26) (e:=214) (b:=b10) (off:=0) (len:=l.length) (cap:=l.length) (kd:= .i64) (i:=((k / 32:Nat):Int)) (g:=false) (m:=1) (off':=k / 32) rfl kr kr kr kr (by omega) (by omega) (by first | rfl | omega | (simp;done) | (simp;omega)) w) (fun _=>hH109) fun a114 G114=>?_
 refine sW (d:=29) (v:= .int .u32 ((lq.getD (k / 32) 0:Nat):Int)) 4 G114 rfl kr kr kr (fun w hw=>zB (t:=214) (g:=false) (vs:=[.int .u32 ((lq.getD (k / 32) 0:Nat):Int)]) (ad:=⟨b10,k / 32,none⟩) rfl kr kr ir (hw.get 1 kr)) hH109 ?_;intro a115 G115;refine zJ (d:=30) (v:= .int .i64 (k:Int)) 5 G115 rfl kr kr kw (fun _=>hH109) fun a116 G116=>?_;refine zJ (d:=31) (v:= .int .i64 (Int.tmod ((k:Int)) (32))) 6 G116 rfl kr kr kw (fun _=>hH109) fun a117 G117=>?_;have G118:=G117.set 31 (v':= .int .i64 ((k % 32:Nat):Int)) kr rfl (zO (zBo _));refine zJ (d:=32) (v:= .int .u32 ((2^(k % 32):Nat):Int)) 7 G118 rfl kr kr (fun w=>zPf rfl rfl rfl (by omega)) (fun _=>hH109) fun a119 G119=>?_
 refine zJ (d:=33) (v:= .int .u32 (wQ ((lq.getD (k / 32) 0:Nat):Int) ((2^(k % 32):Nat):Int))) 8 G119 rfl kr kr kw (fun _=>hH109) fun a120 G120=>?_;have G121:=G120.set 33 (v':= .int .u32 ((lq.getD (k / 32) 0+2^(k % 32):Nat):Int)) kr rfl (zO hset1);refine zJ (d:=34) (v:= .pointer (some ⟨b10,k / 32,none⟩)) 9 G121 rfl kr kr (fun w=>qQ (t:=26) (e:=214) (b:=b10) (off:=0) (len:=l.length) (cap:=l.length) (kd:= .i64) (i:=((k / 32:Nat):Int)) (g:=false) (m:=1) (off':=k / 32) rfl kr kr kr kr (by omega) (by omega) (by first | rfl | omega | (simp;done) | (simp;omega)) w) (fun _=>hH109) fun a122 G122=>?_
 refine xY [10] kr rfl ?_;refine jN.cons (i:=10) G122 rfl kr (rZ (t:=214) (y:=(lq.getD (k / 32) 0+2^(k % 32))) (k:=k / 32) (e:=((lq.getD (k / 32) 0+2^(k % 32):Nat):Int)) 3 G122 kr C109 rfl rfl rfl (rfl) kr rfl hrowq (by have:=hrowq.len;(try simp only[List.length_set]at *);omega) (hset2) ?_) jN.nil
 intro T123 w123 D123 C123 y123;refine⟨rG kr,?_⟩;refine zBn kr (nrm ?_);refine jP ?_;refine nV hr19 C123 (fun w124 C124 y124=>kP.next ?_);exact⟨_,T123,(lq.set (k / 32) (lq.getD (k / 32) 0+2^(k % 32))),[(g91,.cells T106 214 (0,0))],(some ⟨g91,0,none⟩),Q91,ls106,(2*q+1),C124,(Le10 y23 y87 y91 y93 y97 y106 y108 y109 y123 y124),D123,.inr ⟨_,_,rfl,rfl,D106⟩,hcan106,by rw[hset3,hvq,Nat.pow_succ,Nat.mul_add,Nat.mul_one];congr 1;ac_rfl,qFy hdiv (hval106.trans (by rw[hval91])) (by omega),by have:=hval106;omega⟩
 have G125:=G99.set 21 (v':= .bool false) kr rfl (zK J100);have F126:¬((qC (val ls91) (val l2))≥0):=of_decide_eq_false J100;have hcmp:=mO F126;refine xV ?_;refine jP ?_;refine nV hr19 C97 (fun w127 C127 y127=>kP.next ?_);exact⟨_,curq,lq,[(g91,.cells T91 214 (0,0))],(some ⟨g91,0,none⟩),Q91,ls91,(2*q),C127,(Le6 y23 y87 y91 y93 y97 y127),hrowq,.inr ⟨_,_,rfl,rfl,D91⟩,hcan91,by rw[hvq,Nat.pow_succ];ac_rfl,zZk hdiv hval91,hcmp⟩
 rintro w128 ⟨Y128,curq,lq,rb,adr,capr,lr,q,C128,y128,hp128_0,hp128_1,hp128_2,hp128_3,hp128_4,hp128_5⟩;refine xD.norm hr19 C128 (fun w129 C129 y129=>?_);have hrowq:=hp128_0;have hrst:=hp128_1;have hcanlr:=hp128_2;have hvq:=hp128_3;have hdiv:=hp128_4;have hlt:=hp128_5;rcases hrst with⟨rfl,rfl,rfl,rfl⟩ | ⟨gr,curr,rfl,rfl,hrowr⟩
 refine jP ?_;refine zA (Z13 _ _ ?_);refine zG (fun K130 Z130=>?_);refine gZ (N:=5) (yA [(⟨b6,0,none⟩,[.slice none 0 0])]) [4] kr kr kr C129 fun w131 C131 y131 P131=>?_;refine pQ (yA.cons (C131.cells 4 rfl rfl) (yA.nil _)) (fun hH131=>?_);refine sW (d:=37) (v:= .slice none 0 0) 2 G20 rfl kr kr kr (fun w hw=>zB (t:=26) (g:=false) (vs:=[.slice none 0 0]) (ad:=⟨b6,0,none⟩) rfl kr kr ir (hw.get 0 kr)) hH131 ?_;intro a132 G132;refine xY [0] kr rfl ?_;refine jN.cons (i:=0) G132 rfl kr (zE (d:=35) (v:= .slice (some ⟨b10,0,none⟩) l.length l.length) G132 kr (zB (t:=26) (g:=false) (vs:=[.slice (some ⟨b10,0,none⟩) l.length l.length]) (ad:=⟨b4,0,none⟩) rfl kr kr ir (C131.cells 5 rfl rfl)) ?_) jN.nil;intro a133 G133;refine xU (yA.cons (C131.cells 4 rfl rfl) (yA.nil _)) (fun hH131=>?_);refine xY [1] kr rfl ?_;refine jN.cons (i:=1) G133 rfl kr (jY (d:=36) (f:=235) (cap:=#[]) (vs:=#[.slice (some ⟨b10,0,none⟩) l.length l.length]) G133 kr C131 rfl kr kr (fun w=>Tryz.call235 _ w) (cZ _ X0 (zT _) _ _ _ lq (zS.limbs (Y:=X0) hrowq (C131.get 3 rfl) (fun _ h=>h.elim))) ?_) jN.nil;rintro v134 w134 C134 y134 P134 rfl a135 G135;refine xU (yA.cons (C134.cells 4 rfl rfl) (yA.nil _)) (fun hH134=>?_);refine xY [3] kr rfl ?_;refine jN.cons (i:=3) G135 rfl kr (zF (t:=26) (b:=b4) (off:=0) (c':=#[.slice (some ⟨b10,0,none⟩) (qI lq) l.length]) (g:=false) (m:=1) 5 _ G135 kr C134 rfl kr rfl kr kr kr rfl (by first | decide | (simp;done)) kr rfl ?_) jN.nil
 intro w136 C136 y136;refine xU (yA.cons (C136.cells 4 rfl rfl) (yA.nil _)) (fun hH136=>?_);refine xY [4] kr rfl ?_;refine jN.cons (i:=4) G135 rfl kr (zF (t:=26) (b:=b6) (off:=0) (c':=#[.slice none 0 0]) (g:=false) (m:=1) 4 _ G135 kr C136 rfl kr rfl kr kr kr rfl (by first | decide | (simp;done)) kr rfl ?_) jN.nil
 intro w137 C137 y137;refine⟨rG kr,?_⟩;refine zBn kr (nrm ?_);refine zA (Z130 _ _ ?_);refine rQ ?_;refine zKc (v:= .tuple #[.slice (some ⟨b10,0,none⟩) (qI lq) l.length,.slice none 0 0]) (rs:=[.cell 4 26,.cell 5 26]) (vs:=[.slice (some ⟨b10,0,none⟩) (qI lq) l.length,.slice none 0 0]) 1 G135 C137 rfl kr kr (fun w138 C138 y138=>?_);refine⟨(Res.cell (ad:=⟨b4,0,none⟩) (cs:=[.slice (some ⟨b10,0,none⟩) (qI lq) l.length]) (g:=false) kr kr kr ir (C138.cells 5 rfl rfl) (Res.cell (ad:=⟨b6,0,none⟩) (cs:=[.slice none 0 0]) (g:=false) kr kr kr ir (C138.cells 4 rfl rfl) Res.nil)),?_⟩;obtain⟨he1,he2⟩:=zQi hdiv hlt hvq;exact⟨C138.upd,_,rfl,_,_,Go.Gv.trimmed lq,[],_,_,_,_,_,_,rfl,⟨⟨rfl,(jB _).symm,xZ hrowq.lt,.inr ⟨_,_,rfl,C138.own_ge 3 rfl,C138.get 3 rfl,hrowq.trimmed⟩⟩,qM _,by rw[qY];exact he1⟩,⟨⟨rfl,rfl,fun x hx=>by simp at hx,.inl ⟨rfl,rfl,rfl⟩⟩,.inl rfl,he2⟩⟩
 refine jP ?_;refine zA (Z13 _ _ ?_);refine zG (fun K139 Z139=>?_);refine gZ (N:=5) (yA [(⟨b6,0,none⟩,[.slice (some ⟨gr,0,none⟩) lr.length capr])]) [4] kr kr kr C129 fun w140 C140 y140 P140=>?_;refine pQ (yA.cons (C140.cells 4 rfl rfl) (yA.nil _)) (fun hH140=>?_);refine sW (d:=37) (v:= .slice (some ⟨gr,0,none⟩) lr.length capr) 2 G20 rfl kr kr kr (fun w hw=>zB (t:=26) (g:=false) (vs:=[.slice (some ⟨gr,0,none⟩) lr.length capr]) (ad:=⟨b6,0,none⟩) rfl kr kr ir (hw.get 0 kr)) hH140 ?_;intro a141 G141;refine xY [0] kr rfl ?_;refine jN.cons (i:=0) G141 rfl kr (zE (d:=35) (v:= .slice (some ⟨b10,0,none⟩) l.length l.length) G141 kr (zB (t:=26) (g:=false) (vs:=[.slice (some ⟨b10,0,none⟩) l.length l.length]) (ad:=⟨b4,0,none⟩) rfl kr kr ir (C140.cells 5 rfl rfl)) ?_) jN.nil;intro a142 G142;refine xU (yA.cons (C140.cells 4 rfl rfl) (yA.nil _)) (fun hH140=>?_);refine xY [1] kr rfl ?_;refine jN.cons (i:=1) G142 rfl kr (jY (d:=36) (f:=235) (cap:=#[]) (vs:=#[.slice (some ⟨b10,0,none⟩) l.length l.length]) G142 kr C140 rfl kr kr (fun w=>Tryz.call235 _ w) (cZ _ X0 (zT _) _ _ _ lq (zS.limbs (Y:=X0) hrowq (C140.get 3 rfl) (fun _ h=>h.elim))) ?_) jN.nil;rintro v143 w143 C143 y143 P143 rfl a144 G144;refine xU (yA.cons (C143.cells 4 rfl rfl) (yA.nil _)) (fun hH143=>?_);refine xY [3] kr rfl ?_;refine jN.cons (i:=3) G144 rfl kr (zF (t:=26) (b:=b4) (off:=0) (c':=#[.slice (some ⟨b10,0,none⟩) (qI lq) l.length]) (g:=false) (m:=1) 5 _ G144 kr C143 rfl kr rfl kr kr kr rfl (by first | decide | (simp;done)) kr rfl ?_) jN.nil
 intro w145 C145 y145;refine xU (yA.cons (C145.cells 4 rfl rfl) (yA.nil _)) (fun hH145=>?_);refine xY [4] kr rfl ?_;refine jN.cons (i:=4) G144 rfl kr (zF (t:=26) (b:=b6) (off:=0) (c':=#[.slice (some ⟨gr,0,none⟩) lr.length capr]) (g:=false) (m:=1) 4 _ G144 kr C145 rfl kr rfl kr kr kr rfl (by first | decide | (simp;done)) kr rfl ?_) jN.nil
 intro w146 C146 y146;refine⟨rG kr,?_⟩;refine zBn kr (nrm ?_);refine zA (Z139 _ _ ?_);refine rQ ?_;refine zKc (v:= .tuple #[.slice (some ⟨b10,0,none⟩) (qI lq) l.length,.slice (some ⟨gr,0,none⟩) lr.length capr]) (rs:=[.cell 4 26,.cell 5 26]) (vs:=[.slice (some ⟨b10,0,none⟩) (qI lq) l.length,.slice (some ⟨gr,0,none⟩) lr.length capr]) 1 G144 C146 rfl kr kr (fun w147 C147 y147=>?_);refine⟨(Res.cell (ad:=⟨b4,0,none⟩) (cs:=[.slice (some ⟨b10,0,none⟩) (qI lq) l.length]) (g:=false) kr kr kr ir (C147.cells 5 rfl rfl) (Res.cell (ad:=⟨b6,0,none⟩) (cs:=[.slice (some ⟨gr,0,none⟩) lr.length capr]) (g:=false) kr kr kr ir (C147.cells 4 rfl rfl) Res.nil)),?_⟩;obtain⟨he1,he2⟩:=zQi hdiv hlt hvq;exact⟨C147.upd,_,rfl,_,_,Go.Gv.trimmed lq,lr,_,_,_,_,_,_,rfl,⟨⟨rfl,(jB _).symm,xZ hrowq.lt,.inr ⟨_,_,rfl,C147.own_ge 3 rfl,C147.get 3 rfl,hrowq.trimmed⟩⟩,qM _,by rw[qY];exact he1⟩,⟨⟨rfl,rfl,hrowr.lt,.inr ⟨_,_,rfl,C147.own_ge 7 rfl,C147.get 7 rfl,hrowr⟩⟩,hcanlr,he2⟩⟩
 intro k w9 P9 hm1 hm2;exact⟨_,(List.replicate l.length (Value.int .u32 0)).toArray,(List.replicate l.length 0),[],none,0,[],0,C19.call P9,P9.le _,D10,.inl ⟨rfl,rfl,rfl,rfl⟩,.inl rfl,by rw[kT];rfl,by rw[Nat.div_eq_of_lt hm1];simp[val],hd⟩
set_option maxHeartbeats 1000000
def zPr(y:Nat):Int:=if y=0 then 14 else 0
theorem zXq(w:World)(X:Hid)(hX:∀k o,X k o→k<w.heap.size)(ad:Option Addr)(len cap:Nat)(l:List Nat)(h:zL (rd w X) ad len cap l)(ad2:Option Addr)(len2 Q2:Nat)(l2:List Nat)(h2:zL (rd w X) ad2 len2 Q2 l2):Calls Tryz.prog 233 #[.slice ad len cap,.slice ad2 len2 Q2] w (Ret E0 w fun w' v=>DivV 214 w w' (or2 (kR l l2) (zPr (val l2))) (val l / val l2) (val l % val l2) v):=by
 obtain rfl:=h.hlen;obtain rfl:=h2.hlen;have hcap:=h.hcap;have hbig:=h.hbig;have hcap2:=h2.hcap;have hbig2:=h2.hbig;refine zen Tryz.func233 ?_;have C0:St E0 w X w X []:=St.start hX;refine zz 12 ?_;refine zc C0 (bH _ X0 (zT _) _ _ _ l (h.mono Le.x0) _ _ _ l2 (h2.mono Le.x0)) ?_;rintro v3 w3 C3 y3 P3 rfl;refine zz 11 ?_;refine zb 11 (b:=((kR l l2)!=0)) (fun J4=>?_) (fun J4=>?_);have F5:(kR l l2)≠0:=by simpa using J4
 refine zz 12 ?_;refine zr' (v:= .tuple #[.slice none 0 0,.slice none 0 0,.int .i64 (kR l l2)]) ?_;exact⟨C3.upd,_,rfl,by rw[aK F5];exact .inl ⟨F5,rfl⟩⟩
 have F6:(kR l l2)=0:=by simpa using J4
 obtain⟨⟨hl1,c1⟩,hl2,c2⟩:=bL F6;refine zz 9 ?_;refine zb 15 (b:=((l2.length:Int)==0)) (fun J7=>?_) (fun J7=>?_);have F8:(l2.length:Int)=0:=by simpa using J7
 have hz:val l2=0:=by rw[List.eq_nil_of_length_eq_zero (by omega:l2.length=0)];rfl
 refine zz 11 ?_;refine zr' (v:= .tuple #[.slice none 0 0,.slice none 0 0,.int .i64 14]) ?_;exact⟨C3.upd,_,rfl,by rw[xL F6,zPr,if_pos hz];exact .inl ⟨by decide,rfl⟩⟩
 have F9:(l2.length:Int)≠0:=by simpa using J7
 have hp:0<val l2:=wK c2 (by rintro rfl;simp at F9)
 refine zz 8 ?_;refine zc C3 (zZl _ X0 (zT _) _ _ _ l ((h.mono y3).mono Le.x0) _ _ _ l2 ((h2.mono y3).mono Le.x0) c1 c2 (by omega) (by omega) hp) ?_
 rintro v11 w11 C11 y11 P11 ⟨u11,v211,lq11,lr11,adq11,lenq11,capq11,adr11,lenr11,capr11,rfl,hq11,hr11⟩;obtain rfl:=hq11.own.hv;obtain rfl:=hr11.own.hv;refine zz 17 ?_;refine zr' (v:= .tuple #[.slice adq11 lenq11 capq11,.slice adr11 lenr11 capr11,.int .i64 0]) ?_;have hsz:=(C3).upd.size;exact⟨C11.upd,_,rfl,by rw[xL F6,zPr,if_neg (by omega)];exact .inr ⟨rfl,_,_,_,_,_,_,_,_,_,_,rfl,hq11.back hsz,Nat.le_trans (zV h.hlt hq11.canon (by rw[hq11.val];exact Nat.div_le_self _ _)) hl1,hr11.back hsz,Nat.le_trans (zV h.hlt hr11.canon (by rw[hr11.val];exact Nat.mod_le _ _)) hl1⟩⟩
set_option maxHeartbeats 1000000
theorem gL{l l2:List Nat}(h:l.length≤512)(hc:zQ l)(h2:l2.length≤512)(J2:zQ l2):kR l l2=0:=by
 unfold kR;rw[zCw h hc,zCw h2 J2];rfl
theorem qRk(w:World)(ad:Option Addr)(len cap x:Nat)(h:zU (rd w X0) ad len cap x)(ad2:Option Addr)(len2 Q2 y:Nat)(h2:zU (rd w X0) ad2 len2 Q2 y)(hx:x<4294967296^512)(hy:y<4294967296^512)(hf:x*y<4294967296^512):Calls Tryz.prog 230 #[.slice ad len cap,.slice ad2 len2 Q2] w (Ret E0 w fun w' v=>∃u,v= .tuple #[u,.int .i64 0]∧zCk w w' u (x*y)):=by
 obtain⟨l,hl,hc,rfl,hn⟩:=h.limbs hx;obtain⟨l2,hl2,J2,rfl,hn2⟩:=h2.limbs hy;refine(qRj w X0 (zT _) ad len cap l hl ad2 len2 Q2 l2 hl2).mono ?_;rintro e w' ⟨hu,v,rfl,hv⟩;obtain⟨u,lr,adr,lenr,capr,rfl,hown,_⟩:=hv.ok (by rw[xL (gL hn hc hn2 J2)];unfold zVx;rw[if_pos hf])
 exact⟨hu,_,rfl,u,rfl,hown.natV⟩
theorem qRe(w:World)(ad:Option Addr)(len cap x:Nat)(h:zU (rd w X0) ad len cap x)(ad2:Option Addr)(len2 Q2 y:Nat)(h2:zU (rd w X0) ad2 len2 Q2 y)(hx:x<4294967296^512)(hy:y<4294967296^512)(hf:x+y<4294967296^512):Calls Tryz.prog 231 #[.slice ad len cap,.slice ad2 len2 Q2] w (Ret E0 w fun w' v=>∃u,v= .tuple #[u,.int .i64 0]∧zCk w w' u (x+y)):=by
 obtain⟨l,hl,hc,rfl,hn⟩:=h.limbs hx;obtain⟨l2,hl2,J2,rfl,hn2⟩:=h2.limbs hy;refine(qRd w X0 (zT _) ad len cap l hl ad2 len2 Q2 l2 hl2).mono ?_;rintro e w' ⟨hu,v,rfl,hv⟩;obtain⟨u,lr,adr,lenr,capr,rfl,hown,_⟩:=hv.ok (by rw[xL (gL hn hc hn2 J2)];unfold zVx;rw[if_pos hf])
 exact⟨hu,_,rfl,u,rfl,hown.natV⟩
theorem qJz(w:World)(ad:Option Addr)(len cap x:Nat)(h:zU (rd w X0) ad len cap x)(ad2:Option Addr)(len2 Q2 y:Nat)(h2:zU (rd w X0) ad2 len2 Q2 y)(hx:x<4294967296^512)(hy:y<4294967296^512)(hf:y≤x):Calls Tryz.prog 232 #[.slice ad len cap,.slice ad2 len2 Q2] w (Ret E0 w fun w' v=>∃u,v= .tuple #[u,.int .i64 0]∧zCk w w' u (x-y)):=by
 obtain⟨l,hl,hc,rfl,hn⟩:=h.limbs hx;obtain⟨l2,hl2,J2,rfl,hn2⟩:=h2.limbs hy;refine(qJy w X0 (zT _) ad len cap l hl ad2 len2 Q2 l2 hl2).mono ?_;rintro e w' ⟨hu,v,rfl,hv⟩;obtain⟨u,lr,adr,lenr,capr,rfl,hown,_⟩:=hv.ok (by rw[xL (gL hn hc hn2 J2)];unfold zRx;rw[if_neg (by omega)])
 exact⟨hu,_,rfl,u,rfl,hown.natV⟩
theorem zXz(w:World)(ad:Option Addr)(len cap x:Nat)(h:zU (rd w X0) ad len cap x)(ad2:Option Addr)(len2 Q2 y:Nat)(h2:zU (rd w X0) ad2 len2 Q2 y)(hx:x<4294967296^512)(hy:y<4294967296^512)(hf:x<y):Calls Tryz.prog 232 #[.slice ad len cap,.slice ad2 len2 Q2] w (Ret E0 w fun _ v=>v= .tuple #[.slice none 0 0,.int .i64 7]):=by
 obtain⟨l,hl,hc,rfl,hn⟩:=h.limbs hx;obtain⟨l2,hl2,J2,rfl,hn2⟩:=h2.limbs hy;refine(qJy w X0 (zT _) ad len cap l hl ad2 len2 Q2 l2 hl2).mono ?_;rintro e w' ⟨hu,v,rfl,hv⟩;have he:or2 (kR l l2) (zRx (val l) (val l2))=7:=by rw[xL (gL hn hc hn2 J2)];unfold zRx;rw[if_pos hf]
 rw[he]at hv;exact⟨hu,_,rfl,hv.err (by decide)⟩
theorem zXs(w:World)(ad:Option Addr)(len cap x:Nat)(h:zU (rd w X0) ad len cap x)(ad2:Option Addr)(len2 Q2 y:Nat)(h2:zU (rd w X0) ad2 len2 Q2 y)(hx:x<4294967296^512)(hy:y<4294967296^512):Calls Tryz.prog 155 #[.slice ad len cap,.slice ad2 len2 Q2] w (Ret E0 w fun w' v=>∃u,v= .tuple #[u,.int .i64 0]∧zCk w w' u (Nat.gcd x y)):=by
 obtain⟨l,hl,hc,rfl,hn⟩:=h.limbs hx;obtain⟨l2,hl2,J2,rfl,hn2⟩:=h2.limbs hy;refine(qRg w X0 (zT _) ad len cap l hl ad2 len2 Q2 l2 hl2).mono ?_;rintro e w' ⟨hu,v,rfl,hv⟩;obtain⟨u,lr,adr,lenr,capr,rfl,hown,_⟩:=hv.ok (gL hn hc hn2 J2);exact⟨hu,_,rfl,u,rfl,hown.natV⟩
theorem zLw(w:World)(ad:Option Addr)(len cap x:Nat)(h:zU (rd w X0) ad len cap x)(ad2:Option Addr)(len2 Q2 y:Nat)(h2:zU (rd w X0) ad2 len2 Q2 y)(hx:x<4294967296^512)(hy:y<4294967296^512)(hd:0<y):Calls Tryz.prog 233 #[.slice ad len cap,.slice ad2 len2 Q2] w (Ret E0 w fun w' v=>∃u u2,v= .tuple #[u,u2,.int .i64 0]∧zCk w w' u (x / y)∧zCk w w' u2 (x % y)):=by
 obtain⟨l,hl,hc,rfl,hn⟩:=h.limbs hx;obtain⟨l2,hl2,J2,rfl,hn2⟩:=h2.limbs hy;refine(zXq w X0 (zT _) ad len cap l hl ad2 len2 Q2 l2 hl2).mono ?_;rintro e w' ⟨hu,v,rfl,hv⟩;have he:or2 (kR l l2) (zPr (val l2))=0:=by rw[xL (gL hn hc hn2 J2)];unfold zPr;rw[if_neg (by omega)]
 rcases hv with⟨h0,_⟩ | ⟨_,u,u2,a1,a2,a3,a4,a5,a6,a7,a8,rfl,hq,_,hr,_⟩
 ·exact absurd he h0
 ·exact⟨hu,_,rfl,u,u2,rfl,hq.natV,hr.natV⟩
theorem zCx(w:World)(ad:Option Addr)(len cap x:Nat)(h:zU (rd w X0) ad len cap x)(hx:x<4294967296^512):Calls Tryz.prog 223 #[.slice ad len cap] w (Ret E0 w fun w' v=>zCk w w' v x):=by
 obtain⟨l,hl,hc,rfl,hn⟩:=h.limbs hx;refine(bQ w X0 (zT _) ad len cap l hl (by rw[hl.hlen];omega)).mono ?_
 rintro e w' ⟨hu,v,rfl,ad',len',cap',hown⟩;exact⟨hu,_,rfl,bC.natV ⟨hown,hc,rfl⟩⟩
theorem qAa(w:World)(x:Nat)(hx:x<18446744073709551616):Calls Tryz.prog 174 #[.int .u64 (x:Int)] w (Ret E0 w fun w' v=>zCk w w' v x):=by
 refine(qNj w X0 (zT _) x hx).mono ?_;rintro e w' ⟨hu,v,rfl,l,ad,len,cap,h1,h2,h3⟩;exact⟨hu,_,rfl,bC.natV ⟨h1,h2,h3⟩⟩
section
variable (w:World)(X:Hid)(hX:∀k o,X k o→k<w.heap.size)
set_option maxHeartbeats 1000000
include hX in
theorem aY(ad:Option Addr)(len cap x:Nat)(h:zU (rd w X) ad len cap x)(ad2:Option Addr)(len2 Q2 y:Nat)(h2:zU (rd w X) ad2 len2 Q2 y)(hx:x<4294967296^512)(hy:y<4294967296^512)(hf:x*y<4294967296^512):Calls Tryz.prog 160 #[.slice ad len cap,.slice ad2 len2 Q2] w (Ret E0 w fun w' v=>mD X w' v (x*y)):=by
 refine zen Tryz.func160 ?_;have C0:St E0 w X w X []:=St.start hX;refine zz 9 ?_;refine zc C0 (qRk _ _ _ _ x (h.mono Le.x0) _ _ _ y (h2.mono Le.x0) (by first | assumption | omega) (by first | assumption | omega) (by first | assumption | omega)) ?_
 rintro v3 w3 C3 y3 P3 ⟨u3,rfl,⟨ad3,len3,Q3,rfl,hn3⟩⟩;have hN3:=hn3 _ C0.lt;refine zz 14 ?_;refine zr' (v:= .slice ad3 len3 Q3) ?_;exact⟨C3.upd,_,rfl,C3.lastN hN3⟩
include hX in
theorem qPk(ad:Option Addr)(len cap x:Nat)(h:zU (rd w X) ad len cap x)(ad2:Option Addr)(len2 Q2 y:Nat)(h2:zU (rd w X) ad2 len2 Q2 y)(hx:x<4294967296^512)(hy:y<4294967296^512)(hf:x+y<4294967296^512):Calls Tryz.prog 161 #[.slice ad len cap,.slice ad2 len2 Q2] w (Ret E0 w fun w' v=>mD X w' v (x+y)):=by
 refine zen Tryz.func161 ?_;have C0:St E0 w X w X []:=St.start hX;refine zz 9 ?_;refine zc C0 (qRe _ _ _ _ x (h.mono Le.x0) _ _ _ y (h2.mono Le.x0) (by first | assumption | omega) (by first | assumption | omega) (by first | assumption | omega)) ?_
 rintro v3 w3 C3 y3 P3 ⟨u3,rfl,⟨ad3,len3,Q3,rfl,hn3⟩⟩;have hN3:=hn3 _ C0.lt;refine zz 14 ?_;refine zr' (v:= .slice ad3 len3 Q3) ?_;exact⟨C3.upd,_,rfl,C3.lastN hN3⟩
include hX in
theorem qBl(ad:Option Addr)(len cap x:Nat)(h:zU (rd w X) ad len cap x)(ad2:Option Addr)(len2 Q2 y:Nat)(h2:zU (rd w X) ad2 len2 Q2 y)(hx:x<4294967296^512)(hy:y<4294967296^512)(hf:y≤x):Calls Tryz.prog 162 #[.slice ad len cap,.slice ad2 len2 Q2] w (Ret E0 w fun w' v=>∃u,v= .tuple #[u,.bool false]∧mD X w' u (x-y)):=by
 refine zen Tryz.func162 ?_;have C0:St E0 w X w X []:=St.start hX;refine zz 11 ?_;refine zc C0 (qJz _ _ _ _ x (h.mono Le.x0) _ _ _ y (h2.mono Le.x0) (by first | assumption | omega) (by first | assumption | omega) (by first | assumption | omega)) ?_
 rintro v3 w3 C3 y3 P3 ⟨u3,rfl,⟨ad3,len3,Q3,rfl,hn3⟩⟩;have hN3:=hn3 _ C0.lt;refine zz 23 ?_;refine zr' (v:= .tuple #[.slice ad3 len3 Q3,.bool false]) ?_;exact⟨C3.upd,_,rfl,_,rfl,C3.lastN hN3⟩
include hX in
theorem qBm(ad:Option Addr)(len cap x:Nat)(h:zU (rd w X) ad len cap x)(ad2:Option Addr)(len2 Q2 y:Nat)(h2:zU (rd w X) ad2 len2 Q2 y)(hx:x<4294967296^512)(hy:y<4294967296^512)(hf:x<y):Calls Tryz.prog 162 #[.slice ad len cap,.slice ad2 len2 Q2] w (Ret E0 w fun w' v=>∃u,v= .tuple #[u,.bool true]∧mD X w' u (y-x)):=by
 refine zen Tryz.func162 ?_;have C0:St E0 w X w X []:=St.start hX;refine zz 11 ?_;refine zc C0 (zXz _ _ _ _ x (h.mono Le.x0) _ _ _ y (h2.mono Le.x0) (by first | assumption | omega) (by first | assumption | omega) (by first | assumption | omega)) ?_
 rintro v3 w3 C3 y3 P3 rfl;refine zz 20 ?_;refine zc C3 (qJz _ _ _ _ y ((h2.mono y3).mono Le.x0) _ _ _ x ((h.mono y3).mono Le.x0) (by first | assumption | omega) (by first | assumption | omega) (by first | assumption | omega)) ?_
 rintro v5 w5 C5 y5 P5 ⟨u5,rfl,⟨ad5,len5,Q5,rfl,hn5⟩⟩;have hN5:=hn5 _ C3.lt;refine zz 15 ?_;refine zr' (v:= .tuple #[.slice ad5 len5 Q5,.bool true]) ?_;exact⟨C5.upd,_,rfl,_,rfl,C5.lastN hN5⟩
include hX in
theorem qHk(ad:Option Addr)(len cap x:Nat)(h:zU (rd w X) ad len cap x)(ad2:Option Addr)(len2 Q2 y:Nat)(h2:zU (rd w X) ad2 len2 Q2 y)(hx:x<4294967296^512)(hy:y<4294967296^512):Calls Tryz.prog 162 #[.slice ad len cap,.slice ad2 len2 Q2] w (Ret E0 w fun w' v=>∃u,v= .tuple #[u,.bool (decide (x<y))]∧mD X w' u (if x<y then y-x else x-y)):=by
 by_cases hf:x<y
 ·rw[if_pos hf,decide_eq_true hf];exact qBm w X hX ad len cap x h ad2 len2 Q2 y h2 hx hy hf
 ·rw[if_neg hf,decide_eq_false hf];exact qBl w X hX ad len cap x h ad2 len2 Q2 y h2 hx hy (by omega)
include hX in
theorem zBp(ad:Option Addr)(len cap x:Nat)(h:zU (rd w X) ad len cap x):Calls Tryz.prog 154 #[.slice ad len cap] w (Ret E0 w fun _ v=>v= .bool (decide (x=1))):=by
 refine zen Tryz.func154 ?_;have C0:St E0 w X w X []:=St.start hX;refine zz 11 ?_;refine zb 6 (b:=((len:Int)==1)) (fun J2=>?_) (fun J2=>?_);have F3:(len:Int)=1:=by simpa using J2
 obtain⟨bk,of,rfl,hx1,hat⟩:=h.one (by omega)
 refine zz 1 ?_;refine zi (b:=bk) (off:=of) (len:=len) (cap:=cap) (kd:= .i64) (i:=0) 1 of ?_ (hoff:=kr);refine zl (hat).cells ?_;refine zz 6 ?_;refine zr' (v:= .bool ((x:Int)==1)) ?_;exact⟨C0.upd,_,rfl,zK (by rw[Bool.eq_iff_iff];simp;omega)⟩
 have F4:(len:Int)≠1:=by simpa using J2
 have hx1:x≠1:=fun e=>by subst e;exact absurd h.of_one (by omega)
 refine zz 9 ?_;refine zr' (v:= .bool false) ?_;exact⟨C0.upd,_,rfl,zK (by simp[hx1])⟩
end
set_option maxHeartbeats 1000000
theorem zBa(w:World)(X:Hid)(hX:∀k o,X k o→k<w.heap.size)(n:Int)(h1: -9223372036854775808≤n)(h2:n≤9223372036854775807):Calls Tryz.prog 97 #[.int .i64 n] w (Ret E0 w fun w' v=>mD X w' v n.natAbs):=by
 refine zen Tryz.func97 ?_;have C0:St E0 w X w X []:=St.start hX;refine zz 12 ?_;refine zt 4 (p:=(n)<0) (fun F2=>?_) (fun F2=>?_);refine zz 5 ?_;refine zs 6 (v:= .int .u64 (IntKind.u64.wrap (n))) (v':= .int .u64 (n+18446744073709551616)) (zO (by rw[pX];omega)) ?_
 refine zz 1 ?_;refine zs 7 (v:= .int .u64 (IntKind.u64.wrap ((0:Int)-(n+18446744073709551616)))) (v':= .int .u64 ((n.natAbs:Nat):Int)) (zO (by rw[pX];omega)) ?_
 refine zc C0 (qAa _ n.natAbs (by omega)) ?_
 rintro v4 w4 C4 y4 P4 ⟨ad4,len4,Q4,rfl,hn4⟩;have hN4:=hn4 _ C0.lt;refine zz 5 ?_;refine zr' (v:= .slice ad4 len4 Q4) ?_;exact⟨C4.upd,_,rfl,C4.lastN hN4⟩;refine zz 7 ?_;refine zs 10 (v:= .int .u64 (IntKind.u64.wrap (n))) (v':= .int .u64 ((n.natAbs:Nat):Int)) (zO (by rw[pX];omega)) ?_
 refine zc C0 (qAa _ n.natAbs (by omega)) ?_
 rintro v6 w6 C6 y6 P6 ⟨ad6,len6,Q6,rfl,hn6⟩;have hN6:=hn6 _ C0.lt;refine zz 4 ?_;refine zr' (v:= .slice ad6 len6 Q6) ?_;exact⟨C6.upd,_,rfl,C6.lastN hN6⟩
theorem qBj(w:World)(X:Hid)(hX:∀k o,X k o→k<w.heap.size)(ad:Option Addr)(len cap x:Nat)(h:zU (rd w X) ad len cap x)(ad2:Option Addr)(len2 Q2 y:Nat)(h2:zU (rd w X) ad2 len2 Q2 y)(sg:Bool)(hx:x<4294967296^512)(hy:y<4294967296^512)(hd:0<y):Calls Tryz.prog 163 #[.agg #[.slice ad len cap,.slice ad2 len2 Q2,.bool sg]] w (Ret E0 w fun w' v=>bD (old w) w' v (mkRat (sgn sg x) y)):=by
 refine zen Tryz.func163 ?_;have C0:St E0 w X w X []:=St.start hX;refine zz 2 ?_;refine zn pn (.cells #[.slice ad len cap,.slice ad2 len2 Q2,.bool sg] 132 (0,0)) C0 fun b3 w3 Y3 C3 y3 P3=>?_;refine zn pn (.cells #[.bool false,.slice none 0 0,.slice none 0 0] 28 (0,0)) C3 fun b5 w5 Y5 C5 y5 P5=>?_;refine zz 7 ?_;refine zo 1 C5 ?_;refine zz 4 ?_;refine zb 10 (b:=((len:Int)==0)) (fun J6=>?_) (fun J6=>?_);have F7:(len:Int)=0:=by simpa using J6
 have hx0:x=0:=h.len0.1 (by omega)
 refine zz 4 ?_;refine zx 0 #[.bool false,.slice none 0 0,.slice none 0 0] C5 fun w8 C8 y8=>?_;refine zz 4 ?_;refine zrS [.cell 2 28] (v:= .agg #[.bool false,.slice none 0 0,.slice none 0 0]) (Res.cM C8 0 Res.nil) ?_;exact⟨C8.upd,_,rfl,by rw[hx0];exact zPt y⟩
 have F9:(len:Int)≠0:=by simpa using J6
 have hx0:x≠0:=fun e=>absurd (h.len0.2 e) (by omega)
 have hgp:0<Nat.gcd x y:=Nat.gcd_pos_of_pos_right _ hd;have hgb:Nat.gcd x y<4294967296^512:=Nat.lt_of_le_of_lt (Nat.gcd_le_right _ hd) hy;have hb1:x / Nat.gcd x y<4294967296^512:=Nat.lt_of_le_of_lt (Nat.div_le_self _ _) hx;have hb2:y / Nat.gcd x y<4294967296^512:=Nat.lt_of_le_of_lt (Nat.div_le_self _ _) hy;refine zz 8 ?_;refine zo 1 C5 ?_;refine zz 2 ?_;refine zo 1 C5 ?_;refine zc C5 (zXs _ _ _ _ x ((h.mono (Le2 y3 y5)).mono Le.x0) _ _ _ y ((h2.mono (Le2 y3 y5)).mono Le.x0) (by first | assumption | omega) (by first | assumption | omega)) ?_
 rintro v11 w11 C11 y11 P11 ⟨u11,rfl,⟨ad11,len11,Q11,rfl,hn11⟩⟩;have hN11:=hn11 _ C5.lt;refine zz 10 ?_;refine zc C11 (zBp _ _ C11.lt _ _ _ (Nat.gcd x y) hN11) ?_;rintro v13 w13 C13 y13 P13 rfl;refine zz 3 ?_;refine zb 24 (b:=!(decide (Nat.gcd x y=1))) (fun J14=>?_) (fun J14=>?_);have F15:¬(Nat.gcd x y=1):=by simpa using J14
 refine zz 5 ?_;refine zo 1 C13 ?_;refine zz 1 ?_;have J1_:=(Le3 y3 y5 y11).trans y13;refine zc C13 (zLw _ _ _ _ x ((h.mono J1_).mono Le.x0) _ _ _ (Nat.gcd x y) ((hN11.mono y13).mono Le.x0) (by first | assumption | omega) (by first | assumption | omega) (by assumption)) ?_
 rintro v17 w17 C17 y17 P17 ⟨u17,v217,rfl,⟨ad17,len17,Q17,rfl,hn17⟩,⟨ae17,le17,ce17,rfl,hm17⟩⟩;have hN17:=hn17 _ C13.lt;refine zz 6 ?_;refine zx 1 #[.slice ad17 len17 Q17,.slice ad2 len2 Q2,.bool sg] C17 fun w18 C18 y18=>?_;refine zz 5 ?_;refine zo 1 C18 ?_;refine zz 1 ?_;have J2_:=(J1_.trans y17).trans y18;refine zc C18 (zLw _ _ _ _ y ((h2.mono J2_).mono Le.x0) _ _ _ (Nat.gcd x y) ((hN11.mono (Le3 y13 y17 y18)).mono Le.x0) (by first | assumption | omega) (by first | assumption | omega) (by assumption)) ?_
 rintro v20 w20 C20 y20 P20 ⟨u20,v220,rfl,⟨ad20,len20,Q20,rfl,hn20⟩,⟨ae20,le20,ce20,rfl,hm20⟩⟩;have hN20:=hn20 _ C18.lt;refine zz 6 ?_;refine zx 1 #[.slice ad17 len17 Q17,.slice ad20 len20 Q20,.bool sg] C20 fun w21 C21 y21=>?_;refine zz 3 ?_;refine zdr C21 ?_;refine gz [0] ?_;refine gw 1 1 ?_;refine gz [2,3] ?_;refine gw 4 1 ?_;refine gp (al 7 5 pn (.cells #[.bool false,.slice none 0 0,.slice none 0 0] 28 (0,0))) ?_;have J3_:=(Le2 y18 y20).trans y21;refine gC 5 (fun w22 Y22 _ C22 y22=>(zCx _ _ _ _ (x / (Nat.gcd x y)) ((hN17.mono (J3_.trans y22)).mono Le.x0) (by first | assumption | omega))) ?_ (hPd:=yO.nil.k)
 rintro v23 w22 Y23 w23 C22 y23 ⟨ad23,len23,Q23,rfl,hn23⟩;have hN23:=hn23 _ C22.lt;refine gz [6] ?_;refine gs1 (fun b24=>?_) yO.nil.k;refine gX 8 0 #[.bool sg,.slice ad23 len23 Q23,.slice none 0 0] fun w25 Y25 y25=>?_;refine mZ (fun w26 Y26 C26 y26=>?_);refine zz 6 ?_;refine zo 2 C26 ?_;have J4_:=(Le3 y21 y23 y25).trans y26;refine zc C26 (zBp _ _ C26.lt _ _ _ (y / (Nat.gcd x y)) (hN20.mono J4_)) ?_;rintro v28 w28 C28 y28 P28 rfl;refine zz 3 ?_;refine zb 58 (b:=!(decide (y / (Nat.gcd x y)=1))) (fun J29=>?_) (fun J29=>?_);have F30:¬(y / (Nat.gcd x y)=1):=by simpa using J29
 refine zz 4 ?_;refine zo 2 C28 ?_;have J5_:=J4_.trans y28;refine zc C28 (zCx _ _ _ _ (y / (Nat.gcd x y)) ((hN20.mono J5_).mono Le.x0) (by first | assumption | omega)) ?_
 rintro v32 w32 C32 y32 P32 ⟨ad32,len32,Q32,rfl,hn32⟩;have hN32:=hn32 _ C28.lt;refine zz 1 ?_;refine zx 0 #[.bool sg,.slice ad23 len23 Q23,.slice ad32 len32 Q32] C32 fun w33 C33 y33=>?_;refine zz 4 ?_;refine zo 0 C33 ?_;refine zx 1 #[.bool sg,.slice ad23 len23 Q23,.slice ad32 len32 Q32] C33 fun w34 C34 y34=>?_;refine zz 3 ?_;refine zrS [.cell 2 28] (v:= .agg #[.bool sg,.slice ad23 len23 Q23,.slice ad32 len32 Q32]) (Res.cM C34 1 Res.nil) ?_;have J6_:=(Le5 y25 y26 y28 y32 y33).trans y34;refine⟨C34.upd,_,rfl,fH hx0 hd (by exact(((hn23 (old _) (fun _ _ h=>h)).mono (Le.own C22.lt C22.upd.size J6_)).mono Le.orr)) ?_⟩
 rw[wR,if_neg F30];exact(((hn32 (old _) (fun _ _ h=>h)).mono (Le.own C28.lt C28.upd.size (Le2 y33 y34))).mono Le.orr);have F35:y / (Nat.gcd x y)=1:=by simpa using J29
 refine zz 5 ?_;refine zo 0 C28 ?_;refine zx 1 #[.bool sg,.slice ad23 len23 Q23,.slice none 0 0] C28 fun w36 C36 y36=>?_;refine zz 3 ?_;refine zrS [.cell 2 28] (v:= .agg #[.bool sg,.slice ad23 len23 Q23,.slice none 0 0]) (Res.cM C36 1 Res.nil) ?_;have J7_:=(Le3 y25 y26 y28).trans y36;refine⟨C36.upd,_,rfl,fH hx0 hd (by exact(((hn23 (old _) (fun _ _ h=>h)).mono (Le.own C22.lt C22.upd.size J7_)).mono Le.orr)) ?_⟩
 rw[wR,if_pos F35];exact(zU.nil none (by omega))
 have F37:Nat.gcd x y=1:=by simpa using J14
 refine zz 4 ?_;refine zdr C13 ?_;refine gz [0] ?_;refine gw 1 1 ?_;refine gz [2,3] ?_;refine gw 4 1 ?_;refine gp (al 7 5 pn (.cells #[.bool false,.slice none 0 0,.slice none 0 0] 28 (0,0))) ?_;have J8_:=(Le3 y3 y5 y11).trans y13;refine gC 5 (fun w38 Y38 _ C38 y38=>(zCx _ _ _ _ x ((h.mono (J8_.trans y38)).mono Le.x0) (by first | assumption | omega))) ?_ (hPd:=yO.nil.k)
 rintro v39 w38 Y39 w39 C38 y39 ⟨ad39,len39,Q39,rfl,hn39⟩;have hN39:=hn39 _ C38.lt;refine gz [6] ?_;refine gs1 (fun b40=>?_) yO.nil.k;refine gX 8 0 #[.bool sg,.slice ad39 len39 Q39,.slice none 0 0] fun w41 Y41 y41=>?_;refine mZ (fun w42 Y42 C42 y42=>?_);refine zz 6 ?_;refine zo 2 C42 ?_;have J9_:=((J8_.trans y39).trans y41).trans y42;refine zc C42 (zBp _ _ C42.lt _ _ _ y (h2.mono J9_)) ?_;rintro v44 w44 C44 y44 P44 rfl;refine zz 3 ?_;refine zb 58 (b:=!(decide (y=1))) (fun J45=>?_) (fun J45=>?_);have F46:¬(y=1):=by simpa using J45
 refine zz 4 ?_;refine zo 2 C44 ?_;have J10_:=J9_.trans y44;refine zc C44 (zCx _ _ _ _ y ((h2.mono J10_).mono Le.x0) (by first | assumption | omega)) ?_
 rintro v48 w48 C48 y48 P48 ⟨ad48,len48,Q48,rfl,hn48⟩;have hN48:=hn48 _ C44.lt;refine zz 1 ?_;refine zx 0 #[.bool sg,.slice ad39 len39 Q39,.slice ad48 len48 Q48] C48 fun w49 C49 y49=>?_;refine zz 4 ?_;refine zo 0 C49 ?_;refine zx 1 #[.bool sg,.slice ad39 len39 Q39,.slice ad48 len48 Q48] C49 fun w50 C50 y50=>?_;refine zz 3 ?_;refine zrS [.cell 2 28] (v:= .agg #[.bool sg,.slice ad39 len39 Q39,.slice ad48 len48 Q48]) (Res.cM C50 1 Res.nil) ?_;have J11_:=(Le5 y41 y42 y44 y48 y49).trans y50;refine⟨C50.upd,_,rfl,fH hx0 hd (by rw[F37,Nat.div_one];exact(((hn39 (old _) (fun _ _ h=>h)).mono (Le.own C38.lt C38.upd.size J11_)).mono Le.orr)) ?_⟩
 rw[F37,Nat.div_one];rw[wR,if_neg F46];exact(((hn48 (old _) (fun _ _ h=>h)).mono (Le.own C44.lt C44.upd.size (Le2 y49 y50))).mono Le.orr);have F51:y=1:=by simpa using J45
 refine zz 5 ?_;refine zo 0 C44 ?_;refine zx 1 #[.bool sg,.slice ad39 len39 Q39,.slice none 0 0] C44 fun w52 C52 y52=>?_;refine zz 3 ?_;refine zrS [.cell 2 28] (v:= .agg #[.bool sg,.slice ad39 len39 Q39,.slice none 0 0]) (Res.cM C52 1 Res.nil) ?_;have J12_:=(Le3 y41 y42 y44).trans y52;refine⟨C52.upd,_,rfl,fH hx0 hd (by rw[F37,Nat.div_one];exact(((hn39 (old _) (fun _ _ h=>h)).mono (Le.own C38.lt C38.upd.size J12_)).mono Le.orr)) ?_⟩
 rw[F37,Nat.div_one];rw[wR,if_pos F51];exact(zU.nil none (by omega))
section
variable (w:World)(X:Hid)(hX:∀k o,X k o→k<w.heap.size)
set_option maxHeartbeats 1000000
include hX in
theorem zWj(sg:Bool)(ad:Option Addr)(len cap x:Nat)(h:zU (rd w X) ad len cap x)(ad2:Option Addr)(len2 Q2 y:Nat)(h2:zU (rd w X) ad2 len2 Q2 y):Calls Tryz.prog 82 #[.agg #[.bool sg,.slice ad len cap,.slice ad2 len2 Q2]] w (Ret E0 w fun w' v=>zPx X w' v sg x (if y=0 then 1 else y)):=by
 refine zen Tryz.func82 ?_;have C0:St E0 w X w X []:=St.start hX;refine zz 2 ?_;refine zn pn (.cells #[.bool sg,.slice ad len cap,.slice ad2 len2 Q2] 28 (0,0)) C0 fun b3 w3 Y3 C3 y3 P3=>?_;refine zn pn (.cells #[.slice none 0 0,.slice none 0 0,.bool false] 132 (0,0)) C3 fun b5 w5 Y5 C5 y5 P5=>?_;refine zz 5 ?_;refine zo 1 C5 ?_;refine zz 1 ?_;refine zo 1 C5 ?_;refine zz 2 ?_;refine zo 1 C5 ?_;refine zz 1 ?_;refine zn pn (.cells #[.slice none 0 0,.slice none 0 0,.bool false] 132 (0,0)) C5 fun b7 w7 Y7 C7 y7 P7=>?_;refine zx 0 #[.slice ad len cap,.slice ad2 len2 Q2,.bool sg] C7 fun w8 C8 y8=>?_;refine zz 7 ?_;refine zo 0 C8 ?_;refine zz 4 ?_;refine zb 16 (b:=((len2:Int)==0)) (fun J9=>?_) (fun J9=>?_);have F10:(len2:Int)=0:=by simpa using J9
 have hy0:y=0:=h2.len0.1 (by omega)
 refine zz 2 ?_;refine zn (fun b=> .slice (some ⟨b,0,none⟩) 1 1) (.cells #[.int .u32 1] 214 (0,0)) C8 fun b12 w12 Y12 C12 y12 P12=>?_;refine zz 2 ?_;refine zx 1 #[.slice ad len cap,.slice (some ⟨b12,0,none⟩) 1 1,.bool sg] C12 fun w13 C13 y13=>?_;refine zz 4 ?_;refine zo 1 C13 ?_;refine zx 2 #[.slice ad len cap,.slice (some ⟨b12,0,none⟩) 1 1,.bool sg] C13 fun w14 C14 y14=>?_;refine zz 3 ?_;refine zrS [.cell 2 132] (v:= .agg #[.slice ad len cap,.slice (some ⟨b12,0,none⟩) 1 1,.bool sg]) (Res.cM C14 2 Res.nil) ?_;have J1_:=(Le6 y3 y5 y7 y8 y12 y13).trans y14;exact⟨C14.upd,_,rfl,_,_,_,_,_,_,rfl,(h.mono J1_).mono C14.le,by rw[if_pos hy0];exact qHv (C14.rowX 0 rfl (C14.own_ge 0 rfl) (qHw rfl))⟩
 have F15:(len2:Int)≠0:=by simpa using J9
 have hy0:y≠0:=fun e=>absurd (h2.len0.2 e) (by omega)
 refine zz 5 ?_;refine zo 0 C8 ?_;refine zx 1 #[.slice ad len cap,.slice ad2 len2 Q2,.bool sg] C8 fun w16 C16 y16=>?_;refine zz 3 ?_;refine zrS [.cell 2 132] (v:= .agg #[.slice ad len cap,.slice ad2 len2 Q2,.bool sg]) (Res.cM C16 1 Res.nil) ?_;have J2_:=(Le4 y3 y5 y7 y8).trans y16;exact⟨C16.upd,_,rfl,_,_,_,_,_,_,rfl,(h.mono J2_).mono C16.le,by rw[if_neg hy0];exact(h2.mono J2_).mono C16.le⟩
include hX in
theorem qEd(ad₁:Option Addr)(len₁ cap₁ n₁:Nat)(h₁:zU (rd w X) ad₁ len₁ cap₁ n₁)(ae₁:Option Addr)(le₁ ce₁ d₁:Nat)(k₁:zU (rd w X) ae₁ le₁ ce₁ d₁)(s₁:Bool)(hn₁:n₁<qW)(hd₁:d₁<qW)(ad₂:Option Addr)(len₂ cap₂ n₂:Nat)(h₂:zU (rd w X) ad₂ len₂ cap₂ n₂)(ae₂:Option Addr)(le₂ ce₂ d₂:Nat)(k₂:zU (rd w X) ae₂ le₂ ce₂ d₂)(s₂:Bool)(hn₂:n₂<qW)(hd₂:d₂<qW):Calls Tryz.prog 83 #[.agg #[.slice ad₁ len₁ cap₁,.slice ae₁ le₁ ce₁,.bool s₁],.agg #[.slice ad₂ len₂ cap₂,.slice ae₂ le₂ ce₂,.bool s₂]] w (Ret E0 w fun w' v=>∃s m,zPx X w' v s m (d₁*d₂)∧m<4294967296^512∧sgn s m=sgn s₁ n₁*d₂+sgn s₂ n₂*d₁):=by
 refine zen Tryz.func83 ?_;have C0:St E0 w X w X []:=St.start hX;have hb:∀{x:Nat},x<qW→x<4294967296^512:=fun h=>Nat.lt_of_lt_of_le h qAr;have hbn1:=hb hn₁;have hbn2:=hb hn₂;have hbd1:=hb hd₁;have hbd2:=hb hd₂;obtain⟨hp1,hp12⟩:=jZ hn₁ hd₂ hn₂ hd₁;have hp2:=(jZ hn₂ hd₁ hn₁ hd₂).1;have hpd:=(jZ hd₁ hd₂ hd₁ hd₂).1;have hpn:=(jZ hn₁ hn₂ hd₁ hd₂).1;refine zz 2 ?_;refine zn pn (.cells #[.slice ad₁ len₁ cap₁,.slice ae₁ le₁ ce₁,.bool s₁] 132 (0,0)) C0 fun b3 w3 Y3 C3 y3 P3=>?_;refine zn pn (.cells #[.slice ad₂ len₂ cap₂,.slice ae₂ le₂ ce₂,.bool s₂] 132 (0,0)) C3 fun b5 w5 Y5 C5 y5 P5=>?_;refine zn pn (.cells #[.slice none 0 0,.slice none 0 0,.bool false] 132 (0,0)) C5 fun b7 w7 Y7 C7 y7 P7=>?_;refine zz 3 ?_;refine zdr C7 ?_;refine gz [0,1] ?_;refine gw 2 2 ?_;refine gz [3,4] ?_;refine gw 5 1 ?_;refine gz [7,8] ?_;refine gw 9 1 ?_;refine gz [10,11] ?_;refine gw 12 2 ?_;have J1_:=(Le2 y3 y5).trans y7;refine gC 6 (fun w8 Y8 _ C8 y8=>(aY _ _ C8.lt _ _ _ n₁ (h₁.mono (J1_.trans y8)) _ _ _ d₂ (k₂.mono (J1_.trans y8)) (by first | assumption | omega) (by first | assumption | omega) (by first | assumption | omega))) ?_
 rintro v9 w8 Y9 w9 C8 y9 ⟨ad9,len9,Q9,rfl,hN9⟩;have J2_:=J1_.trans y9;refine gC 13 (fun w10 Y10 _ C10 y10=>(aY _ _ C10.lt _ _ _ n₂ (h₂.mono (J2_.trans y10)) _ _ _ d₁ (k₁.mono (J2_.trans y10)) (by first | assumption | omega) (by first | assumption | omega) (by first | assumption | omega))) ?_
 rintro v11 w10 Y11 w11 C10 y11 ⟨ad11,len11,Q11,rfl,hN11⟩;refine gz [14,15] ?_;refine mZ (fun w12 Y12 C12 y12=>?_);refine zz 2 ?_;refine zdr C12 ?_;refine gz [0,1] ?_;refine gw 2 2 ?_;refine gz [3,4] ?_;refine gw 5 1 ?_;refine gz [8] ?_;refine gw 9 2 ?_;refine gp (al 11 7 pn (.cells #[.slice none 0 0,.slice none 0 0,.bool false] 132 (0,0))) ?_;have J3_:=(J2_.trans y11).trans y12;refine gC 6 (fun w13 Y13 _ C13 y13=>(aY _ _ C13.lt _ _ _ d₁ (k₁.mono (J3_.trans y13)) _ _ _ d₂ (k₂.mono (J3_.trans y13)) (by first | assumption | omega) (by first | assumption | omega) (by first | assumption | omega))) ?_ (hPd:=yO.nil.k)
 rintro v14 w13 Y14 w14 C13 y14 ⟨ad14,len14,Q14,rfl,hN14⟩;refine gz [7,10] ?_;refine gs1 (fun b15=>?_) yO.nil.k;refine gX 12 0 #[.slice none 0 0,.slice ad14 len14 Q14,.bool s₁] fun w16 Y16 y16=>?_;refine mZ (fun w17 Y17 C17 y17=>?_);refine zz 5 ?_;refine zo 3 C17 ?_;refine zz 1 ?_;refine zo 2 C17 ?_;refine zz 3 ?_;refine zb 38 (b:=(s₁==s₂)) (fun J18=>?_) (fun J18=>?_);have F19:s₁=s₂:=by simpa using J18
 refine zz 5 ?_;have J4_:=(Le4 y11 y12 y14 y16).trans y17;have J5_:=(Le3 y12 y14 y16).trans y17;refine zc C17 (qPk _ _ C17.lt _ _ _ (n₁*d₂) (hN9.mono J4_) _ _ _ (n₂*d₁) (hN11.mono J5_) (by first | assumption | omega) (by first | assumption | omega) (by first | assumption | omega)) ?_
 rintro v21 w21 C21 y21 P21 ⟨ad21,len21,Q21,rfl,hN21⟩;refine zz 2 ?_;refine zx 0 #[.slice ad21 len21 Q21,.slice ad14 len14 Q14,.bool s₁] C21 fun w22 C22 y22=>?_;refine zz 4 ?_;refine zo 0 C22 ?_;refine zx 1 #[.slice ad21 len21 Q21,.slice ad14 len14 Q14,.bool s₁] C22 fun w23 C23 y23=>?_;refine zz 4 ?_;refine zrS [.cell 4 132] (v:= .agg #[.slice ad21 len21 Q21,.slice ad14 len14 Q14,.bool s₁]) (Res.cM C23 1 Res.nil) ?_;have J6_:=(Le4 y16 y17 y21 y22).trans y23;have hx9:=(hN21.mono (Le2 y22 y23));exact⟨C23.upd,_,rfl,_,_,⟨_,_,_,_,_,_,rfl,hx9.mono C23.le,(hN14.mono J6_).mono C23.le⟩,hp12,qEe F19 _ _ _ _⟩;have F24:s₁≠s₂:=by simpa using J18
 refine zz 13 ?_;have J7_:=(Le4 y11 y12 y14 y16).trans y17;have J8_:=(Le3 y12 y14 y16).trans y17;refine zc C17 (qHk _ _ C17.lt _ _ _ (n₁*d₂) (hN9.mono J7_) _ _ _ (n₂*d₁) (hN11.mono J8_) (by first | assumption | omega) (by first | assumption | omega)) ?_
 rintro v26 w26 C26 y26 P26 ⟨u26,rfl,⟨ad26,len26,Q26,rfl,hN26⟩⟩;refine zz 5 ?_;refine zx 0 #[.slice ad26 len26 Q26,.slice ad14 len14 Q14,.bool s₁] C26 fun w27 C27 y27=>?_;refine zz 8 ?_;refine zt 53 (p:=(n₁*d₂)<(n₂*d₁)) (fun F28=>?_) (fun F28=>?_);refine zz 3 ?_;refine zo 2 C27 ?_;refine zz 1 ?_;refine zx 0 #[.slice ad26 len26 Q26,.slice ad14 len14 Q14,.bool s₂] C27 fun w29 C29 y29=>?_;refine zz 4 ?_;refine zo 0 C29 ?_;refine zx 1 #[.slice ad26 len26 Q26,.slice ad14 len14 Q14,.bool s₂] C29 fun w30 C30 y30=>?_;refine zz 3 ?_;refine zrS [.cell 4 132] (v:= .agg #[.slice ad26 len26 Q26,.slice ad14 len14 Q14,.bool s₂]) (Res.cM C30 1 Res.nil) ?_;have J9_:=(Le5 y16 y17 y26 y27 y29).trans y30;have hx9:=(hN26.mono (Le3 y27 y29 y30));rw[if_pos F28]at hx9;exact⟨C30.upd,_,rfl,_,_,⟨_,_,_,_,_,_,rfl,hx9.mono C30.le,(hN14.mono J9_).mono C30.le⟩,Nat.lt_of_le_of_lt (Nat.sub_le _ _) hp2,qQr F24 F28⟩;refine zz 5 ?_;refine zo 0 C27 ?_;refine zx 1 #[.slice ad26 len26 Q26,.slice ad14 len14 Q14,.bool s₁] C27 fun w31 C31 y31=>?_;refine zz 3 ?_;refine zrS [.cell 4 132] (v:= .agg #[.slice ad26 len26 Q26,.slice ad14 len14 Q14,.bool s₁]) (Res.cM C31 1 Res.nil) ?_;have J10_:=(Le4 y16 y17 y26 y27).trans y31;have hx9:=(hN26.mono (Le2 y27 y31));rw[if_neg F28]at hx9;exact⟨C31.upd,_,rfl,_,_,⟨_,_,_,_,_,_,rfl,hx9.mono C31.le,(hN14.mono J10_).mono C31.le⟩,Nat.lt_of_le_of_lt (Nat.sub_le _ _) hp1,qQq F24 (by omega)⟩
include hX in
theorem zIr(ad₁:Option Addr)(len₁ cap₁ n₁:Nat)(h₁:zU (rd w X) ad₁ len₁ cap₁ n₁)(ae₁:Option Addr)(le₁ ce₁ d₁:Nat)(k₁:zU (rd w X) ae₁ le₁ ce₁ d₁)(s₁:Bool)(hn₁:n₁<qW)(hd₁:d₁<qW)(ad₂:Option Addr)(len₂ cap₂ n₂:Nat)(h₂:zU (rd w X) ad₂ len₂ cap₂ n₂)(ae₂:Option Addr)(le₂ ce₂ d₂:Nat)(k₂:zU (rd w X) ae₂ le₂ ce₂ d₂)(s₂:Bool)(hn₂:n₂<qW)(hd₂:d₂<qW):Calls Tryz.prog 99 #[.agg #[.slice ad₁ len₁ cap₁,.slice ae₁ le₁ ce₁,.bool s₁],.agg #[.slice ad₂ len₂ cap₂,.slice ae₂ le₂ ce₂,.bool s₂]] w (Ret E0 w fun w' v=>∃s m,zPx X w' v s m (d₁*d₂)∧m<4294967296^512∧sgn s m=sgn s₁ n₁*sgn s₂ n₂):=by
 refine zen Tryz.func99 ?_;have C0:St E0 w X w X []:=St.start hX;have hb:∀{x:Nat},x<qW→x<4294967296^512:=fun h=>Nat.lt_of_lt_of_le h qAr;have hbn1:=hb hn₁;have hbn2:=hb hn₂;have hbd1:=hb hd₁;have hbd2:=hb hd₂;obtain⟨hp1,hp12⟩:=jZ hn₁ hd₂ hn₂ hd₁;have hp2:=(jZ hn₂ hd₁ hn₁ hd₂).1;have hpd:=(jZ hd₁ hd₂ hd₁ hd₂).1;have hpn:=(jZ hn₁ hn₂ hd₁ hd₂).1;refine zz 2 ?_;refine zn pn (.cells #[.slice ad₁ len₁ cap₁,.slice ae₁ le₁ ce₁,.bool s₁] 132 (0,0)) C0 fun b3 w3 Y3 C3 y3 P3=>?_;refine zn pn (.cells #[.slice ad₂ len₂ cap₂,.slice ae₂ le₂ ce₂,.bool s₂] 132 (0,0)) C3 fun b5 w5 Y5 C5 y5 P5=>?_;refine zn pn (.cells #[.slice none 0 0,.slice none 0 0,.bool false] 132 (0,0)) C5 fun b7 w7 Y7 C7 y7 P7=>?_;refine zz 3 ?_;refine zdr C7 ?_;refine gz [0,1] ?_;refine gw 2 2 ?_;refine gz [3,4] ?_;refine gw 5 1 ?_;refine gz [7,8] ?_;refine gw 9 2 ?_;refine gz [10,11] ?_;refine gw 12 1 ?_;refine gz [15] ?_;refine gw 16 2 ?_;refine gz [17] ?_;refine gw 18 1 ?_;refine gz [19] ?_;have J1_:=(Le2 y3 y5).trans y7;refine gC 6 (fun w8 Y8 _ C8 y8=>(aY _ _ C8.lt _ _ _ n₁ (h₁.mono (J1_.trans y8)) _ _ _ n₂ (h₂.mono (J1_.trans y8)) (by first | assumption | omega) (by first | assumption | omega) (by first | assumption | omega))) ?_
 rintro v9 w8 Y9 w9 C8 y9 ⟨ad9,len9,Q9,rfl,hN9⟩;have J2_:=J1_.trans y9;refine gC 13 (fun w10 Y10 _ C10 y10=>(aY _ _ C10.lt _ _ _ d₁ (k₁.mono (J2_.trans y10)) _ _ _ d₂ (k₂.mono (J2_.trans y10)) (by first | assumption | omega) (by first | assumption | omega) (by first | assumption | omega))) ?_
 rintro v11 w10 Y11 w11 C10 y11 ⟨ad11,len11,Q11,rfl,hN11⟩;refine gz [14,20] ?_;refine gX 21 0 #[.slice ad9 len9 Q9,.slice ad11 len11 Q11,.bool (!(s₁==s₂))] fun w12 Y12 y12=>?_;refine mZ (fun w13 Y13 C13 y13=>?_);refine zz 2 ?_;refine zrS [.cell 4 132] (v:= .agg #[.slice ad9 len9 Q9,.slice ad11 len11 Q11,.bool (!(s₁==s₂))]) (Res.cM C13 0 Res.nil) ?_;exact⟨C13.upd,_,rfl,_,_,⟨_,_,_,_,_,_,rfl,(hN9.mono (Le3 y11 y12 y13)).mono C13.le,(hN11.mono (Le2 y12 y13)).mono C13.le⟩,hpn,qJc _ _ _ _⟩
end
set_option maxHeartbeats 1000000
theorem zSq{a:Raw}(h:128<a.ln.length∨128<a.ld.length):a.chk=4:=if_pos h
theorem mK{a:Raw}(h:¬(128<a.ln.length∨128<a.ld.length))(h2:qU a.ln≠0∨qU a.ld≠0∨val a.ld=1∨(val a.ln=0∧(a.neg=true∨0<val a.ld))):a.chk=2:=(if_neg h).trans (if_pos h2)
theorem zSr{a:Raw}(h:¬(128<a.ln.length∨128<a.ld.length))(h2:¬(qU a.ln≠0∨qU a.ld≠0∨val a.ld=1∨(val a.ln=0∧(a.neg=true∨0<val a.ld))))(h3:0<val a.ld∧Nat.gcd (val a.ln) (val a.ld)≠1):a.chk=2:=(if_neg h).trans ((if_neg h2).trans (if_pos h3))
theorem zBy{a:Raw}(h:¬(128<a.ln.length∨128<a.ld.length))(h2:¬(qU a.ln≠0∨qU a.ld≠0∨val a.ld=1∨(val a.ln=0∧(a.neg=true∨0<val a.ld))))(h3:¬(0<val a.ld∧Nat.gcd (val a.ln) (val a.ld)≠1)):a.chk=0:=(if_neg h).trans ((if_neg h2).trans (if_neg h3))
theorem yZ{l:List Nat}(hc:zQ l):l.length=0↔val l=0:=by
 constructor
 ·intro h;rw[List.eq_nil_of_length_eq_zero h];rfl
 ·intro h;rw[dM hc h];rfl
theorem xN(w:World)(X:Hid)(hX:∀k o,X k o→k<w.heap.size)(a:Raw)(ad:Option Addr)(len cap:Nat)(h:zL (rd w X) ad len cap a.ln)(ad2:Option Addr)(len2 Q2:Nat)(h2:zL (rd w X) ad2 len2 Q2 a.ld):Calls Tryz.prog 75 #[.agg #[.bool a.neg,.slice ad len cap,.slice ad2 len2 Q2]] w (Ret E0 w fun _ v=>v= .int .i64 a.chk):=by
 obtain rfl:=h.hlen;obtain rfl:=h2.hlen;have hcap:=h.hcap;have hbig:=h.hbig;have hcap2:=h2.hcap;have hbig2:=h2.hbig;refine zen Tryz.func75 ?_;have C0:St E0 w X w X []:=St.start hX;refine zz 2 ?_;refine zn pn (.cells #[.bool a.neg,.slice ad a.ln.length cap,.slice ad2 a.ld.length Q2] 28 (0,0)) C0 fun b3 w3 Y3 C3 y3 P3=>?_;refine zz 8 ?_;refine zo 0 C3 ?_;refine zz 3 ?_;refine zt 10 (p:=(a.ln.length:Int)>128) (fun F4=>?_) (fun F4=>?_);refine zz 17 ?_;refine zr' (v:= .int .i64 4) ?_;exact⟨C3.upd,_,rfl,zO (zSq (by omega)).symm⟩
 refine zz 1 ?_;refine zo 0 C3 ?_;refine zz 6 ?_;refine zt 5 (p:=(a.ld.length:Int)>128) (fun F5=>?_) (fun F5=>?_);refine zz 9 ?_;refine zr' (v:= .int .i64 4) ?_;exact⟨C3.upd,_,rfl,zO (zSq (by omega)).symm⟩
 have hlong:¬(128<a.ln.length∨128<a.ld.length):=by omega
 refine zz 5 ?_;refine zo 0 C3 ?_;refine zc C3 (zJf _ X0 (zT _) _ _ _ a.ln ((h.mono y3).mono Le.x0)) ?_;rintro v7 w7 C7 y7 P7 rfl;refine zz 2 ?_;refine zb 21 (b:=((qU a.ln)!=0)) (fun J8=>?_) (fun J8=>?_);have F9:(qU a.ln)≠0:=by simpa using J8
 refine zz 20 ?_;refine zr' (v:= .int .i64 2) ?_;exact⟨C7.upd,_,rfl,zO (mK hlong (.inl F9)).symm⟩;have F10:(qU a.ln)=0:=by simpa using J8
 refine zz 1 ?_;refine zo 0 C7 ?_;refine zc C7 (zJf _ X0 (zT _) _ _ _ a.ld ((h2.mono (Le2 y3 y7)).mono Le.x0)) ?_;rintro v12 w12 C12 y12 P12 rfl;refine zz 5 ?_;refine zb 16 (b:=((qU a.ld)!=0)) (fun J13=>?_) (fun J13=>?_);have F14:(qU a.ld)≠0:=by simpa using J13
 refine zz 12 ?_;refine zr' (v:= .int .i64 2) ?_;exact⟨C12.upd,_,rfl,zO (mK hlong (.inr (.inl F14))).symm⟩;have F15:(qU a.ld)=0:=by simpa using J13
 have hcn:=(tL (by simpa using F10:qU a.ln=0)).2
 have hcd:=(tL (by simpa using F15:qU a.ld=0)).2
 have hzn:=yZ hcn;have hzd:=yZ hcd;have hB:(4294967296:Nat)^128≤4294967296^512:=qAr;have hbn:val a.ln<4294967296^512:=Nat.lt_of_lt_of_le ((zR h.hlt hcn 128).1 (by omega)) hB
 have hbd:val a.ld<4294967296^512:=Nat.lt_of_lt_of_le ((zR h2.hlt hcd 128).1 (by omega)) hB
 have hNn:=h.natR hcn;have hNd:=h2.natR hcd;refine zz 4 ?_;refine zo 0 C12 ?_;refine zc C12 (zBp _ _ C12.lt _ _ _ (val a.ld) (hNd.mono (Le3 y3 y7 y12))) ?_;rintro v17 w17 C17 y17 P17 rfl;refine zz 3 ?_;refine zt 16 (p:=(val a.ld)=1) (fun F18=>?_) (fun F18=>?_);refine zz 12 ?_;refine zr' (v:= .int .i64 2) ?_;exact⟨C17.upd,_,rfl,zO (mK hlong (.inr (.inr (.inl (by simpa using F18))))).symm⟩
 refine zz 3 ?_;refine zo 0 C17 ?_;refine zz 3 ?_;refine zb 34 (b:=((a.ln.length:Int)==0)) (fun J19=>?_) (fun J19=>?_);have F20:(a.ln.length:Int)=0:=by simpa using J19
 refine zz 1 ?_;refine zo 0 C17 ?_;refine zz 1 ?_;refine zb 37 (b:=a.neg) (fun J21=>?_) (fun J21=>?_);have F22:a.neg=true:=by simpa using J21
 refine zz 18 ?_;refine zr' (v:= .int .i64 2) ?_;exact⟨C17.upd,_,rfl,zO (mK hlong (.inr (.inr (.inr ⟨by omega,.inl F22⟩)))).symm⟩
 have F23:a.neg=false:=by simpa using J21
 refine zz 1 ?_;refine zo 0 C17 ?_;refine zz 7 ?_;refine zt 16 (p:=(a.ld.length:Int)>0) (fun F24=>?_) (fun F24=>?_);refine zz 9 ?_;refine zr' (v:= .int .i64 2) ?_;exact⟨C17.upd,_,rfl,zO (mK hlong (.inr (.inr (.inr ⟨by omega,.inr (by omega)⟩)))).symm⟩
 have hok:¬(qU a.ln≠0∨qU a.ld≠0∨val a.ld=1∨(val a.ln=0∧(a.neg=true∨0<val a.ld))):=by intro hh;rcases hh with e | e | e | ⟨e,e2⟩;exact(fun x=>absurd (by simpa using F10:qU a.ln=0) x) e;exact(fun x=>absurd (by simpa using F15:qU a.ld=0) x) e;exact(fun x=>absurd x (by simpa using F18)) e;rcases e2 with e2 | e2;rw[F23]at e2;cases e2;omega
 have hz:¬0<val a.ld:=by omega
 refine zz 8 ?_;refine zo 0 C17 ?_;refine zz 4 ?_;refine zt 47 (p:=(a.ld.length:Int)>0) (fun F25=>?_) (fun F25=>?_);refine zz 4 ?_;refine zo 0 C17 ?_;refine zz 1 ?_;refine zo 0 C17 ?_;have J1_:=(Le3 y3 y7 y12).trans y17;refine zc C17 (zXs _ _ _ _ (val a.ln) ((hNn.mono J1_).mono Le.x0) _ _ _ (val a.ld) ((hNd.mono J1_).mono Le.x0) (by first | assumption | omega) (by first | assumption | omega)) ?_
 rintro v27 w27 C27 y27 P27 ⟨u27,rfl,⟨ad27,len27,Q27,rfl,hn27⟩⟩;have hN27:=hn27 _ C17.lt;refine zz 10 ?_;refine zc C27 (zBp _ _ C27.lt _ _ _ (Nat.gcd (val a.ln) (val a.ld)) hN27) ?_;rintro v29 w29 C29 y29 P29 rfl;refine zz 3 ?_;refine zb 58 (b:=!(decide (Nat.gcd (val a.ln) (val a.ld)=1))) (fun J30=>?_) (fun J30=>?_);have F31:¬(Nat.gcd (val a.ln) (val a.ld)=1):=by simpa using J30
 refine zz 8 ?_;refine zr' (v:= .int .i64 2) ?_;exact⟨C29.upd,_,rfl,zO (zSr hlong hok ⟨by omega,by simpa using F31⟩).symm⟩
 have F32:Nat.gcd (val a.ln) (val a.ld)=1:=by simpa using J30
 refine zz 9 ?_;refine zr' (v:= .int .i64 0) ?_;exact⟨C29.upd,_,rfl,zO (zBy hlong hok (fun hh=>hh.2 (by simpa using F32))).symm⟩
 refine zz 9 ?_;refine zr' (v:= .int .i64 0) ?_;exact⟨C17.upd,_,rfl,zO (zBy hlong hok (fun hh=>by omega)).symm⟩
 have F33:(a.ln.length:Int)≠0:=by simpa using J19
 refine zz 20 ?_;refine zo 0 C17 ?_;refine zz 4 ?_;refine zt 47 (p:=(a.ld.length:Int)>0) (fun F34=>?_) (fun F34=>?_);have hok:¬(qU a.ln≠0∨qU a.ld≠0∨val a.ld=1∨(val a.ln=0∧(a.neg=true∨0<val a.ld))):=by intro hh;rcases hh with e | e | e | ⟨e,e2⟩;exact(fun x=>absurd (by simpa using F10:qU a.ln=0) x) e;exact(fun x=>absurd (by simpa using F15:qU a.ld=0) x) e;exact(fun x=>absurd x (by simpa using F18)) e;omega
 refine zz 4 ?_;refine zo 0 C17 ?_;refine zz 1 ?_;refine zo 0 C17 ?_;have J2_:=(Le3 y3 y7 y12).trans y17;refine zc C17 (zXs _ _ _ _ (val a.ln) ((hNn.mono J2_).mono Le.x0) _ _ _ (val a.ld) ((hNd.mono J2_).mono Le.x0) (by first | assumption | omega) (by first | assumption | omega)) ?_
 rintro v36 w36 C36 y36 P36 ⟨u36,rfl,⟨ad36,len36,Q36,rfl,hn36⟩⟩;have hN36:=hn36 _ C17.lt;refine zz 10 ?_;refine zc C36 (zBp _ _ C36.lt _ _ _ (Nat.gcd (val a.ln) (val a.ld)) hN36) ?_;rintro v38 w38 C38 y38 P38 rfl;refine zz 3 ?_;refine zb 58 (b:=!(decide (Nat.gcd (val a.ln) (val a.ld)=1))) (fun J39=>?_) (fun J39=>?_);have F40:¬(Nat.gcd (val a.ln) (val a.ld)=1):=by simpa using J39
 refine zz 8 ?_;refine zr' (v:= .int .i64 2) ?_;exact⟨C38.upd,_,rfl,zO (zSr hlong hok ⟨by omega,by simpa using F40⟩).symm⟩
 have F41:Nat.gcd (val a.ln) (val a.ld)=1:=by simpa using J39
 refine zz 9 ?_;refine zr' (v:= .int .i64 0) ?_;exact⟨C38.upd,_,rfl,zO (zBy hlong hok (fun hh=>hh.2 (by simpa using F41))).symm⟩
 have hok:¬(qU a.ln≠0∨qU a.ld≠0∨val a.ld=1∨(val a.ln=0∧(a.neg=true∨0<val a.ld))):=by intro hh;rcases hh with e | e | e | ⟨e,e2⟩;exact(fun x=>absurd (by simpa using F10:qU a.ln=0) x) e;exact(fun x=>absurd (by simpa using F15:qU a.ld=0) x) e;exact(fun x=>absurd x (by simpa using F18)) e;omega
 refine zz 9 ?_;refine zr' (v:= .int .i64 0) ?_;exact⟨C17.upd,_,rfl,zO (zBy hlong hok (fun hh=>by omega)).symm⟩
section
variable (w:World)(X:Hid)(hX:∀k o,X k o→k<w.heap.size)
set_option maxHeartbeats 1000000
include hX in
theorem qQo(ad₁:Option Addr)(len₁ cap₁ n₁:Nat)(h₁:zU (rd w X) ad₁ len₁ cap₁ n₁)(ae₁:Option Addr)(le₁ ce₁ d₁:Nat)(k₁:zU (rd w X) ae₁ le₁ ce₁ d₁)(s₁:Bool)(hn₁:n₁<qW)(hd₁:d₁<qW)(ad₂:Option Addr)(len₂ cap₂ n₂:Nat)(h₂:zU (rd w X) ad₂ len₂ cap₂ n₂)(ae₂:Option Addr)(le₂ ce₂ d₂:Nat)(k₂:zU (rd w X) ae₂ le₂ ce₂ d₂)(s₂:Bool)(hn₂:n₂<qW)(hd₂:d₂<qW):Calls Tryz.prog 98 #[.agg #[.slice ad₁ len₁ cap₁,.slice ae₁ le₁ ce₁,.bool s₁],.agg #[.slice ad₂ len₂ cap₂,.slice ae₂ le₂ ce₂,.bool s₂]] w (Ret E0 w fun w' v=>∃s m,zPx X w' v s m (d₁*d₂)∧m<4294967296^512∧sgn s m=sgn s₁ n₁*d₂+sgn (!s₂) n₂*d₁):=by
 refine zen Tryz.func98 ?_;have C0:St E0 w X w X []:=St.start hX;have hb:∀{x:Nat},x<qW→x<4294967296^512:=fun h=>Nat.lt_of_lt_of_le h qAr;have hbn1:=hb hn₁;have hbn2:=hb hn₂;have hbd1:=hb hd₁;have hbd2:=hb hd₂;obtain⟨hp1,hp12⟩:=jZ hn₁ hd₂ hn₂ hd₁;have hp2:=(jZ hn₂ hd₁ hn₁ hd₂).1;have hpd:=(jZ hd₁ hd₂ hd₁ hd₂).1;have hpn:=(jZ hn₁ hn₂ hd₁ hd₂).1;refine zz 2 ?_;refine zn pn (.cells #[.slice ad₁ len₁ cap₁,.slice ae₁ le₁ ce₁,.bool s₁] 132 (0,0)) C0 fun b3 w3 Y3 C3 y3 P3=>?_;refine zn pn (.cells #[.slice ad₂ len₂ cap₂,.slice ae₂ le₂ ce₂,.bool s₂] 132 (0,0)) C3 fun b5 w5 Y5 C5 y5 P5=>?_;refine zn pn (.cells #[.slice none 0 0,.slice none 0 0,.bool false] 132 (0,0)) C5 fun b7 w7 Y7 C7 y7 P7=>?_;refine zz 5 ?_;refine zo 1 C7 ?_;refine zz 2 ?_;refine zx 1 #[.slice ad₂ len₂ cap₂,.slice ae₂ le₂ ce₂,.bool (!s₂)] C7 fun w8 C8 y8=>?_;refine zz 4 ?_;refine zo 2 C8 ?_;refine zo 1 C8 ?_;have J1_:=(Le3 y3 y5 y7).trans y8;refine zc C8 (qEd _ _ C8.lt _ _ _ n₁ (h₁.mono J1_) _ _ _ d₁ (k₁.mono J1_) s₁ (by assumption) (by assumption) _ _ _ n₂ (h₂.mono J1_) _ _ _ d₂ (k₂.mono J1_) (!s₂) (by assumption) (by assumption)) ?_
 rintro v10 w10 C10 y10 P10 ⟨sg10,m10,⟨ad10,len10,Q10,ae10,le10,ce10,rfl,hN10,hD10⟩,hm10,he10⟩;have J2_:=J1_.trans y10;refine zx 0 #[.slice ad10 len10 Q10,.slice ae10 le10 ce10,.bool sg10] C10 fun w11 C11 y11=>?_;refine zz 3 ?_;refine zrS [.cell 4 132] (v:= .agg #[.slice ad10 len10 Q10,.slice ae10 le10 ce10,.bool sg10]) (Res.cM C11 0 Res.nil) ?_;exact⟨C11.upd,_,rfl,_,_,⟨_,_,_,_,_,_,rfl,(hN10.mono y11).mono C11.le,(hD10.mono y11).mono C11.le⟩,hm10,he10⟩
def OpC(f:Nat)(op:Rat→Rat→Rat):Prop:=∀(w:World)(X:Hid)(hX:∀k o,X k o→k<w.heap.size)(ad₁:Option Addr)(len₁ cap₁ n₁:Nat)(h₁:zU (rd w X) ad₁ len₁ cap₁ n₁)(ae₁:Option Addr)(le₁ ce₁ d₁:Nat)(k₁:zU (rd w X) ae₁ le₁ ce₁ d₁)(s₁:Bool)(hn₁:n₁<qW)(hd₁:d₁<qW)(ad₂:Option Addr)(len₂ cap₂ n₂:Nat)(h₂:zU (rd w X) ad₂ len₂ cap₂ n₂)(ae₂:Option Addr)(le₂ ce₂ d₂:Nat)(k₂:zU (rd w X) ae₂ le₂ ce₂ d₂)(s₂:Bool)(hn₂:n₂<qW)(hd₂:d₂<qW)(hp₁:0<d₁)(hp₂:0<d₂),Calls Tryz.prog f #[.agg #[.slice ad₁ len₁ cap₁,.slice ae₁ le₁ ce₁,.bool s₁],.agg #[.slice ad₂ len₂ cap₂,.slice ae₂ le₂ ce₂,.bool s₂]] w (Ret E0 w fun w' v=>∃s m d,zPx X w' v s m d∧m<4294967296^512∧d<4294967296^512∧0<d∧mkRat (sgn s m) d=op (mkRat (sgn s₁ n₁) d₁) (mkRat (sgn s₂ n₂) d₂))
theorem zCy{a b:Nat}(h:a<qW)(h2:b<qW):a*b<4294967296^512:=qMu h h2
theorem qQs:OpC 83 (·+·):=fun w X hX ad₁ len₁ cap₁ n₁ h₁ ae₁ le₁ ce₁ d₁ k₁ s₁ hn₁ hd₁ ad₂ len₂ cap₂ n₂ h₂ ae₂ le₂ ce₂ d₂ k₂ s₂ hn₂ hd₂ hp₁ hp₂=>
 (qEd w X hX ad₁ len₁ cap₁ n₁ h₁ ae₁ le₁ ce₁ d₁ k₁ s₁ hn₁ hd₁ ad₂ len₂ cap₂ n₂ h₂ ae₂ le₂ ce₂ d₂ k₂ s₂ hn₂ hd₂).mono (by
  rintro e w' ⟨hu,v,rfl,s,m,hv,hm,he⟩;refine⟨hu,_,rfl,s,m,_,hv,hm,zCy hd₁ hd₂,Nat.mul_pos hp₁ hp₂,?_⟩;show _=mkRat (sgn s₁ n₁) d₁+mkRat (sgn s₂ n₂) d₂;rw[Rat.mkRat_add_mkRat _ _ (by omega) (by omega),he])
theorem zRp:OpC 99 (· * ·):=fun w X hX ad₁ len₁ cap₁ n₁ h₁ ae₁ le₁ ce₁ d₁ k₁ s₁ hn₁ hd₁ ad₂ len₂ cap₂ n₂ h₂ ae₂ le₂ ce₂ d₂ k₂ s₂ hn₂ hd₂ hp₁ hp₂=>
 (zIr w X hX ad₁ len₁ cap₁ n₁ h₁ ae₁ le₁ ce₁ d₁ k₁ s₁ hn₁ hd₁ ad₂ len₂ cap₂ n₂ h₂ ae₂ le₂ ce₂ d₂ k₂ s₂ hn₂ hd₂).mono (by
  rintro e w' ⟨hu,v,rfl,s,m,hv,hm,he⟩;refine⟨hu,_,rfl,s,m,_,hv,hm,zCy hd₁ hd₂,Nat.mul_pos hp₁ hp₂,?_⟩;show _=mkRat (sgn s₁ n₁) d₁*mkRat (sgn s₂ n₂) d₂;rw[Rat.mkRat_mul_mkRat,he])
theorem qQp:OpC 98 (· - ·):=fun w X hX ad₁ len₁ cap₁ n₁ h₁ ae₁ le₁ ce₁ d₁ k₁ s₁ hn₁ hd₁ ad₂ len₂ cap₂ n₂ h₂ ae₂ le₂ ce₂ d₂ k₂ s₂ hn₂ hd₂ hp₁ hp₂=>
 (qQo w X hX ad₁ len₁ cap₁ n₁ h₁ ae₁ le₁ ce₁ d₁ k₁ s₁ hn₁ hd₁ ad₂ len₂ cap₂ n₂ h₂ ae₂ le₂ ce₂ d₂ k₂ s₂ hn₂ hd₂).mono (by
  rintro e w' ⟨hu,v,rfl,s,m,hv,hm,he⟩;refine⟨hu,_,rfl,s,m,_,hv,hm,zCy hd₁ hd₂,Nat.mul_pos hp₁ hp₂,?_⟩;show _=mkRat (sgn s₁ n₁) d₁-mkRat (sgn s₂ n₂) d₂;rw[Rat.sub_eq_add_neg,Rat.neg_mkRat,Rat.mkRat_add_mkRat _ _ (by omega) (by omega),he,zLj])
include hX in
theorem zEn(ad:Option Addr)(len cap x:Nat)(h:zU (rd w X) ad len cap x)(ad2:Option Addr)(len2 Q2 y:Nat)(h2:zU (rd w X) ad2 len2 Q2 y)(sg:Bool)(hx:x<4294967296^512)(hy:y<4294967296^512)(hd:0<y)(z:Rat)(hz:mkRat (sgn sg x) y=z):Calls Tryz.prog 163 #[.agg #[.slice ad len cap,.slice ad2 len2 Q2,.bool sg]] w (Ret E0 w fun w' v=>bD (old w) w' v z):=by
 subst hz;exact qBj w X hX ad len cap x h ad2 len2 Q2 y h2 sg hx hy hd
theorem zBj(f:Nat)(op:Rat→Rat→Rat)(hcf:∀args w,(callFunc f args).run Tryz.prog w= .ok (.enter f args) w)(hop:OpC f op)(w:World)(X:Hid)(hX:∀k o,X k o→k<w.heap.size)(a:Raw)(ad₁:Option Addr)(len₁ cap₁:Nat)(h₁:zL (rd w X) ad₁ len₁ cap₁ a.ln)(ae₁:Option Addr)(le₁ ce₁:Nat)(k₁:zL (rd w X) ae₁ le₁ ce₁ a.ld)(b:Raw)(ad₂:Option Addr)(len₂ cap₂:Nat)(h₂:zL (rd w X) ad₂ len₂ cap₂ b.ln)(ae₂:Option Addr)(le₂ ce₂:Nat)(k₂:zL (rd w X) ae₂ le₂ ce₂ b.ld)(z:Rat)(hz:op a.rat b.rat=z):Calls Tryz.prog 84 #[.agg #[.bool a.neg,.slice ad₁ len₁ cap₁,.slice ae₁ le₁ ce₁],.agg #[.bool b.neg,.slice ad₂ len₂ cap₂,.slice ae₂ le₂ ce₂],.func (.func f) #[] #[]] w (Ret E0 w fun w' v=>∃u,v= .tuple #[u,.int .i64 (opE a b z)]∧vG (old w) w' u (opR a b z)):=by
 refine zen Tryz.func84 ?_;have C0:St E0 w X w X []:=St.start hX;refine zz 2 ?_;refine zn pn (.cells #[.bool a.neg,.slice ad₁ len₁ cap₁,.slice ae₁ le₁ ce₁] 28 (0,0)) C0 fun b3 w3 Y3 C3 y3 P3=>?_;refine zn pn (.cells #[.bool b.neg,.slice ad₂ len₂ cap₂,.slice ae₂ le₂ ce₂] 28 (0,0)) C3 fun b5 w5 Y5 C5 y5 P5=>?_;refine zn pn (.cells #[.bool false,.slice none 0 0,.slice none 0 0] 28 (0,0)) C5 fun b7 w7 Y7 C7 y7 P7=>?_;refine zz 5 ?_;refine zdr C7 ?_;refine gw 0 2 ?_;refine gw 2 1 ?_;have J1_:=(Le2 y3 y5).trans y7;refine gC 1 (fun w8 Y8 _ C8 y8=>(xN _ _ C8.lt a _ _ _ (h₁.mono (J1_.trans y8)) _ _ _ (k₁.mono (J1_.trans y8)))) ?_;rintro v9 w8 Y9 w9 C8 y9 rfl;have J2_:=J1_.trans y9;refine gC 3 (fun w10 Y10 _ C10 y10=>(xN _ _ C10.lt b _ _ _ (h₂.mono (J2_.trans y10)) _ _ _ (k₂.mono (J2_.trans y10)))) ?_;rintro v11 w10 Y11 w11 C10 y11 rfl;refine gp1 (al 4 14 (fun b=> .slice (some ⟨b,0,none⟩) 2 2) (.cells #[.int .i64 a.chk,.int .i64 b.chk] 46 (0,0))) (fun b12=>?_);refine gC 5 (vs:=#[.slice (some ⟨b12,0,none⟩) 2 2]) (fun w13 Y13 _ C13 y13=>(qCs _ X0 (zT _) _ _ _ _ [a.chk,b.chk] rfl (by simp) (C13.at0 0 rfl rfl))) ?_
 rintro v14 w13 Y14 w14 C13 y14 rfl;refine gz [6] ?_;refine mZ (fun w15 Y15 C15 y15=>?_);refine zz 7 ?_;refine zb 17 (b:=((orL [a.chk,b.chk])!=0)) (fun J16=>?_) (fun J16=>?_);have F17:(orL [a.chk,b.chk])≠0:=by simpa using J16
 refine zz 5 ?_;refine zx 1 #[.bool false,.slice none 0 0,.slice none 0 0] C15 fun w18 C18 y18=>?_;refine zz 5 ?_;refine zrS [.cell 6 28,.tmp 7] (v:= .tuple #[.agg #[.bool false,.slice none 0 0,.slice none 0 0],.int .i64 (orL [a.chk,b.chk])]) (Res.cM C18 1 (Res.tZ Res.nil)) ?_;obtain⟨he1,he2⟩:=zRf (z:=z) F17;exact⟨C18.upd,_,rfl,_,by rw[he1],by rw[he2];exact wW⟩
 have F19:(orL [a.chk,b.chk])=0:=by simpa using J16
 obtain⟨hca,hcb⟩:=pE ((zGn _ _).symm.trans (by simpa using F19))
 obtain⟨hla,hma,cna,cda,_,_,_⟩:=Raw.chk_ok hca;have bna:val a.ln<qW:=(zR h₁.hlt cna 128).1 hla;have bda:a.d<qW:=by unfold Raw.d;split;exact Nat.one_lt_pow (by omega) (by omega);exact(zR k₁.hlt cda 128).1 hma
 have pda:=Raw.d_pos a;have hNna:=h₁.natR cna;have hNda:=k₁.natR cda;obtain⟨hlb,hmb,cnb,cdb,_,_,_⟩:=Raw.chk_ok hcb;have bnb:val b.ln<qW:=(zR h₂.hlt cnb 128).1 hlb;have bdb:b.d<qW:=by unfold Raw.d;split;exact Nat.one_lt_pow (by omega) (by omega);exact(zR k₂.hlt cdb 128).1 hmb
 have pdb:=Raw.d_pos b;have hNnb:=h₂.natR cnb;have hNdb:=k₂.natR cdb;refine zz 4 ?_;refine qLi [0,1,2,3] C15 ?_;refine gz [0] ?_;refine gw 1 3 ?_;refine gw 3 2 ?_;refine gp (al 7 9 pn (.cells #[.bool false,.slice none 0 0,.slice none 0 0] 28 (0,0))) ?_;have J3_:=((J2_.trans y11).trans y14).trans y15;refine gC 2 (fun w20 Y20 _ C20 y20=>(zWj _ _ C20.lt a.neg _ _ _ (val a.ln) (hNna.mono (J3_.trans y20)) _ _ _ (val a.ld) (hNda.mono (J3_.trans y20)))) ?_ (hPd:=yO.nil.k);rintro v21 w20 Y21 w21 C20 y21 ⟨ad21,len21,Q21,ae21,le21,ce21,rfl,hN21,hD21⟩;have J4_:=J3_.trans y21;refine gC 4 (fun w22 Y22 _ C22 y22=>(zWj _ _ C22.lt b.neg _ _ _ (val b.ln) (hNnb.mono (J4_.trans y22)) _ _ _ (val b.ld) (hNdb.mono (J4_.trans y22)))) ?_ (hPd:=yO.nil.k);rintro v23 w22 Y23 w23 C22 y23 ⟨ad23,len23,Q23,ae23,le23,ce23,rfl,hN23,hD23⟩;refine gC 5 (hcall:=(fun w=>hcf _ w)) (fun w24 Y24 _ C24 y24=>(hop _ _ C24.lt _ _ _ (val a.ln) (hN21.mono (Le2 y23 y24)) _ _ _ a.d (hD21.mono (Le2 y23 y24)) a.neg (by assumption) (by assumption) _ _ _ (val b.ln) (hN23.mono y24) _ _ _ b.d (hD23.mono y24) b.neg (by assumption) (by assumption) (by assumption) (by assumption))) ?_ (hPd:=yO.nil.k)
 rintro v25 w24 Y25 w25 C24 y25 ⟨sg25,m25,d25,⟨ad25,len25,Q25,ae25,le25,ce25,rfl,hN25,hD25⟩,hm25,hd25,hp25,he25⟩;refine gC 6 (fun w26 Y26 _ C26 y26=>(zEn _ _ C26.lt _ _ _ m25 (hN25.mono y26) _ _ _ d25 (hD25.mono y26) sg25 hm25 hd25 hp25 z (he25.trans hz))) ?_ (hPd:=yO.nil.k);rintro v27 w26 Y27 w27 C26 y27 ⟨ad27,len27,Q27,ae27,le27,ce27,rfl,hN27,hD27⟩;refine gs1 (fun b28=>?_) yO.nil.k;refine gX 8 0 #[.bool (decide (z.num<0)),.slice ad27 len27 Q27,.slice ae27 le27 ce27] fun w29 Y29 y29=>?_;refine mZ (fun w30 Y30 C30 y30=>?_);refine zz 5 ?_;refine zo 0 C30 ?_;refine zz 3 ?_;refine zt 31 (p:=(len27:Int)>128) (fun F31=>?_) (fun F31=>?_);refine zz 11 ?_;refine zx 2 #[.bool false,.slice none 0 0,.slice none 0 0] C30 fun w32 C32 y32=>?_;refine zz 5 ?_;refine zrS [.cell 6 28,.tmp 7] (v:= .tuple #[.agg #[.bool false,.slice none 0 0,.slice none 0 0],.int .i64 4]) (Res.cM C32 2 (Res.tZ Res.nil)) ?_;obtain⟨he1,he2⟩:=zDh (z:=z) F19 (fun hh=>absurd ((hN27.len_le 128).2 hh.1) (by omega))
 exact⟨C32.upd,_,rfl,_,by rw[he1],by rw[he2];exact wW⟩
 refine zz 1 ?_;refine zo 0 C30 ?_;refine zz 5 ?_;refine zt 36 (p:=(le27:Int)>128) (fun F33=>?_) (fun F33=>?_);refine zz 4 ?_;refine zx 2 #[.bool false,.slice none 0 0,.slice none 0 0] C30 fun w34 C34 y34=>?_;refine zz 5 ?_;refine zrS [.cell 6 28,.tmp 7] (v:= .tuple #[.agg #[.bool false,.slice none 0 0,.slice none 0 0],.int .i64 4]) (Res.cM C34 2 (Res.tZ Res.nil)) ?_;obtain⟨he1,he2⟩:=zDh (z:=z) F19 (fun hh=>absurd ((hD27.len_le 128).2 hh.2) (by omega))
 exact⟨C34.upd,_,rfl,_,by rw[he1],by rw[he2];exact wW⟩
 refine zz 5 ?_;refine zo 0 C30 ?_;refine zx 2 #[.bool (decide (z.num<0)),.slice ad27 len27 Q27,.slice ae27 le27 ce27] C30 fun w35 C35 y35=>?_;refine zz 4 ?_;refine zrS [.cell 6 28,.tmp 7] (v:= .tuple #[.agg #[.bool (decide (z.num<0)),.slice ad27 len27 Q27,.slice ae27 le27 ce27],.int .i64 0]) (Res.cM C35 2 (Res.tZ Res.nil)) ?_;obtain⟨he1,he2⟩:=zUb (z:=z) F19 ⟨(hN27.len_le 128).1 (by omega),(hD27.len_le 128).1 (by omega)⟩
 exact⟨C35.upd,_,rfl,_,by rw[he1],by rw[he2];exact bD.raw ⟨_,_,_,_,_,_,rfl,((hN27.mono (Le.own C26.lt C26.upd.size (Le3 y29 y30 y35))).mono Le.orr),((hD27.mono (Le.own C26.lt C26.upd.size (Le3 y29 y30 y35))).mono Le.orr)⟩⟩
end
section
variable (w:World)(X:Hid)(hX:∀k o,X k o→k<w.heap.size)
set_option maxHeartbeats 1000000
include hX in
theorem qPr(a:Raw)(ad₁:Option Addr)(len₁ cap₁:Nat)(h₁:zL (rd w X) ad₁ len₁ cap₁ a.ln)(ae₁:Option Addr)(le₁ ce₁:Nat)(k₁:zL (rd w X) ae₁ le₁ ce₁ a.ld)(b:Raw)(ad₂:Option Addr)(len₂ cap₂:Nat)(h₂:zL (rd w X) ad₂ len₂ cap₂ b.ln)(ae₂:Option Addr)(le₂ ce₂:Nat)(k₂:zL (rd w X) ae₂ le₂ ce₂ b.ld):Calls Tryz.prog 34 #[.agg #[.bool a.neg,.slice ad₁ len₁ cap₁,.slice ae₁ le₁ ce₁],.agg #[.bool b.neg,.slice ad₂ len₂ cap₂,.slice ae₂ le₂ ce₂]] w (Ret E0 w fun w' v=>∃u,v= .tuple #[u,.int .i64 (opE a b (a.rat+b.rat))]∧vG (old w) w' u (opR a b (a.rat+b.rat))):=by
 refine zen Tryz.func34 ?_;have C0:St E0 w X w X []:=St.start hX;refine zz 2 ?_;refine zn pn (.cells #[.bool a.neg,.slice ad₁ len₁ cap₁,.slice ae₁ le₁ ce₁] 28 (0,0)) C0 fun b3 w3 Y3 C3 y3 P3=>?_;refine zn pn (.cells #[.bool b.neg,.slice ad₂ len₂ cap₂,.slice ae₂ le₂ ce₂] 28 (0,0)) C3 fun b5 w5 Y5 C5 y5 P5=>?_;refine zn pn (.cells #[.bool false,.slice none 0 0,.slice none 0 0] 28 (0,0)) C5 fun b7 w7 Y7 C7 y7 P7=>?_;refine zz 5 ?_;refine zo 2 C7 ?_;refine zo 1 C7 ?_;refine zc C7 (zBj 83 (·+·) (fun args w=>Tryz.call83 args w) qQs _ _ C7.lt a _ _ _ (h₁.mono (Le3 y3 y5 y7)) _ _ _ (k₁.mono (Le3 y3 y5 y7)) b _ _ _ (h₂.mono (Le3 y3 y5 y7)) _ _ _ (k₂.mono (Le3 y3 y5 y7)) (a.rat+b.rat) rfl) ?_;rintro v9 w9 C9 y9 P9 ⟨u9,rfl,⟨ad9,len9,Q9,ae9,le9,ce9,rfl,hN9,hD9⟩⟩;refine zz 2 ?_;refine zx 0 #[.bool ((opR a b (a.rat+b.rat)).neg),.slice ad9 len9 Q9,.slice ae9 le9 ce9] C9 fun w10 C10 y10=>?_;refine zz 4 ?_;refine zrS [.cell 4 28,.tmp 5] (v:= .tuple #[.agg #[.bool ((opR a b (a.rat+b.rat)).neg),.slice ad9 len9 Q9,.slice ae9 le9 ce9],.int .i64 (opE a b (a.rat+b.rat))]) (Res.cM C10 0 (Res.tZ Res.nil)) ?_;exact⟨C10.upd,_,rfl,_,rfl,⟨_,_,_,_,_,_,rfl,((hN9.mono (Le.own C7.lt C7.upd.size y10)).mono Le.orr),((hD9.mono (Le.own C7.lt C7.upd.size y10)).mono Le.orr)⟩⟩
include hX in
theorem qPu(a:Raw)(ad₁:Option Addr)(len₁ cap₁:Nat)(h₁:zL (rd w X) ad₁ len₁ cap₁ a.ln)(ae₁:Option Addr)(le₁ ce₁:Nat)(k₁:zL (rd w X) ae₁ le₁ ce₁ a.ld)(b:Raw)(ad₂:Option Addr)(len₂ cap₂:Nat)(h₂:zL (rd w X) ad₂ len₂ cap₂ b.ln)(ae₂:Option Addr)(le₂ ce₂:Nat)(k₂:zL (rd w X) ae₂ le₂ ce₂ b.ld):Calls Tryz.prog 49 #[.agg #[.bool a.neg,.slice ad₁ len₁ cap₁,.slice ae₁ le₁ ce₁],.agg #[.bool b.neg,.slice ad₂ len₂ cap₂,.slice ae₂ le₂ ce₂]] w (Ret E0 w fun w' v=>∃u,v= .tuple #[u,.int .i64 (opE a b (a.rat*b.rat))]∧vG (old w) w' u (opR a b (a.rat*b.rat))):=by
 refine zen Tryz.func49 ?_;have C0:St E0 w X w X []:=St.start hX;refine zz 2 ?_;refine zn pn (.cells #[.bool a.neg,.slice ad₁ len₁ cap₁,.slice ae₁ le₁ ce₁] 28 (0,0)) C0 fun b3 w3 Y3 C3 y3 P3=>?_;refine zn pn (.cells #[.bool b.neg,.slice ad₂ len₂ cap₂,.slice ae₂ le₂ ce₂] 28 (0,0)) C3 fun b5 w5 Y5 C5 y5 P5=>?_;refine zn pn (.cells #[.bool false,.slice none 0 0,.slice none 0 0] 28 (0,0)) C5 fun b7 w7 Y7 C7 y7 P7=>?_;refine zz 5 ?_;refine zo 2 C7 ?_;refine zo 1 C7 ?_;refine zc C7 (zBj 99 (· * ·) (fun args w=>Tryz.call99 args w) zRp _ _ C7.lt a _ _ _ (h₁.mono (Le3 y3 y5 y7)) _ _ _ (k₁.mono (Le3 y3 y5 y7)) b _ _ _ (h₂.mono (Le3 y3 y5 y7)) _ _ _ (k₂.mono (Le3 y3 y5 y7)) (a.rat*b.rat) rfl) ?_;rintro v9 w9 C9 y9 P9 ⟨u9,rfl,⟨ad9,len9,Q9,ae9,le9,ce9,rfl,hN9,hD9⟩⟩;refine zz 2 ?_;refine zx 0 #[.bool ((opR a b (a.rat*b.rat)).neg),.slice ad9 len9 Q9,.slice ae9 le9 ce9] C9 fun w10 C10 y10=>?_;refine zz 4 ?_;refine zrS [.cell 4 28,.tmp 5] (v:= .tuple #[.agg #[.bool ((opR a b (a.rat*b.rat)).neg),.slice ad9 len9 Q9,.slice ae9 le9 ce9],.int .i64 (opE a b (a.rat*b.rat))]) (Res.cM C10 0 (Res.tZ Res.nil)) ?_;exact⟨C10.upd,_,rfl,_,rfl,⟨_,_,_,_,_,_,rfl,((hN9.mono (Le.own C7.lt C7.upd.size y10)).mono Le.orr),((hD9.mono (Le.own C7.lt C7.upd.size y10)).mono Le.orr)⟩⟩
include hX in
theorem qPw(a:Raw)(ad₁:Option Addr)(len₁ cap₁:Nat)(h₁:zL (rd w X) ad₁ len₁ cap₁ a.ln)(ae₁:Option Addr)(le₁ ce₁:Nat)(k₁:zL (rd w X) ae₁ le₁ ce₁ a.ld)(b:Raw)(ad₂:Option Addr)(len₂ cap₂:Nat)(h₂:zL (rd w X) ad₂ len₂ cap₂ b.ln)(ae₂:Option Addr)(le₂ ce₂:Nat)(k₂:zL (rd w X) ae₂ le₂ ce₂ b.ld):Calls Tryz.prog 48 #[.agg #[.bool a.neg,.slice ad₁ len₁ cap₁,.slice ae₁ le₁ ce₁],.agg #[.bool b.neg,.slice ad₂ len₂ cap₂,.slice ae₂ le₂ ce₂]] w (Ret E0 w fun w' v=>∃u,v= .tuple #[u,.int .i64 (opE a b (a.rat-b.rat))]∧vG (old w) w' u (opR a b (a.rat-b.rat))):=by
 refine zen Tryz.func48 ?_;have C0:St E0 w X w X []:=St.start hX;refine zz 2 ?_;refine zn pn (.cells #[.bool a.neg,.slice ad₁ len₁ cap₁,.slice ae₁ le₁ ce₁] 28 (0,0)) C0 fun b3 w3 Y3 C3 y3 P3=>?_;refine zn pn (.cells #[.bool b.neg,.slice ad₂ len₂ cap₂,.slice ae₂ le₂ ce₂] 28 (0,0)) C3 fun b5 w5 Y5 C5 y5 P5=>?_;refine zn pn (.cells #[.bool false,.slice none 0 0,.slice none 0 0] 28 (0,0)) C5 fun b7 w7 Y7 C7 y7 P7=>?_;refine zz 5 ?_;refine zo 2 C7 ?_;refine zo 1 C7 ?_;refine zc C7 (zBj 98 (· - ·) (fun args w=>Tryz.call98 args w) qQp _ _ C7.lt a _ _ _ (h₁.mono (Le3 y3 y5 y7)) _ _ _ (k₁.mono (Le3 y3 y5 y7)) b _ _ _ (h₂.mono (Le3 y3 y5 y7)) _ _ _ (k₂.mono (Le3 y3 y5 y7)) (a.rat-b.rat) rfl) ?_;rintro v9 w9 C9 y9 P9 ⟨u9,rfl,⟨ad9,len9,Q9,ae9,le9,ce9,rfl,hN9,hD9⟩⟩;refine zz 2 ?_;refine zx 0 #[.bool ((opR a b (a.rat-b.rat)).neg),.slice ad9 len9 Q9,.slice ae9 le9 ce9] C9 fun w10 C10 y10=>?_;refine zz 4 ?_;refine zrS [.cell 4 28,.tmp 5] (v:= .tuple #[.agg #[.bool ((opR a b (a.rat-b.rat)).neg),.slice ad9 len9 Q9,.slice ae9 le9 ce9],.int .i64 (opE a b (a.rat-b.rat))]) (Res.cM C10 0 (Res.tZ Res.nil)) ?_;exact⟨C10.upd,_,rfl,_,rfl,⟨_,_,_,_,_,_,rfl,((hN9.mono (Le.own C7.lt C7.upd.size y10)).mono Le.orr),((hD9.mono (Le.own C7.lt C7.upd.size y10)).mono Le.orr)⟩⟩
include hX in
theorem qIw(n:Int)(h1: -9223372036854775808≤n)(h2:n≤9223372036854775807):Calls Tryz.prog 47 #[.int .i64 n] w (Ret E0 w fun w' v=>vG X w' v (.of (n:Rat))):=by
 refine zen Tryz.func47 ?_;have C0:St E0 w X w X []:=St.start hX;refine zz 2 ?_;refine zn pn (.cells #[.bool false,.slice none 0 0,.slice none 0 0] 28 (0,0)) C0 fun b3 w3 Y3 C3 y3 P3=>?_;refine zz 7 ?_;refine zc C3 (zBa _ _ C3.lt n (by omega) (by omega)) ?_
 rintro v5 w5 C5 y5 P5 ⟨ad5,len5,Q5,rfl,hN5⟩;refine zz 1 ?_;refine zx 0 #[.bool (decide ((n)<0)),.slice ad5 len5 Q5,.slice none 0 0] C5 fun w6 C6 y6=>?_;refine zz 3 ?_;refine zrS [.cell 2 28] (v:= .agg #[.bool (decide ((n)<0)),.slice ad5 len5 Q5,.slice none 0 0]) (Res.cM C6 0 Res.nil) ?_;exact⟨C6.upd,_,rfl,(qGs ((hN5.mono y6).mono C6.le)).raw⟩
include hX in
theorem qPs(a:Raw)(ad₁:Option Addr)(len₁ cap₁:Nat)(h₁:zL (rd w X) ad₁ len₁ cap₁ a.ln)(ae₁:Option Addr)(le₁ ce₁:Nat)(k₁:zL (rd w X) ae₁ le₁ ce₁ a.ld)(b:Raw)(ad₂:Option Addr)(len₂ cap₂:Nat)(h₂:zL (rd w X) ad₂ len₂ cap₂ b.ln)(ae₂:Option Addr)(le₂ ce₂:Nat)(k₂:zL (rd w X) ae₂ le₂ ce₂ b.ld):Calls Tryz.prog 33 #[.agg #[.bool a.neg,.slice ad₁ len₁ cap₁,.slice ae₁ le₁ ce₁],.agg #[.bool b.neg,.slice ad₂ len₂ cap₂,.slice ae₂ le₂ ce₂]] w (Ret E0 w fun w' v=>v= .tuple #[.int .i64 (vU a b),.int .i64 (nE a b)]):=by
 refine zen Tryz.func33 ?_;have C0:St E0 w X w X []:=St.start hX;refine zz 2 ?_;refine zn pn (.cells #[.bool a.neg,.slice ad₁ len₁ cap₁,.slice ae₁ le₁ ce₁] 28 (0,0)) C0 fun b3 w3 Y3 C3 y3 P3=>?_;refine zn pn (.cells #[.bool b.neg,.slice ad₂ len₂ cap₂,.slice ae₂ le₂ ce₂] 28 (0,0)) C3 fun b5 w5 Y5 C5 y5 P5=>?_;refine zz 6 ?_;refine zdr C5 ?_;refine gw 0 1 ?_;refine gw 2 0 ?_;refine gC 1 (fun w6 Y6 _ C6 y6=>(xN _ _ C6.lt a _ _ _ (h₁.mono (Le3 y3 y5 y6)) _ _ _ (k₁.mono (Le3 y3 y5 y6)))) ?_;rintro v7 w6 Y7 w7 C6 y7 rfl;have J1_:=(Le2 y3 y5).trans y7;refine gC 3 (fun w8 Y8 _ C8 y8=>(xN _ _ C8.lt b _ _ _ (h₂.mono (J1_.trans y8)) _ _ _ (k₂.mono (J1_.trans y8)))) ?_;rintro v9 w8 Y9 w9 C8 y9 rfl;refine gp1 (al 4 14 (fun b=> .slice (some ⟨b,0,none⟩) 2 2) (.cells #[.int .i64 a.chk,.int .i64 b.chk] 46 (0,0))) (fun b10=>?_);refine gC 5 (vs:=#[.slice (some ⟨b10,0,none⟩) 2 2]) (fun w11 Y11 _ C11 y11=>(qCs _ X0 (zT _) _ _ _ _ [a.chk,b.chk] rfl (by simp) (C11.at0 0 rfl rfl))) ?_
 rintro v12 w11 Y12 w12 C11 y12 rfl;refine gz [6] ?_;refine mZ (fun w13 Y13 C13 y13=>?_);refine zz 7 ?_;refine zb 17 (b:=((orL [a.chk,b.chk])!=0)) (fun J14=>?_) (fun J14=>?_);have F15:(orL [a.chk,b.chk])≠0:=by simpa using J14
 refine zz 10 ?_;refine zr' (v:= .tuple #[.int .i64 0,.int .i64 (orL [a.chk,b.chk])]) ?_;exact⟨C13.upd,_,rfl,by rw[vU,nE,←zGn,if_neg F15]⟩
 have F16:(orL [a.chk,b.chk])=0:=by simpa using J14
 obtain⟨hca,hcb⟩:=pE ((zGn _ _).symm.trans (by simpa using F16))
 obtain⟨hla,hma,cna,cda,_,_,_⟩:=Raw.chk_ok hca;have bna:val a.ln<qW:=(zR h₁.hlt cna 128).1 hla;have bda:a.d<qW:=by unfold Raw.d;split;exact Nat.one_lt_pow (by omega) (by omega);exact(zR k₁.hlt cda 128).1 hma
 have pda:=Raw.d_pos a;have hNna:=h₁.natR cna;have hNda:=k₁.natR cda;obtain⟨hlb,hmb,cnb,cdb,_,_,_⟩:=Raw.chk_ok hcb;have bnb:val b.ln<qW:=(zR h₂.hlt cnb 128).1 hlb;have bdb:b.d<qW:=by unfold Raw.d;split;exact Nat.one_lt_pow (by omega) (by omega);exact(zR k₂.hlt cdb 128).1 hmb
 have pdb:=Raw.d_pos b;have hNnb:=h₂.natR cnb;have hNdb:=k₂.natR cdb;refine zz 4 ?_;refine zdrs [0,1,2] C13 ?_;refine gw 0 2 ?_;refine gw 2 1 ?_;refine gp (al 5 8 pn (.cells #[.slice none 0 0,.slice none 0 0,.bool false] 132 (0,0))) ?_;refine gp (al 4 7 pn (.cells #[.slice none 0 0,.slice none 0 0,.bool false] 132 (0,0))) ?_;have J2_:=((J1_.trans y9).trans y12).trans y13;refine gC 1 (fun w17 Y17 _ C17 y17=>(zWj _ _ C17.lt a.neg _ _ _ (val a.ln) (hNna.mono (J2_.trans y17)) _ _ _ (val a.ld) (hNda.mono (J2_.trans y17)))) ?_ (hPd:=yO.nil.k.k);rintro v18 w17 Y18 w18 C17 y18 ⟨ad18,len18,Q18,ae18,le18,ce18,rfl,hN18,hD18⟩;have J3_:=J2_.trans y18;refine gC 3 (fun w19 Y19 _ C19 y19=>(zWj _ _ C19.lt b.neg _ _ _ (val b.ln) (hNnb.mono (J3_.trans y19)) _ _ _ (val b.ld) (hNdb.mono (J3_.trans y19)))) ?_ (hPd:=yO.nil.k.k);rintro v20 w19 Y20 w20 C19 y20 ⟨ad20,len20,Q20,ae20,le20,ce20,rfl,hN20,hD20⟩;refine ge (fun e21=>?_) yO.nil.k.k;refine gXs 6 0 [2,3,4] #[.slice ad18 len18 Q18,.slice ae18 le18 ce18,.bool a.neg] fun w22 Y22 y22=>?_;refine gXs 7 1 [2,3,4] #[.slice ad20 len20 Q20,.slice ae20 le20 ce20,.bool b.neg] fun w23 Y23 y23=>?_;refine mZ (fun w24 Y24 C24 y24=>?_);refine zz 4 ?_;refine zo 1 C24 ?_;refine zz 2 ?_;refine zx 1 #[.slice ad20 len20 Q20,.slice ae20 le20 ce20,.bool (!b.neg)] C24 fun w25 C25 y25=>?_;refine zz 5 ?_;refine zo 0 C25 ?_;refine zo 1 C25 ?_;have J4_:=(Le4 y20 y22 y23 y24).trans y25;have J5_:=(Le3 y22 y23 y24).trans y25;refine zc C25 (qEd _ _ C25.lt _ _ _ (val a.ln) (hN18.mono J4_) _ _ _ a.d (hD18.mono J4_) a.neg (by assumption) (by assumption) _ _ _ (val b.ln) (hN20.mono J5_) _ _ _ b.d (hD20.mono J5_) (!b.neg) (by assumption) (by assumption)) ?_
 rintro v27 w27 C27 y27 P27 ⟨sg27,m27,⟨ad27,len27,Q27,ae27,le27,ce27,rfl,hN27,hD27⟩,hm27,he27⟩;have J6_:=J4_.trans y27;have J7_:=J5_.trans y27;refine zn pn (.cells #[.slice none 0 0,.slice none 0 0,.bool false] 132 (0,0)) C27 fun b29 w29 Y29 C29 y29 P29=>?_;refine zx 0 #[.slice ad27 len27 Q27,.slice ae27 le27 ce27,.bool sg27] C29 fun w30 C30 y30=>?_;refine zz 7 ?_;refine zo 0 C30 ?_;refine zz 5 ?_;refine zb 30 (b:=((len27:Int)==0)) (fun J31=>?_) (fun J31=>?_);have F32:(len27:Int)=0:=by simpa using J31
 have hdf:_=a.rat-b.rat:=zSu (he27.trans (by rw[zLj])) pda pdb
 have hm0:=hN27.len0.1 (by omega)
 refine zz 10 ?_;refine zr' (v:= .tuple #[.int .i64 0,.int .i64 0]) ?_;exact⟨C30.upd,_,rfl,by have h0:=F16;rw[vU,nE,←zGn,if_pos (by simpa using h0),show orL [a.chk,b.chk]=0 by simpa using h0,zZb hdf hm0]⟩
 have F33:(len27:Int)≠0:=by simpa using J31
 have hdf:_=a.rat-b.rat:=zSu (he27.trans (by rw[zLj])) pda pdb
 have hm0:m27≠0:=fun e=>absurd (hN27.len0.2 e) (by omega)
 refine zz 4 ?_;refine zo 0 C30 ?_;refine zz 3 ?_;refine zb 36 (b:=sg27) (fun J34=>?_) (fun J34=>?_);have F35:sg27=true:=by simpa using J34
 rw[F35]at hdf;refine zz 10 ?_;refine zr' (v:= .tuple #[.int .i64 (-1),.int .i64 0]) ?_;exact⟨C30.upd,_,rfl,by have h0:=F16;rw[vU,nE,←zGn,if_pos (by simpa using h0),show orL [a.chk,b.chk]=0 by simpa using h0,qFp hdf hm0 (zZf pda pdb)]⟩
 have F36:sg27=false:=by simpa using J34
 rw[F36]at hdf;refine zz 11 ?_;refine zr' (v:= .tuple #[.int .i64 1,.int .i64 0]) ?_;exact⟨C30.upd,_,rfl,by have h0:=F16;rw[vU,nE,←zGn,if_pos (by simpa using h0),show orL [a.chk,b.chk]=0 by simpa using h0,qFq hdf hm0 (zZf pda pdb)]⟩
end
set_option maxHeartbeats 1000000
theorem qSi(w:World)(X:Hid)(hX:∀k o,X k o→k<w.heap.size)(p q:Int)(hp: -9223372036854775808≤p)(hp2:p≤9223372036854775807)(hq: -9223372036854775808≤q)(hq2:q≤9223372036854775807)(h0:q≠0):Calls Tryz.prog 126 #[.int .i64 p,.int .i64 q] w (Ret E0 w fun w' v=>∃u,v= .tuple #[u,.int .i64 0]∧vG X w' u (.of (mkRat (sgn (!(decide (p<0)==decide (q<0))) p.natAbs) q.natAbs))):=by
 have hB:(18446744073709551616:Nat)≤4294967296^512:=Nat.le_trans (by decide:18446744073709551616≤4294967296^2) (zKr 4294967296 2 512 (by decide) (by decide))
 refine zen Tryz.func126 ?_;have C0:St E0 w X w X []:=St.start hX;refine zz 2 ?_;refine zn pn (.cells #[.bool false,.slice none 0 0,.slice none 0 0] 28 (0,0)) C0 fun b3 w3 Y3 C3 y3 P3=>?_;refine zz 10 ?_;refine zb 7 (b:=((q)==0)) (fun J4=>?_) (fun J4=>?_);have F5:(q)=0:=by simpa using J4
 exfalso;omega;have F6:(q)≠0:=by simpa using J4
 refine zz 6 ?_;refine zc C3 (zBa _ _ C3.lt p (by omega) (by omega)) ?_
 rintro v8 w8 C8 y8 P8 ⟨ad8,zAy,Q8,rfl,hN8⟩;refine zz 1 ?_;refine zc C8 (zBa _ _ C8.lt q (by omega) (by omega)) ?_
 rintro v10 w10 C10 y10 P10 ⟨ad10,len10,Q10,rfl,hN10⟩;refine zz 7 ?_;refine zc C10 (zEn _ _ C10.lt _ _ _ p.natAbs (hN8.mono y10) _ _ _ q.natAbs hN10 (!((decide ((p)<0))==(decide ((q)<0)))) (by omega) (by omega) (by omega) (mkRat (sgn (!(decide (p<0)==decide (q<0))) p.natAbs) q.natAbs) rfl) ?_
 rintro v12 w12 C12 y12 P12 ⟨ad12,len12,Q12,ae12,le12,ce12,rfl,hN12,hD12⟩;refine zx 0 #[.bool (decide ((mkRat (sgn (!(decide (p<0)==decide (q<0))) p.natAbs) q.natAbs).num<0)),.slice ad12 len12 Q12,.slice ae12 le12 ce12] C12 fun w13 C13 y13=>?_;refine zz 4 ?_;refine zrS [.cell 4 28,.tmp 5] (v:= .tuple #[.agg #[.bool (decide ((mkRat (sgn (!(decide (p<0)==decide (q<0))) p.natAbs) q.natAbs).num<0)),.slice ad12 len12 Q12,.slice ae12 le12 ce12],.int .i64 0]) (Res.cM C13 0 (Res.tZ Res.nil)) ?_;exact⟨C13.upd,_,rfl,_,rfl,bD.raw ⟨_,_,_,_,_,_,rfl,((hN12.mono (Le.new C10.lt)).mono y13).mono C13.le,((hD12.mono (Le.new C10.lt)).mono y13).mono C13.le⟩⟩
section
variable (w:World)(X:Hid)(hX:∀k o,X k o→k<w.heap.size)
set_option maxHeartbeats 1000000
theorem zIx{α:Type}{l:List α}{k:Nat}{x:α}(h:l[k]?=some x):l.take (k+1)=l.take k++[x]:=by rw[List.take_add_one,h];rfl
theorem aW{α:Type}{l l2:List α}{k:Nat}{x:α}(h:l.take k=l2.take k)(hx:l[k]?=some x)(hy:l2[k]?=some x):l.take (k+1)=l2.take (k+1):=by rw[zIx hx,zIx hy,h]
theorem lU{α:Type}{l l2:List α}{k:Nat}(h:l.take k=l2.take k)(hl:l.length=l2.length)(hk:l.length≤k):l=l2:=by
 rwa[List.take_of_length_le hk,List.take_of_length_le (by omega)]at h
theorem qSe{α:Type}{l l2:List α}{k:Nat}{x y:α}(hx:l[k]?=some x)(hy:l2[k]?=some y)(h:x≠y):l≠l2:=by
 rintro rfl;exact h (Option.some.inj (hx.symm.trans hy))
theorem getD_some{l:List Nat}{k:Nat}(h:k<l.length):l[k]?=some (l.getD k 0):=by
 rw[List.getD_eq_getElem?_getD,List.getElem?_eq_getElem h];rfl
theorem zBr{x y:Bool}(h:x=y):Value.bool x= .bool y:=h▸rfl
include hX in
theorem zJb(ad:Option Addr)(len cap:Nat)(l:List Nat)(h:zL (rd w X) ad len cap l)(ad2:Option Addr)(len2 Q2:Nat)(l2:List Nat)(h2:zL (rd w X) ad2 len2 Q2 l2):Calls Tryz.prog 164 #[.slice ad len cap,.slice ad2 len2 Q2] w (Ret E0 w fun _ v=>v= .bool (decide (l=l2))):=by
 obtain rfl:=h.hlen;obtain rfl:=h2.hlen;have hcap:=h.hcap;have hbig:=h.hbig;have hcap2:=h2.hcap;have hbig2:=h2.hbig;refine zen Tryz.func164 ?_;have C0:St E0 w X w X []:=St.start hX;refine zz 15 ?_;refine zb 10 (b:=((l.length:Int)!=(l2.length:Int))) (fun J2=>?_) (fun J2=>?_);have F3:(l.length:Int)≠(l2.length:Int):=by simpa using J2
 refine zz 8 ?_;refine zr' (v:= .bool false) ?_;exact⟨C0.upd,_,rfl,zBr ((decide_eq_false (fun e=>by rw[e]at F3;exact F3 rfl)).symm)⟩
 have F4:(l.length:Int)=(l2.length:Int):=by simpa using J2
 have hlen:l.length=l2.length:=by omega
 refine zz 10 ?_;refine zlp Tryz.f164 [] [1,1,0,1,0] (fun(k:Nat)=>[(0,.slice ad l.length cap),(1,.slice ad2 l2.length Q2),(5,.int .i64 (k:Int))]) (fun k w1=>∃(Y1:Hid),St E0 w X w1 Y1 []∧Le (rd w X) (rd w1 Y1)∧(l.take k=l2.take k)∧(k≤l.length)) (fun k=>l.length-k) 0 ?_ ?_;refine⟨_,C0,Le.refl _,rfl,Nat.zero_le _⟩;rintro k w5 K5 Z5 ⟨Y5,C5,y5,hp5_0,hp5_1⟩;refine zz 9 ?_;refine zt 14 (p:=(k:Int)<(l.length:Int)) (fun F6=>?_) (fun F6=>?_);obtain⟨b1,off1,rfl,_⟩:=h.addr (by omega)
 have hx1:=getD_some (l:=l) (k:=k) (by omega)
 obtain⟨b2,off2,rfl,_⟩:=h2.addr (by omega)
 have hx2:=getD_some (l:=l2) (k:=k) (by omega)
 refine zz 6 ?_;refine zdr C5 ?_;refine gz [0,1] ?_;refine gi 2 (b:=b1) (off:=off1) (len:=l.length) (cap:=cap) (kd:= .i64) (i:=(k:Int)) 1 (off1+k) ?_;refine gl 3 ((h.cell (i:=k) (by omega)).mono y5) ?_
 refine gz [4,5] ?_;refine gi 6 (b:=b2) (off:=off2) (len:=l2.length) (cap:=Q2) (kd:= .i64) (i:=(k:Int)) 1 (off2+k) ?_;refine gl 7 ((h2.cell (i:=k) (by omega)).mono y5) ?_
 refine gz [8] ?_;refine mZ (fun w7 Y7 C7 y7=>?_);refine zz 1 ?_;refine zb 25 (b:=(((l.getD k 0:Nat):Int)!=((l2.getD k 0:Nat):Int))) (fun J8=>?_) (fun J8=>?_);have F9:((l.getD k 0:Nat):Int)≠((l2.getD k 0:Nat):Int):=by simpa using J8
 refine zz 12 ?_;refine zr' (v:= .bool false) ?_;exact⟨C7.upd,_,rfl,zBr ((decide_eq_false (qSe hx1 hx2 (fun e=>F9 (by rw[e])))).symm)⟩
 have F10:((l.getD k 0:Nat):Int)=((l2.getD k 0:Nat):Int):=by simpa using J8
 refine zz 7 ?_;refine zw 16 (x:=(k:Int)+1) ?_;refine zz 2 ?_;refine yL (fun a h=>Z5 (k+1) _ a h ⟨_,C7,(Le2 y5 y7),aW hp5_0 hx1 (by rw[show l.getD k 0=l2.getD k 0 by omega];exact hx2),by omega⟩ ?_)
 first | omega | (simp<;>omega)
 refine zz 12 ?_;refine zr' (v:= .bool true) ?_;exact⟨C5.upd,_,rfl,zBr ((decide_eq_true (lU hp5_0 hlen (by omega))).symm)⟩
include hX in
theorem kU(ad:Option Addr)(len cap:Nat)(l:List Nat)(h:zL (rd w X) ad len cap l)(ad2:Option Addr)(len2 Q2:Nat)(l2:List Nat)(h2:zL (rd w X) ad2 len2 Q2 l2):Calls Tryz.prog 85 #[.slice ad len cap,.slice ad2 len2 Q2] w (Ret E0 w fun _ v=>v= .bool (decide (l=l2))):=by
 obtain rfl:=h.hlen;obtain rfl:=h2.hlen;have hcap:=h.hcap;have hbig:=h.hbig;have hcap2:=h2.hcap;have hbig2:=h2.hbig;refine zen Tryz.func85 ?_;have C0:St E0 w X w X []:=St.start hX;refine zz 9 ?_;refine zc C0 (zJb _ _ C0.lt _ _ _ _ h _ _ _ _ h2) ?_;rintro v3 w3 C3 y3 P3 rfl;refine zz 4 ?_;refine zr' (v:= .bool (decide (l=l2))) ?_;exact⟨C3.upd,_,rfl,rfl⟩
theorem zKs{a b:Raw}:a=b↔a.neg=b.neg∧a.ln=b.ln∧a.ld=b.ld:=by cases a;cases b;simp
include hX in
theorem zPv(a:Raw)(ad₁:Option Addr)(len₁ cap₁:Nat)(h₁:zL (rd w X) ad₁ len₁ cap₁ a.ln)(ae₁:Option Addr)(le₁ ce₁:Nat)(k₁:zL (rd w X) ae₁ le₁ ce₁ a.ld)(b:Raw)(ad₂:Option Addr)(len₂ cap₂:Nat)(h₂:zL (rd w X) ad₂ len₂ cap₂ b.ln)(ae₂:Option Addr)(le₂ ce₂:Nat)(k₂:zL (rd w X) ae₂ le₂ ce₂ b.ld):Calls Tryz.prog 37 #[.agg #[.bool a.neg,.slice ad₁ len₁ cap₁,.slice ae₁ le₁ ce₁],.agg #[.bool b.neg,.slice ad₂ len₂ cap₂,.slice ae₂ le₂ ce₂]] w (Ret E0 w fun _ v=>v= .bool (decide (a=b))):=by
 refine zen Tryz.func37 ?_;have C0:St E0 w X w X []:=St.start hX;refine zz 2 ?_;refine zn pn (.cells #[.bool a.neg,.slice ad₁ len₁ cap₁,.slice ae₁ le₁ ce₁] 28 (0,0)) C0 fun b3 w3 Y3 C3 y3 P3=>?_;refine zn pn (.cells #[.bool b.neg,.slice ad₂ len₂ cap₂,.slice ae₂ le₂ ce₂] 28 (0,0)) C3 fun b5 w5 Y5 C5 y5 P5=>?_;refine zz 6 ?_;refine zo 1 C5 ?_;refine zz 1 ?_;refine zo 0 C5 ?_;refine zz 2 ?_;refine zb 10 (b:=(a.neg==b.neg)) (fun J6=>?_) (fun J6=>?_);have F7:a.neg=b.neg:=by simpa using J6
 refine zz 1 ?_;refine zo 1 C5 ?_;refine zz 1 ?_;refine zo 0 C5 ?_;refine zc C5 (kU _ _ C5.lt _ _ _ _ (h₁.mono (Le2 y3 y5)) _ _ _ _ (h₂.mono (Le2 y3 y5))) ?_;rintro v9 w9 C9 y9 P9 rfl;refine zz 2 ?_;refine zb 17 (b:=(decide (a.ln=b.ln))) (fun J10=>?_) (fun J10=>?_);have F11:a.ln=b.ln:=of_decide_eq_true J10;refine zz 1 ?_;refine zo 1 C9 ?_;refine zz 1 ?_;refine zo 0 C9 ?_;refine zc C9 (kU _ _ C9.lt _ _ _ _ (k₁.mono (Le3 y3 y5 y9)) _ _ _ _ (k₂.mono (Le3 y3 y5 y9))) ?_;rintro v13 w13 C13 y13 P13 rfl;refine zz 5 ?_;refine zr' (v:= .bool (decide (a.ld=b.ld))) ?_;refine⟨C13.upd,_,rfl,zBr ?_⟩;refine Bool.eq_iff_iff.2 ?_;rw[show(decide (a=b)=true)↔_ from decide_eq_true_iff.trans zKs];simp_all;have F14:¬(a.ln=b.ln):=of_decide_eq_false J10;refine zz 10 ?_;refine zr' (v:= .bool false) ?_;refine⟨C9.upd,_,rfl,zBr ?_⟩;refine Bool.eq_iff_iff.2 ?_;rw[show(decide (a=b)=true)↔_ from decide_eq_true_iff.trans zKs];simp_all;have F15:a.neg≠b.neg:=by simpa using J6
 refine zz 17 ?_;refine zr' (v:= .bool false) ?_;refine⟨C5.upd,_,rfl,zBr ?_⟩;refine Bool.eq_iff_iff.2 ?_;rw[show(decide (a=b)=true)↔_ from decide_eq_true_iff.trans zKs];simp_all
end
section
variable (w:World)(X:Hid)(hX:∀k o,X k o→k<w.heap.size)
set_option maxHeartbeats 1000000
include hX in
theorem qMv(ad₁:Option Addr)(len₁ cap₁ n₁:Nat)(h₁:zU (rd w X) ad₁ len₁ cap₁ n₁)(ae₁:Option Addr)(le₁ ce₁ d₁:Nat)(k₁:zU (rd w X) ae₁ le₁ ce₁ d₁)(s₁:Bool)(hn₁:n₁<qW)(hd₁:d₁<qW)(ad₂:Option Addr)(len₂ cap₂ n₂:Nat)(h₂:zU (rd w X) ad₂ len₂ cap₂ n₂)(ae₂:Option Addr)(le₂ ce₂ d₂:Nat)(k₂:zU (rd w X) ae₂ le₂ ce₂ d₂)(s₂:Bool)(hn₂:n₂<qW)(hd₂:d₂<qW):Calls Tryz.prog 159 #[.agg #[.slice ad₁ len₁ cap₁,.slice ae₁ le₁ ce₁,.bool s₁],.agg #[.slice ad₂ len₂ cap₂,.slice ae₂ le₂ ce₂,.bool s₂]] w (Ret E0 w fun w' v=>∃s m,zPx X w' v s m (d₁*n₂)∧m<4294967296^512∧sgn s m=sgn s₁ n₁*sgn s₂ d₂):=by
 refine zen Tryz.func159 ?_;have C0:St E0 w X w X []:=St.start hX;have hb:∀{x:Nat},x<qW→x<4294967296^512:=fun h=>Nat.lt_of_lt_of_le h qAr;have hbn1:=hb hn₁;have hbn2:=hb hn₂;have hbd1:=hb hd₁;have hbd2:=hb hd₂;obtain⟨hp1,hp12⟩:=jZ hn₁ hd₂ hn₂ hd₁;have hp2:=(jZ hn₂ hd₁ hn₁ hd₂).1;have hpd:=(jZ hd₁ hd₂ hd₁ hd₂).1;have hpn:=(jZ hn₁ hn₂ hd₁ hd₂).1;refine zz 2 ?_;refine zn pn (.cells #[.slice ad₁ len₁ cap₁,.slice ae₁ le₁ ce₁,.bool s₁] 132 (0,0)) C0 fun b3 w3 Y3 C3 y3 P3=>?_;refine zn pn (.cells #[.slice ad₂ len₂ cap₂,.slice ae₂ le₂ ce₂,.bool s₂] 132 (0,0)) C3 fun b5 w5 Y5 C5 y5 P5=>?_;refine zn pn (.cells #[.slice none 0 0,.slice none 0 0,.bool false] 132 (0,0)) C5 fun b7 w7 Y7 C7 y7 P7=>?_;refine zz 6 ?_;refine zo 1 C7 ?_;refine zz 2 ?_;refine zo 1 C7 ?_;refine zz 2 ?_;refine zx 1 #[.slice ae₂ le₂ ce₂,.slice ae₂ le₂ ce₂,.bool s₂] C7 fun w8 C8 y8=>?_;refine zz 2 ?_;refine zx 1 #[.slice ae₂ le₂ ce₂,.slice ad₂ len₂ cap₂,.bool s₂] C8 fun w9 C9 y9=>?_;refine zz 4 ?_;refine zo 2 C9 ?_;refine zo 1 C9 ?_;have J1_:=(Le4 y3 y5 y7 y8).trans y9;refine zc C9 (zIr _ _ C9.lt _ _ _ n₁ (h₁.mono J1_) _ _ _ d₁ (k₁.mono J1_) s₁ (by assumption) (by assumption) _ _ _ d₂ (k₂.mono J1_) _ _ _ n₂ (h₂.mono J1_) s₂ (by assumption) (by assumption)) ?_
 rintro v11 w11 C11 y11 P11 ⟨sg11,m11,⟨ad11,len11,Q11,ae11,le11,ce11,rfl,hN11,hD11⟩,hm11,he11⟩;have J2_:=J1_.trans y11;refine zx 0 #[.slice ad11 len11 Q11,.slice ae11 le11 ce11,.bool sg11] C11 fun w12 C12 y12=>?_;refine zz 3 ?_;refine zrS [.cell 4 132] (v:= .agg #[.slice ad11 len11 Q11,.slice ae11 le11 ce11,.bool sg11]) (Res.cM C12 0 Res.nil) ?_;exact⟨C12.upd,_,rfl,_,_,⟨_,_,_,_,_,_,rfl,(hN11.mono y12).mono C12.le,(hD11.mono y12).mono C12.le⟩,hm11,he11⟩
def OpD(f:Nat)(op:Rat→Rat→Rat):Prop:=∀(w:World)(X:Hid)(hX:∀k o,X k o→k<w.heap.size)(ad₁:Option Addr)(len₁ cap₁ n₁:Nat)(h₁:zU (rd w X) ad₁ len₁ cap₁ n₁)(ae₁:Option Addr)(le₁ ce₁ d₁:Nat)(k₁:zU (rd w X) ae₁ le₁ ce₁ d₁)(s₁:Bool)(hn₁:n₁<qW)(hd₁:d₁<qW)(ad₂:Option Addr)(len₂ cap₂ n₂:Nat)(h₂:zU (rd w X) ad₂ len₂ cap₂ n₂)(ae₂:Option Addr)(le₂ ce₂ d₂:Nat)(k₂:zU (rd w X) ae₂ le₂ ce₂ d₂)(s₂:Bool)(hn₂:n₂<qW)(hd₂:d₂<qW)(hp₁:0<d₁)(hp₂:0<d₂)(hz:n₂≠0),Calls Tryz.prog f #[.agg #[.slice ad₁ len₁ cap₁,.slice ae₁ le₁ ce₁,.bool s₁],.agg #[.slice ad₂ len₂ cap₂,.slice ae₂ le₂ ce₂,.bool s₂]] w (Ret E0 w fun w' v=>∃s m d,zPx X w' v s m d∧m<4294967296^512∧d<4294967296^512∧0<d∧mkRat (sgn s m) d=op (mkRat (sgn s₁ n₁) d₁) (mkRat (sgn s₂ n₂) d₂))
theorem qGt(s:Bool)(a b:Nat):(mkRat (sgn s a) b)⁻¹=mkRat (sgn s b) a:=by
 rw[←Rat.divInt_ofNat,Rat.inv_divInt,←Rat.divInt_ofNat];cases s
 ·rfl
 ·show Rat.divInt b (-(a:Int))=Rat.divInt (-(b:Int)) a;rw[←Rat.neg_divInt_neg,Int.neg_neg]
theorem qMw:OpD 159 (·/ ·):=fun w X hX ad₁ len₁ cap₁ n₁ h₁ ae₁ le₁ ce₁ d₁ k₁ s₁ hn₁ hd₁ ad₂ len₂ cap₂ n₂ h₂ ae₂ le₂ ce₂ d₂ k₂ s₂ hn₂ hd₂ hp₁ hp₂ hz=>
 (qMv w X hX ad₁ len₁ cap₁ n₁ h₁ ae₁ le₁ ce₁ d₁ k₁ s₁ hn₁ hd₁ ad₂ len₂ cap₂ n₂ h₂ ae₂ le₂ ce₂ d₂ k₂ s₂ hn₂ hd₂).mono (by
  rintro e w' ⟨hu,v,rfl,s,m,hv,hm,he⟩;refine⟨hu,_,rfl,s,m,_,hv,hm,zCy hd₁ hn₂,Nat.mul_pos hp₁ (Nat.pos_of_ne_zero hz),?_⟩;show _=mkRat (sgn s₁ n₁) d₁ / mkRat (sgn s₂ n₂) d₂;rw[Rat.div_def,qGt,Rat.mkRat_mul_mkRat,he])
theorem zRg(f:Nat)(op:Rat→Rat→Rat)(hcf:∀args w,(callFunc f args).run Tryz.prog w= .ok (.enter f args) w)(hop:OpD f op)(w:World)(X:Hid)(hX:∀k o,X k o→k<w.heap.size)(a:Raw)(ad₁:Option Addr)(len₁ cap₁:Nat)(h₁:zL (rd w X) ad₁ len₁ cap₁ a.ln)(ae₁:Option Addr)(le₁ ce₁:Nat)(k₁:zL (rd w X) ae₁ le₁ ce₁ a.ld)(b:Raw)(ad₂:Option Addr)(len₂ cap₂:Nat)(h₂:zL (rd w X) ad₂ len₂ cap₂ b.ln)(ae₂:Option Addr)(le₂ ce₂:Nat)(k₂:zL (rd w X) ae₂ le₂ ce₂ b.ld)(hb0:val b.ln≠0)(z:Rat)(hz:op a.rat b.rat=z):Calls Tryz.prog 84 #[.agg #[.bool a.neg,.slice ad₁ len₁ cap₁,.slice ae₁ le₁ ce₁],.agg #[.bool b.neg,.slice ad₂ len₂ cap₂,.slice ae₂ le₂ ce₂],.func (.func f) #[] #[]] w (Ret E0 w fun w' v=>∃u,v= .tuple #[u,.int .i64 (opE a b z)]∧vG (old w) w' u (opR a b z)):=by
 refine zen Tryz.func84 ?_;have C0:St E0 w X w X []:=St.start hX;refine zz 2 ?_;refine zn pn (.cells #[.bool a.neg,.slice ad₁ len₁ cap₁,.slice ae₁ le₁ ce₁] 28 (0,0)) C0 fun b3 w3 Y3 C3 y3 P3=>?_;refine zn pn (.cells #[.bool b.neg,.slice ad₂ len₂ cap₂,.slice ae₂ le₂ ce₂] 28 (0,0)) C3 fun b5 w5 Y5 C5 y5 P5=>?_;refine zn pn (.cells #[.bool false,.slice none 0 0,.slice none 0 0] 28 (0,0)) C5 fun b7 w7 Y7 C7 y7 P7=>?_;refine zz 5 ?_;refine zdr C7 ?_;refine gw 0 2 ?_;refine gw 2 1 ?_;have J1_:=(Le2 y3 y5).trans y7;refine gC 1 (fun w8 Y8 _ C8 y8=>(xN _ _ C8.lt a _ _ _ (h₁.mono (J1_.trans y8)) _ _ _ (k₁.mono (J1_.trans y8)))) ?_;rintro v9 w8 Y9 w9 C8 y9 rfl;have J2_:=J1_.trans y9;refine gC 3 (fun w10 Y10 _ C10 y10=>(xN _ _ C10.lt b _ _ _ (h₂.mono (J2_.trans y10)) _ _ _ (k₂.mono (J2_.trans y10)))) ?_;rintro v11 w10 Y11 w11 C10 y11 rfl;refine gp1 (al 4 14 (fun b=> .slice (some ⟨b,0,none⟩) 2 2) (.cells #[.int .i64 a.chk,.int .i64 b.chk] 46 (0,0))) (fun b12=>?_);refine gC 5 (vs:=#[.slice (some ⟨b12,0,none⟩) 2 2]) (fun w13 Y13 _ C13 y13=>(qCs _ X0 (zT _) _ _ _ _ [a.chk,b.chk] rfl (by simp) (C13.at0 0 rfl rfl))) ?_
 rintro v14 w13 Y14 w14 C13 y14 rfl;refine gz [6] ?_;refine mZ (fun w15 Y15 C15 y15=>?_);refine zz 7 ?_;refine zb 17 (b:=((orL [a.chk,b.chk])!=0)) (fun J16=>?_) (fun J16=>?_);have F17:(orL [a.chk,b.chk])≠0:=by simpa using J16
 refine zz 5 ?_;refine zx 1 #[.bool false,.slice none 0 0,.slice none 0 0] C15 fun w18 C18 y18=>?_;refine zz 5 ?_;refine zrS [.cell 6 28,.tmp 7] (v:= .tuple #[.agg #[.bool false,.slice none 0 0,.slice none 0 0],.int .i64 (orL [a.chk,b.chk])]) (Res.cM C18 1 (Res.tZ Res.nil)) ?_;obtain⟨he1,he2⟩:=zRf (z:=z) F17;exact⟨C18.upd,_,rfl,_,by rw[he1],by rw[he2];exact wW⟩
 have F19:(orL [a.chk,b.chk])=0:=by simpa using J16
 obtain⟨hca,hcb⟩:=pE ((zGn _ _).symm.trans (by simpa using F19))
 obtain⟨hla,hma,cna,cda,_,_,_⟩:=Raw.chk_ok hca;have bna:val a.ln<qW:=(zR h₁.hlt cna 128).1 hla;have bda:a.d<qW:=by unfold Raw.d;split;exact Nat.one_lt_pow (by omega) (by omega);exact(zR k₁.hlt cda 128).1 hma
 have pda:=Raw.d_pos a;have hNna:=h₁.natR cna;have hNda:=k₁.natR cda;obtain⟨hlb,hmb,cnb,cdb,_,_,_⟩:=Raw.chk_ok hcb;have bnb:val b.ln<qW:=(zR h₂.hlt cnb 128).1 hlb;have bdb:b.d<qW:=by unfold Raw.d;split;exact Nat.one_lt_pow (by omega) (by omega);exact(zR k₂.hlt cdb 128).1 hmb
 have pdb:=Raw.d_pos b;have hNnb:=h₂.natR cnb;have hNdb:=k₂.natR cdb;refine zz 4 ?_;refine qLi [0,1,2,3] C15 ?_;refine gz [0] ?_;refine gw 1 3 ?_;refine gw 3 2 ?_;refine gp (al 7 9 pn (.cells #[.bool false,.slice none 0 0,.slice none 0 0] 28 (0,0))) ?_;have J3_:=((J2_.trans y11).trans y14).trans y15;refine gC 2 (fun w20 Y20 _ C20 y20=>(zWj _ _ C20.lt a.neg _ _ _ (val a.ln) (hNna.mono (J3_.trans y20)) _ _ _ (val a.ld) (hNda.mono (J3_.trans y20)))) ?_ (hPd:=yO.nil.k);rintro v21 w20 Y21 w21 C20 y21 ⟨ad21,len21,Q21,ae21,le21,ce21,rfl,hN21,hD21⟩;have J4_:=J3_.trans y21;refine gC 4 (fun w22 Y22 _ C22 y22=>(zWj _ _ C22.lt b.neg _ _ _ (val b.ln) (hNnb.mono (J4_.trans y22)) _ _ _ (val b.ld) (hNdb.mono (J4_.trans y22)))) ?_ (hPd:=yO.nil.k);rintro v23 w22 Y23 w23 C22 y23 ⟨ad23,len23,Q23,ae23,le23,ce23,rfl,hN23,hD23⟩;refine gC 5 (hcall:=(fun w=>hcf _ w)) (fun w24 Y24 _ C24 y24=>(hop _ _ C24.lt _ _ _ (val a.ln) (hN21.mono (Le2 y23 y24)) _ _ _ a.d (hD21.mono (Le2 y23 y24)) a.neg (by assumption) (by assumption) _ _ _ (val b.ln) (hN23.mono y24) _ _ _ b.d (hD23.mono y24) b.neg (by assumption) (by assumption) (by assumption) (by assumption) (by assumption))) ?_ (hPd:=yO.nil.k)
 rintro v25 w24 Y25 w25 C24 y25 ⟨sg25,m25,d25,⟨ad25,len25,Q25,ae25,le25,ce25,rfl,hN25,hD25⟩,hm25,hd25,hp25,he25⟩;refine gC 6 (fun w26 Y26 _ C26 y26=>(zEn _ _ C26.lt _ _ _ m25 (hN25.mono y26) _ _ _ d25 (hD25.mono y26) sg25 hm25 hd25 hp25 z (he25.trans hz))) ?_ (hPd:=yO.nil.k);rintro v27 w26 Y27 w27 C26 y27 ⟨ad27,len27,Q27,ae27,le27,ce27,rfl,hN27,hD27⟩;refine gs1 (fun b28=>?_) yO.nil.k;refine gX 8 0 #[.bool (decide (z.num<0)),.slice ad27 len27 Q27,.slice ae27 le27 ce27] fun w29 Y29 y29=>?_;refine mZ (fun w30 Y30 C30 y30=>?_);refine zz 5 ?_;refine zo 0 C30 ?_;refine zz 3 ?_;refine zt 31 (p:=(len27:Int)>128) (fun F31=>?_) (fun F31=>?_);refine zz 11 ?_;refine zx 2 #[.bool false,.slice none 0 0,.slice none 0 0] C30 fun w32 C32 y32=>?_;refine zz 5 ?_;refine zrS [.cell 6 28,.tmp 7] (v:= .tuple #[.agg #[.bool false,.slice none 0 0,.slice none 0 0],.int .i64 4]) (Res.cM C32 2 (Res.tZ Res.nil)) ?_;obtain⟨he1,he2⟩:=zDh (z:=z) F19 (fun hh=>absurd ((hN27.len_le 128).2 hh.1) (by omega))
 exact⟨C32.upd,_,rfl,_,by rw[he1],by rw[he2];exact wW⟩
 refine zz 1 ?_;refine zo 0 C30 ?_;refine zz 5 ?_;refine zt 36 (p:=(le27:Int)>128) (fun F33=>?_) (fun F33=>?_);refine zz 4 ?_;refine zx 2 #[.bool false,.slice none 0 0,.slice none 0 0] C30 fun w34 C34 y34=>?_;refine zz 5 ?_;refine zrS [.cell 6 28,.tmp 7] (v:= .tuple #[.agg #[.bool false,.slice none 0 0,.slice none 0 0],.int .i64 4]) (Res.cM C34 2 (Res.tZ Res.nil)) ?_;obtain⟨he1,he2⟩:=zDh (z:=z) F19 (fun hh=>absurd ((hD27.len_le 128).2 hh.2) (by omega))
 exact⟨C34.upd,_,rfl,_,by rw[he1],by rw[he2];exact wW⟩
 refine zz 5 ?_;refine zo 0 C30 ?_;refine zx 2 #[.bool (decide (z.num<0)),.slice ad27 len27 Q27,.slice ae27 le27 ce27] C30 fun w35 C35 y35=>?_;refine zz 4 ?_;refine zrS [.cell 6 28,.tmp 7] (v:= .tuple #[.agg #[.bool (decide (z.num<0)),.slice ad27 len27 Q27,.slice ae27 le27 ce27],.int .i64 0]) (Res.cM C35 2 (Res.tZ Res.nil)) ?_;obtain⟨he1,he2⟩:=zUb (z:=z) F19 ⟨(hN27.len_le 128).1 (by omega),(hD27.len_le 128).1 (by omega)⟩
 exact⟨C35.upd,_,rfl,_,by rw[he1],by rw[he2];exact bD.raw ⟨_,_,_,_,_,_,rfl,((hN27.mono (Le.own C26.lt C26.upd.size (Le3 y29 y30 y35))).mono Le.orr),((hD27.mono (Le.own C26.lt C26.upd.size (Le3 y29 y30 y35))).mono Le.orr)⟩⟩
include hX in
theorem qPt(a:Raw)(ad₁:Option Addr)(len₁ cap₁:Nat)(h₁:zL (rd w X) ad₁ len₁ cap₁ a.ln)(ae₁:Option Addr)(le₁ ce₁:Nat)(k₁:zL (rd w X) ae₁ le₁ ce₁ a.ld)(b:Raw)(ad₂:Option Addr)(len₂ cap₂:Nat)(h₂:zL (rd w X) ad₂ len₂ cap₂ b.ln)(ae₂:Option Addr)(le₂ ce₂:Nat)(k₂:zL (rd w X) ae₂ le₂ ce₂ b.ld)(hb0:val b.ln≠0):Calls Tryz.prog 80 #[.agg #[.bool a.neg,.slice ad₁ len₁ cap₁,.slice ae₁ le₁ ce₁],.agg #[.bool b.neg,.slice ad₂ len₂ cap₂,.slice ae₂ le₂ ce₂]] w (Ret E0 w fun w' v=>∃u,v= .tuple #[u,.int .i64 (opE a b (a.rat / b.rat))]∧vG (old w) w' u (opR a b (a.rat / b.rat))):=by
 refine zen Tryz.func80 ?_;have C0:St E0 w X w X []:=St.start hX;refine zz 2 ?_;refine zn pn (.cells #[.bool a.neg,.slice ad₁ len₁ cap₁,.slice ae₁ le₁ ce₁] 28 (0,0)) C0 fun b3 w3 Y3 C3 y3 P3=>?_;refine zn pn (.cells #[.bool b.neg,.slice ad₂ len₂ cap₂,.slice ae₂ le₂ ce₂] 28 (0,0)) C3 fun b5 w5 Y5 C5 y5 P5=>?_;refine zn pn (.cells #[.bool false,.slice none 0 0,.slice none 0 0] 28 (0,0)) C5 fun b7 w7 Y7 C7 y7 P7=>?_;refine zz 5 ?_;refine zdr C7 ?_;refine gw 0 2 ?_;refine gw 2 1 ?_;have J1_:=(Le2 y3 y5).trans y7;refine gC 1 (fun w8 Y8 _ C8 y8=>(xN _ _ C8.lt a _ _ _ (h₁.mono (J1_.trans y8)) _ _ _ (k₁.mono (J1_.trans y8)))) ?_;rintro v9 w8 Y9 w9 C8 y9 rfl;have J2_:=J1_.trans y9;refine gC 3 (fun w10 Y10 _ C10 y10=>(xN _ _ C10.lt b _ _ _ (h₂.mono (J2_.trans y10)) _ _ _ (k₂.mono (J2_.trans y10)))) ?_;rintro v11 w10 Y11 w11 C10 y11 rfl;refine gp1 (al 4 11 (fun b=> .slice (some ⟨b,0,none⟩) 2 2) (.cells #[.int .i64 a.chk,.int .i64 b.chk] 46 (0,0))) (fun b12=>?_);refine gC 5 (vs:=#[.slice (some ⟨b12,0,none⟩) 2 2]) (fun w13 Y13 _ C13 y13=>(qCs _ X0 (zT _) _ _ _ _ [a.chk,b.chk] rfl (by simp) (C13.at0 0 rfl rfl))) ?_
 rintro v14 w13 Y14 w14 C13 y14 rfl;refine gz [6] ?_;refine mZ (fun w15 Y15 C15 y15=>?_);refine zz 7 ?_;refine zb 14 (b:=((orL [a.chk,b.chk])!=0)) (fun J16=>?_) (fun J16=>?_);have F17:(orL [a.chk,b.chk])≠0:=by simpa using J16
 refine zz 5 ?_;refine zx 1 #[.bool false,.slice none 0 0,.slice none 0 0] C15 fun w18 C18 y18=>?_;refine zz 5 ?_;refine zrS [.cell 4 28,.tmp 5] (v:= .tuple #[.agg #[.bool false,.slice none 0 0,.slice none 0 0],.int .i64 (orL [a.chk,b.chk])]) (Res.cM C18 1 (Res.tZ Res.nil)) ?_;obtain⟨he1,he2⟩:=zRf (z:=a.rat / b.rat) F17;exact⟨C18.upd,_,rfl,_,by rw[he1],by rw[he2];exact wW⟩
 have F19:(orL [a.chk,b.chk])=0:=by simpa using J16
 refine zz 7 ?_;refine zo 2 C15 ?_;refine zz 4 ?_;refine zb 20 (b:=((len₂:Int)==0)) (fun J20=>?_) (fun J20=>?_);have F21:(len₂:Int)=0:=by simpa using J20
 exact absurd (by have:=h₂.hlen;have hl:b.ln=[]:=List.length_eq_zero_iff.1 (by omega);rw[hl];rfl) hb0
 have F22:(len₂:Int)≠0:=by simpa using J20
 refine zz 5 ?_;refine zo 3 C15 ?_;refine zo 2 C15 ?_;have J3_:=((J2_.trans y11).trans y14).trans y15;refine zc C15 (zRg 159 (·/ ·) (fun args w=>Tryz.call159 args w) qMw _ _ C15.lt a _ _ _ (h₁.mono J3_) _ _ _ (k₁.mono J3_) b _ _ _ (h₂.mono J3_) _ _ _ (k₂.mono J3_) hb0 (a.rat / b.rat) rfl) ?_;rintro v24 w24 C24 y24 P24 ⟨u24,rfl,⟨ad24,len24,Q24,ae24,le24,ce24,rfl,hN24,hD24⟩⟩;refine zz 2 ?_;refine zx 1 #[.bool ((opR a b (a.rat / b.rat)).neg),.slice ad24 len24 Q24,.slice ae24 le24 ce24] C24 fun w25 C25 y25=>?_;refine zz 4 ?_;refine zrS [.cell 4 28,.tmp 5] (v:= .tuple #[.agg #[.bool ((opR a b (a.rat / b.rat)).neg),.slice ad24 len24 Q24,.slice ae24 le24 ce24],.int .i64 (opE a b (a.rat / b.rat))]) (Res.cM C25 1 (Res.tZ Res.nil)) ?_;exact⟨C25.upd,_,rfl,_,rfl,⟨_,_,_,_,_,_,rfl,((hN24.mono (Le.own C15.lt C15.upd.size y25)).mono Le.orr),((hD24.mono (Le.own C15.lt C15.upd.size y25)).mono Le.orr)⟩⟩
end
section
variable (w:World)(X:Hid)(hX:∀k o,X k o→k<w.heap.size)
set_option maxHeartbeats 1000000
include hX in
theorem zDw(ad:Option Addr)(len cap:Nat)(l:List Nat)(h:zL (rd w X) ad len cap l):
    Calls Tryz.prog 236 #[.slice ad len cap] w (Ret E0 w fun _ v=>v= .slice ad (qI l) cap):=by
 obtain rfl:=h.hlen;have hl:=h.hlen;have hcap:=h.hcap;have hbig:=h.hbig;refine zen Tryz.func236 ?_;have C0:St E0 w X w X []:=St.start hX;refine zz 7 ?_;refine zlp Tryz.f236 [] [1,0,0] (fun(k:Nat)=>[(0,.slice ad k cap)]) (fun k w1=>∃(Y1:Hid),St E0 w X w1 Y1 []∧Le (rd w X) (rd w1 Y1)∧(k≤l.length)∧(jW l k=jW l l.length)) (fun k=>k) l.length ?_ ?_
 ·
  refine⟨_,C0,Le.refl _,Nat.le_refl _,rfl⟩
 rintro k w2 K2 Z2 ⟨Y2,C2,y2,hp2_0,hp2_1⟩;have hk:=hp2_0;have ht:=hp2_1;refine zz 7 ?_;refine zt 6 (p:=(k:Int)>0) (fun F3=>?_) (fun F3=>?_)
 ·
  obtain⟨bk4,of5,rfl,_⟩:=h.addr (by omega)
  have hcell:=(h.cell (i:=k-1) (by omega))
  refine zz 4 ?_;refine zw 10 (x:=(k:Int)-1) ?_;refine zi (b:=bk4) (off:=of5) (len:=k) (cap:=cap) (kd:= .i64) (i:=(k:Int)-1) 1 (of5+(k-1)) ?_ (hoff:=(by first | omega | (simp;done) | (simp;omega)))
  refine zl ((hcell.mono y2)).cells ?_;refine zz 4 ?_;refine zb 14 (b:=(((l.getD (k-1) 0:Nat):Int)==0)) (fun J6=>?_) (fun J6=>?_)
  ·
   have F7:((l.getD (k-1) 0:Nat):Int)=0:=by simpa using J6
   have hk2:=zCg (l:=l) (k:=k) (by omega) (by omega)
   refine zz 9 ?_;refine zw 18 (x:=(k:Int)-1) ?_;refine zop (at1 [K2] Tryz.f236 [1,0,0,0,1,0]) 4 (fun a8 _ G8 hz8=>zE (d:=19) (v:= .slice (some ⟨bk4,of5,none⟩) (k-1) cap) G8 kr (aS (t:=26) (e:=214) (ad:=(some ⟨bk4,of5,none⟩)) (len:=k) (cap:=cap) (kd:= .i64) (i:=(k:Int)-1) (h':=(k-1)) (g:=false) (m:=1) rfl kr kr kr kr (by omega) (by omega) (by first | omega | (simp;done) | (simp;omega)) _) ?_)
   intro a9 G9;refine hz8 G9 ?_;refine zz 3 ?_;refine yL (fun a h=>Z2 (k-1) _ a h ⟨_,C2,y2,by omega,by omega⟩ ?_)
   first | omega | (simp<;>omega)
  have F10:((l.getD (k-1) 0:Nat):Int)≠0:=by simpa using J6
  have hk2:=zCf (l:=l) (k:=k) (by omega) (by omega)
  refine zz 13 ?_;refine zr' (v:= .slice (some ⟨bk4,of5,none⟩) k cap) ?_;exact⟨C2.upd,_,rfl,by unfold qI;first | rw[←ht,hk2] | rw[←ht];rfl⟩
 obtain rfl:k=0:=by omega
 refine zz 23 ?_;refine zr' (v:= .slice ad 0 cap) ?_;exact⟨C2.upd,_,rfl,by unfold qI;first | rw[←ht,hk2] | rw[←ht];rfl⟩
include hX in
theorem zMr(ad:Option Addr)(len cap:Nat)(l:List Nat)(h:zL (rd w X) ad len cap l):Calls Tryz.prog 149 #[.slice ad len cap] w (Ret E0 w fun _ v=>v= .int .i64 (qU l)):=by
 obtain rfl:=h.hlen;have hcap:=h.hcap;have hbig:=h.hbig;refine zen Tryz.func149 ?_;have C0:St E0 w X w X []:=St.start hX;refine zz 13 ?_;refine zt 5 (p:=(l.length:Int)>512) (fun F2=>?_) (fun F2=>?_);refine zz 8 ?_;refine zr' (v:= .int .i64 4) ?_;exact⟨C0.upd,_,rfl,zO (by unfold qU;(repeat' split)<;>first | rfl | omega)⟩
 refine zz 10 ?_;refine zt 9 (p:=(l.length:Int)>0) (fun F3=>?_) (fun F3=>?_);obtain⟨bk4,of5,rfl,_⟩:=h.addr (by omega)
 refine zz 4 ?_;refine zw 13 (x:=(l.length:Int)-1) ?_;refine zi (b:=bk4) (off:=of5) (len:=l.length) (cap:=cap) (kd:= .i64) (i:=(l.length:Int)-1) 1 (of5+(l.length-1)) ?_ (hoff:=(by first | omega | (simp;done) | (simp;omega)))
 refine zl ((h.cell (i:=(l.length-1)) (by omega)).mono (Le.refl _)).cells ?_
 refine zz 4 ?_;refine zb 17 (b:=(((l.getD (l.length-1) 0:Nat):Int)==0)) (fun J6=>?_) (fun J6=>?_);have F7:((l.getD (l.length-1) 0:Nat):Int)=0:=by simpa using J6
 refine zz 8 ?_;refine zr' (v:= .int .i64 2) ?_;exact⟨C0.upd,_,rfl,zO (by unfold qU;(repeat' split)<;>first | rfl | omega)⟩
 have F8:((l.getD (l.length-1) 0:Nat):Int)≠0:=by simpa using J6
 refine zz 9 ?_;refine zr' (v:= .int .i64 0) ?_;exact⟨C0.upd,_,rfl,zO (by unfold qU;(repeat' split)<;>first | rfl | omega)⟩
 refine zz 19 ?_;refine zr' (v:= .int .i64 0) ?_;exact⟨C0.upd,_,rfl,zO (by unfold qU;(repeat' split)<;>first | rfl | omega)⟩
include hX in
theorem sF(ad:Option Addr)(len cap:Nat)(l:List Nat)(h:zL (rd w X) ad len cap l)(i:Nat):Calls Tryz.prog 262 #[.slice ad len cap,.int .i64 (i:Int)] w (Ret E0 w fun _ v=>v= .int .u64 ((l.getD i 0:Nat):Int)):=by
 obtain rfl:=h.hlen;have hcap:=h.hcap;have hbig:=h.hbig;have hlt:=h.getD_lt i;refine zen Tryz.func262 ?_;have C0:St E0 w X w X []:=St.start hX;refine zz 14 ?_;refine zt 8 (p:=(i:Int)<(l.length:Int)) (fun F2=>?_) (fun F2=>?_);obtain⟨bk3,of4,rfl,_⟩:=h.addr (by omega)
 refine zz 5 ?_;refine zi (b:=bk3) (off:=of4) (len:=l.length) (cap:=cap) (kd:= .i64) (i:=(i:Int)) 1 (of4+i) ?_;refine zl ((h.cell (i:=i) (by omega)).mono (Le.refl _)).cells ?_
 refine zz 1 ?_;refine zs 13 (v:= .int .u64 (IntKind.u64.wrap (((l.getD i 0:Nat):Int)))) (v':= .int .u64 ((l.getD i 0:Nat):Int)) (zO (sZ (by omega) (by omega))) ?_
 refine zz 5 ?_;refine zr' (v:= .int .u64 ((l.getD i 0:Nat):Int)) ?_;exact⟨C0.upd,_,rfl,zO (by first | rfl | (rw[List.getD_eq_getElem?_getD,List.getElem?_eq_none (by omega)];rfl))⟩
 refine zz 9 ?_;refine zr' (v:= .int .u64 0) ?_;exact⟨C0.upd,_,rfl,zO (by first | rfl | (rw[List.getD_eq_getElem?_getD,List.getElem?_eq_none (by omega)];rfl))⟩
end
set_option maxHeartbeats 1000000
theorem zFw{len:Nat}(l:List Nat)(h:len=l.length):qI l≤len:=by rw[h];exact wO l _
theorem mx1{l l2:List Nat}{k c:Nat}(hc:¬0<c)(h1:¬k<l.length)(h2:¬k<l2.length){v:Nat}(h:v+c*4294967296^k=val (l.take k)+val (l2.take k)):v=val l+val l2:=by
 rw[List.take_of_length_le (by omega),List.take_of_length_le (by omega),show c=0 by omega]at h;omega
theorem zUs{ls:List Nat}{x:Nat}(h:∀y∈ls,y<4294967296)(hx:x<4294967296):∀y∈ls++[x],y<4294967296:=fun y hy=>by
 rcases List.mem_append.1 hy with h1 | h1
 ·exact h y h1
 ·obtain rfl:=List.mem_singleton.1 h1;exact hx
theorem bV{l:List Nat}{k:Nat}(h:l.length≤k):l.getD k 0=0:=by rw[List.getD_eq_getElem?_getD,List.getElem?_eq_none h];rfl
theorem qEc(w:World)(X:Hid)(hX:∀k o,X k o→k<w.heap.size)(ad:Option Addr)(len cap:Nat)(l:List Nat)(h:zL (rd w X) ad len cap l)(ad2:Option Addr)(len2 Q2:Nat)(l2:List Nat)(h2:zL (rd w X) ad2 len2 Q2 l2)(hm:len≤1000000)(hm2:len2≤1000000):Calls Tryz.prog 218 #[.slice ad len cap,.slice ad2 len2 Q2] w (Ret E0 w fun w' v=>mD X w' v (val l+val l2)):=by
 obtain rfl:=h.hlen;obtain rfl:=h2.hlen;have hcap:=h.hcap;have hbig:=h.hbig;have hcap2:=h2.hcap;have hbig2:=h2.hbig;refine zen Tryz.func218 ?_;have C0:St E0 w X w X []:=St.start hX;refine zz 22 ?_;refine zlp Tryz.f218 [] [1,1,1,0,1,0] (fun((k,ad8,Q8,c):Nat×(Option Addr)×Nat×Nat)=>[(0,.slice ad l.length cap),(1,.slice ad2 l2.length Q2),(5,.slice ad8 k Q8),(6,.int .u64 (c:Int)),(7,.int .i64 (k:Int))]) (fun(k,ad8,Q8,c)w1=>∃(Y1:Hid)(rb:List (Nat×Obj))(ls:List Nat),St E0 w X w1 Y1 (rb)∧Le (rd w X) (rd w1 Y1)∧(rD 214 1 rb ad8 k Q8 (U32 ls))∧(ls.length=k)∧(∀x∈ls,x<4294967296)∧(val ls+c*4294967296^k=val (l.take k)+val (l2.take k))∧(c≤1)∧(k≤max l.length l2.length+1)∧(k=max l.length l2.length+1→c=0)) (fun(k,ad8,Q8,c)=>max l.length l2.length+1-k) (0,none,0,0) ?_ ?_;refine⟨_,[],[],C0,Le.refl _,rD.nil _ _,rfl,fun _ h=>absurd h (by simp),by simp[val],by omega,Nat.zero_le _,fun _=>rfl⟩
 rintro⟨k,ad8,Q8,c⟩ w2 K2 Z2 ⟨Y2,rb,ls,C2,y2,hp2_0,hp2_1,hp2_2,hp2_3,hp2_4,hp2_5,hp2_6⟩;have hrw:=hp2_0;have hrl:=hp2_1;have hrt:=hp2_2;have hv:=hp2_3;have hc:=hp2_4;have hk:=hp2_5;have hkc:=hp2_6;have hlt1:=h.getD_lt k;have hlt2:=h2.getD_lt k;refine zz 1 ?_;refine qSr (fun(bj3_22:Bool)=>[(0,.slice ad l.length cap),(1,.slice ad2 l2.length Q2),(5,.slice ad8 k Q8),(6,.int .u64 (c:Int)),(7,.int .i64 (k:Int)),(22,.bool bj3_22)]) (fun bj3_22 w1=>∃Y1:Hid,St E0 w X w1 Y1 (rb)∧Le (rd w2 Y2) (rd w1 Y1)∧(bj3_22=true↔(k<l.length∨k<l2.length∨0<c))) ?_ ?_;rintro bj3_22 w3 ⟨Y3,C3,y3,hjp3⟩;refine zb 22 (b:=bj3_22) (fun J4=>?_) (fun J4=>?_);have F5:bj3_22=true:=by simpa using J4
 have hgo:=hjp3.1 F5;refine zz 9 ?_;refine zc C3 (sF _ X0 (zT _) _ _ _ l ((h.mono (Le2 y2 y3)).mono Le.x0) k) ?_;rintro v7 w7 C7 y7 P7 rfl;refine zz 2 ?_;refine zc C7 (sF _ X0 (zT _) _ _ _ l2 ((h2.mono (Le3 y2 y3 y7)).mono Le.x0) k) ?_;rintro v9 w9 C9 y9 P9 rfl;refine zz 1 ?_;refine zs 31 (v:= .int .u64 (IntKind.u64.wrap (((l.getD k 0:Nat):Int)+((l2.getD k 0:Nat):Int)))) (v':= .int .u64 (((l.getD k 0:Nat):Int)+((l2.getD k 0:Nat):Int))) (zO (sZ (by omega) (by omega))) ?_
 refine zz 2 ?_;refine zs 33 (v:= .int .u64 (IntKind.u64.wrap ((((l.getD k 0:Nat):Int)+((l2.getD k 0:Nat):Int))+(c:Int)))) (v':= .int .u64 (((l.getD k 0+l2.getD k 0+c):Nat):Int)) (zO ((sZ (by omega) (by omega)).trans (by omega))) ?_
 refine zz 8 ?_;refine zs 36 (v:= .int .u64 (Int.tmod ((((l.getD k 0+l2.getD k 0+c):Nat):Int)) (4294967296))) (v':= .int .u64 (((l.getD k 0+l2.getD k 0+c) % 4294967296:Nat):Int)) (zO (by rfl)) ?_
 refine zz 1 ?_;refine zs 37 (v:= .int .u32 (IntKind.u32.wrap ((((l.getD k 0+l2.getD k 0+c) % 4294967296:Nat):Int)))) (v':= .int .u32 (((l.getD k 0+l2.getD k 0+c) % 4294967296:Nat):Int)) (zO (qEt (by omega) (by omega))) ?_
 refine zn (fun b=> .slice (some ⟨b,0,none⟩) 1 1) (.cells #[.int .u32 (((l.getD k 0+l2.getD k 0+c) % 4294967296:Nat):Int)] 214 (0,0)) C9 fun b11 w11 Y11 C11 y11 P11=>?_;refine zop (at1 [K2] Tryz.f218 [1,1,1,0,1,0,0,1,0,0,1,0]) 5 (fun a12 _ G12 hz12=>zOg (b:=4) (m:=1) (c:=1) (ad:=⟨b11,0,none⟩) (news:=[.int .u32 (((l.getD k 0+l2.getD k 0+c) % 4294967296:Nat):Int)]) (i0:=Tryz.t214) (R1:=[]) 1 G12 C11 rfl hrw (C11.cells 0 rfl rfl) (by omega) (by omega) ?_)
 intro rb13 ad13 Q13 w13 Y13 D13 C13 y13 a14 G14;have hrw13:rD 214 1 rb13 ad13 (k+1) Q13 (U32 (ls++[(l.getD k 0+l2.getD k 0+c) % 4294967296])):=by rw[←zMd];exact D13
 refine hz12 G14 ?_;refine zz 6 ?_;refine zs 41 (v:= .int .u64 (IntKind.u64.wrap (Int.tdiv ((((l.getD k 0+l2.getD k 0+c):Nat):Int)) (4294967296)))) (v':= .int .u64 (((l.getD k 0+l2.getD k 0+c) / 4294967296:Nat):Int)) (zO (zLr _ (by omega))) ?_
 refine zz 7 ?_;refine zw 24 (x:=(k:Int)+1) ?_;refine zz 2 ?_;have J1_:=(Le5 y2 y3 y7 y9 y11).trans y13;refine yL (fun a h=>Z2 ((k+1,ad13,Q13,(l.getD k 0+l2.getD k 0+c) / 4294967296)) _ a h ⟨_,rb13,(ls++[(l.getD k 0+l2.getD k 0+c) % 4294967296]),C13.tail,J1_,hrw13,by rw[List.length_append,hrl];rfl,zUs hrt (by omega),qJf _ _ _ _ _ hrl hv,by omega,by omega,fun hk9=>by have e1:l.getD k 0=0:=bV (by omega);have e2:l2.getD k 0=0:=bV (by omega);omega⟩ ?_)
 first | omega | (simp<;>omega)
 have F15:bj3_22=false:=by simpa using J4
 have hno:¬(k<l.length∨k<l2.length∨0<c):=fun e=>by rw[hjp3.2 e]at F15;cases F15
 have hend:=mx1 (fun e=>hno (.inr (.inr e))) (fun e=>hno (.inl e)) (fun e=>hno (.inr (.inl e))) hv;refine zz 9 ?_;obtain⟨Y17,hSx17,y17,hL17⟩:=St.pubLimbs (A:=[]) (B:=[]) (fun rb=>(rb)) C3 (fun _=>by simp only[List.append_assoc,List.cons_append,List.nil_append,List.append_nil]) hrw hrl.symm hrt
 have C17:St E0 w X w3 Y17 []:=hSx17;refine zc C17 (zDw _ _ C17.lt _ _ _ ls hL17) ?_;rintro v18 w18 C18 y18 P18 rfl;refine zz 4 ?_;refine zr' (v:= .slice ad8 (qI ls) Q8) ?_;exact⟨C18.upd,_,rfl,_,_,_,rfl,_,((hL17.sub (zFw _ hL17.hlen)).mono (Le.trans y18 C18.le)),qM _,by rw[show List.take (qI ls) ls=Go.Gv.trimmed ls from rfl,qY];exact hend⟩
 intro K19 Z19;refine zz 6 ?_;refine zt 13 (p:=(k:Int)<(l.length:Int)) (fun F20=>?_) (fun F20=>?_);refine zz 10 ?_;exact yL (fun a h=>Z19 true _ a h ⟨_,C2,(Le.refl _),by first | exact⟨fun _=>by omega,fun _=>rfl⟩ | exact⟨fun e=>by have:=of_decide_eq_true e;omega,fun e=>decide_eq_true (by omega)⟩⟩)
 refine zz 6 ?_;refine zt 19 (p:=(k:Int)<(l2.length:Int)) (fun F21=>?_) (fun F21=>?_);refine zz 4 ?_;exact yL (fun a h=>Z19 true _ a h ⟨_,C2,(Le.refl _),by first | exact⟨fun _=>by omega,fun _=>rfl⟩ | exact⟨fun e=>by have:=of_decide_eq_true e;omega,fun e=>decide_eq_true (by omega)⟩⟩)
 refine zz 4 ?_;exact yL (fun a h=>Z19 (decide ((c:Int)>0)) _ a h ⟨_,C2,(Le.refl _),by first | exact⟨fun _=>by omega,fun _=>rfl⟩ | exact⟨fun e=>by have:=of_decide_eq_true e;omega,fun e=>decide_eq_true (by omega)⟩⟩)
set_option maxHeartbeats 1000000
theorem zSt(w:World)(X:Hid)(hX:∀k o,X k o→k<w.heap.size)(ad:Option Addr)(len cap:Nat)(l:List Nat)(h:zL (rd w X) ad len cap l)(ad2:Option Addr)(len2 Q2:Nat)(l2:List Nat)(h2:zL (rd w X) ad2 len2 Q2 l2)(hm:len≤1000000)(hll:l2.length≤l.length)(hle:val l2≤val l):Calls Tryz.prog 220 #[.slice ad len cap,.slice ad2 len2 Q2] w (Ret E0 w fun w' v=>mD X w' v (val l-val l2)):=by
 obtain rfl:=h.hlen;obtain rfl:=h2.hlen;have hcap:=h.hcap;have hbig:=h.hbig;have hcap2:=h2.hcap;have hbig2:=h2.hbig;refine zen Tryz.func220 ?_;have C0:St E0 w X w X []:=St.start hX;refine zz 22 ?_;refine zlp Tryz.f220 [] [1,1,1,0,1,0] (fun((k,ad8,Q8,c):Nat×(Option Addr)×Nat×Nat)=>[(0,.slice ad l.length cap),(1,.slice ad2 l2.length Q2),(5,.slice ad8 k Q8),(6,.int .u64 (c:Int)),(7,.int .i64 (k:Int))]) (fun(k,ad8,Q8,c)w1=>∃(Y1:Hid)(rb:List (Nat×Obj))(ls:List Nat),St E0 w X w1 Y1 (rb)∧Le (rd w X) (rd w1 Y1)∧(rD 214 1 rb ad8 k Q8 (U32 ls))∧(ls.length=k)∧(∀x∈ls,x<4294967296)∧(val ls+val (l2.take k)=val (l.take k)+c*4294967296^k)∧(c≤1)∧(k≤l.length)) (fun(k,ad8,Q8,c)=>l.length-k) (0,none,0,0) ?_ ?_;refine⟨_,[],[],C0,Le.refl _,rD.nil _ _,rfl,fun _ h=>absurd h (by simp),by simp[val],by omega,Nat.zero_le _⟩
 rintro⟨k,ad8,Q8,c⟩ w2 K2 Z2 ⟨Y2,rb,ls,C2,y2,hp2_0,hp2_1,hp2_2,hp2_3,hp2_4,hp2_5⟩;have hrw:=hp2_0;have hrl:=hp2_1;have hrt:=hp2_2;have hv:=hp2_3;have hc:=hp2_4;have hk:=hp2_5;have hlt1:=h.getD_lt k;have hlt2:=h2.getD_lt k;refine zz 9 ?_;refine zt 12 (p:=(k:Int)<(l.length:Int)) (fun F3=>?_) (fun F3=>?_);refine zz 9 ?_;refine zc C2 (sF _ X0 (zT _) _ _ _ l ((h.mono y2).mono Le.x0) k) ?_;rintro v5 w5 C5 y5 P5 rfl;refine zz 1 ?_;refine zs 18 (v:= .int .u64 (IntKind.u64.wrap ((4294967296:Int)+((l.getD k 0:Nat):Int)))) (v':= .int .u64 ((4294967296:Int)+((l.getD k 0:Nat):Int))) (zO (sZ (by omega) (by omega))) ?_
 refine zz 2 ?_;refine zc C5 (sF _ X0 (zT _) _ _ _ l2 ((h2.mono (Le2 y2 y5)).mono Le.x0) k) ?_;rintro v7 w7 C7 y7 P7 rfl;refine zz 1 ?_;refine zs 22 (v:= .int .u64 (IntKind.u64.wrap (((4294967296:Int)+((l.getD k 0:Nat):Int))-((l2.getD k 0:Nat):Int)))) (v':= .int .u64 (((4294967296:Int)+((l.getD k 0:Nat):Int))-((l2.getD k 0:Nat):Int))) (zO (sZ (by omega) (by omega))) ?_
 refine zz 2 ?_;refine zs 24 (v:= .int .u64 (IntKind.u64.wrap ((((4294967296:Int)+((l.getD k 0:Nat):Int))-((l2.getD k 0:Nat):Int))-(c:Int)))) (v':= .int .u64 (((4294967296+l.getD k 0-l2.getD k 0-c):Nat):Int)) (zO ((sZ (by omega) (by omega)).trans (by omega))) ?_
 refine zz 8 ?_;refine zs 27 (v:= .int .u64 (Int.tmod ((((4294967296+l.getD k 0-l2.getD k 0-c):Nat):Int)) (4294967296))) (v':= .int .u64 (((4294967296+l.getD k 0-l2.getD k 0-c) % 4294967296:Nat):Int)) (zO (by rfl)) ?_
 refine zz 1 ?_;refine zs 28 (v:= .int .u32 (IntKind.u32.wrap ((((4294967296+l.getD k 0-l2.getD k 0-c) % 4294967296:Nat):Int)))) (v':= .int .u32 (((4294967296+l.getD k 0-l2.getD k 0-c) % 4294967296:Nat):Int)) (zO (qEt (by omega) (by omega))) ?_
 refine zn (fun b=> .slice (some ⟨b,0,none⟩) 1 1) (.cells #[.int .u32 (((4294967296+l.getD k 0-l2.getD k 0-c) % 4294967296:Nat):Int)] 214 (0,0)) C7 fun b9 w9 Y9 C9 y9 P9=>?_;refine zop (at1 [K2] Tryz.f220 [1,1,1,0,1,0,0,1,0,0,1,0]) 5 (fun a10 _ G10 hz10=>zOg (b:=4) (m:=1) (c:=1) (ad:=⟨b9,0,none⟩) (news:=[.int .u32 (((4294967296+l.getD k 0-l2.getD k 0-c) % 4294967296:Nat):Int)]) (i0:=Tryz.t214) (R1:=[]) 1 G10 C9 rfl hrw (C9.cells 0 rfl rfl) (by omega) (by omega) ?_)
 intro rb11 ad11 Q11 w11 Y11 D11 C11 y11 a12 G12;have hrw11:rD 214 1 rb11 ad11 (k+1) Q11 (U32 (ls++[(4294967296+l.getD k 0-l2.getD k 0-c) % 4294967296])):=by rw[←zMd];exact D11
 refine hz10 G12 ?_;refine zz 6 ?_;refine zs 32 (v:= .int .u64 (IntKind.u64.wrap (Int.tdiv ((((4294967296+l.getD k 0-l2.getD k 0-c):Nat):Int)) (4294967296)))) (v':= .int .u64 (((4294967296+l.getD k 0-l2.getD k 0-c) / 4294967296:Nat):Int)) (zO (zLr _ (by omega))) ?_
 refine zz 1 ?_;refine zs 33 (v:= .int .u64 (IntKind.u64.wrap ((1:Int)-(((4294967296+l.getD k 0-l2.getD k 0-c) / 4294967296:Nat):Int)))) (v':= .int .u64 ((1-(4294967296+l.getD k 0-l2.getD k 0-c) / 4294967296:Nat):Int)) (zO ((sZ (by omega) (by omega)).trans (by omega))) ?_
 refine zz 7 ?_;refine zw 14 (x:=(k:Int)+1) ?_;refine zz 2 ?_;have J1_:=(Le4 y2 y5 y7 y9).trans y11;refine yL (fun a h=>Z2 ((k+1,ad11,Q11,(1-(4294967296+l.getD k 0-l2.getD k 0-c) / 4294967296))) _ a h ⟨_,rb11,(ls++[(4294967296+l.getD k 0-l2.getD k 0-c) % 4294967296]),C11.tail,J1_,hrw11,by rw[List.length_append,hrl];rfl,zUs hrt (by omega),zZh _ _ _ _ _ hrl hlt1 hlt2 hc hv,by omega,by omega⟩ ?_)
 first | omega | (simp<;>omega)
 have hend:=zZg hrl (by omega) hrt hll hle hc hv
 refine zz 9 ?_;obtain⟨Y14,hSx14,y14,hL14⟩:=St.pubLimbs (A:=[]) (B:=[]) (fun rb=>(rb)) C2 (fun _=>by simp only[List.append_assoc,List.cons_append,List.nil_append,List.append_nil]) hrw hrl.symm hrt
 have C14:St E0 w X w2 Y14 []:=hSx14;refine zc C14 (zDw _ _ C14.lt _ _ _ ls hL14) ?_;rintro v15 w15 C15 y15 P15 rfl;refine zz 4 ?_;refine zr' (v:= .slice ad8 (qI ls) Q8) ?_;exact⟨C15.upd,_,rfl,_,_,_,rfl,_,((hL14.sub (zFw _ hL14.hlen)).mono (Le.trans y15 C15.le)),qM _,by rw[show List.take (qI ls) ls=Go.Gv.trimmed ls from rfl,qY];exact hend⟩
theorem zOl(w:World)(X:Hid)(hX:∀k o,X k o→k<w.heap.size)(ad:Option Addr)(len cap:Nat)(l:List Nat)(h:zL (rd w X) ad len cap l)(ad2:Option Addr)(len2 Q2:Nat)(l2:List Nat)(h2:zL (rd w X) ad2 len2 Q2 l2)(hm:len≤1000000)(hm2:len2≤1000000):Calls Tryz.prog 219 #[.slice ad len cap,.slice ad2 len2 Q2] w (Ret E0 w fun _ v=>v= .int .i64 (qC (val l) (val l2))):=by
 obtain rfl:=h.hlen;obtain rfl:=h2.hlen;have hcap:=h.hcap;have hbig:=h.hbig;have hcap2:=h2.hcap;have hbig2:=h2.hbig;refine zen Tryz.func219 ?_;have C0:St E0 w X w X []:=St.start hX;refine zz 13 ?_;refine zs 10 (v:= .int .i64 (if(l2.length:Int)>(l.length:Int)then(l2.length:Int)else(l.length:Int))) (v':= .int .i64 ((max l.length l2.length:Nat):Int)) (zO (by split<;>omega)) ?_
 refine zz 1 ?_;refine zw 11 (x:=((max l.length l2.length:Nat):Int)-1) ?_;refine zz 4 ?_;refine zlp Tryz.f219 [] [1,0,1,0] (fun(k:Nat)=>[(0,.slice ad l.length cap),(1,.slice ad2 l2.length Q2),(5,.int .i64 ((k:Int)-1))]) (fun k w1=>∃(Y1:Hid),St E0 w X w1 Y1 []∧Le (rd w X) (rd w1 Y1)∧(k≤max l.length l2.length)∧(∀j,k≤j→l.getD j 0=l2.getD j 0)) (fun k=>k) (max l.length l2.length) ?_ ?_;refine⟨_,C0,Le.refl _,Nat.le_refl _,fun j hj=>(bV (by omega)).trans (bV (by omega)).symm⟩
 rintro k w2 K2 Z2 ⟨Y2,C2,y2,hp2_0,hp2_1⟩;have hk:=hp2_0;have he:=hp2_1;have hlt1:=h.getD_lt (k-1);have hlt2:=h2.getD_lt (k-1);refine zz 7 ?_;refine zt 13 (p:=((k:Int)-1)≥0) (fun F3=>?_) (fun F3=>?_);refine zz 10 ?_;refine zs 17 (v:= .int .i64 ((k:Int)-1)) (v':= .int .i64 ((k-1:Nat):Int)) (zO (by omega)) ?_
 refine zc C2 (sF _ X0 (zT _) _ _ _ l ((h.mono y2).mono Le.x0) (k-1)) ?_;rintro v5 w5 C5 y5 P5 rfl;refine zz 2 ?_;refine zs 20 (v:= .int .i64 ((k:Int)-1)) (v':= .int .i64 ((k-1:Nat):Int)) (zO (by omega)) ?_
 refine zc C5 (sF _ X0 (zT _) _ _ _ l2 ((h2.mono (Le2 y2 y5)).mono Le.x0) (k-1)) ?_;rintro v7 w7 C7 y7 P7 rfl;refine zz 3 ?_;refine zt 22 (p:=((l.getD (k-1) 0:Nat):Int)<((l2.getD (k-1) 0:Nat):Int)) (fun F8=>?_) (fun F8=>?_);refine zz 13 ?_;refine zr' (v:= .int .i64 (-1)) ?_;exact⟨C7.upd,_,rfl,zO (Eq.symm (by have h9:=qCt h.hlt (k:=k-1) (fun j hj=>he j (by omega)) (by omega);unfold qC;rw[if_pos (by omega)]))⟩
 refine zz 7 ?_;refine zs 24 (v:= .int .i64 ((k:Int)-1)) (v':= .int .i64 ((k-1:Nat):Int)) (zO (by omega)) ?_
 refine zc C7 (sF _ X0 (zT _) _ _ _ l ((h.mono (Le3 y2 y5 y7)).mono Le.x0) (k-1)) ?_;rintro v10 w10 C10 y10 P10 rfl;refine zz 2 ?_;refine zs 27 (v:= .int .i64 ((k:Int)-1)) (v':= .int .i64 ((k-1:Nat):Int)) (zO (by omega)) ?_
 have J1_:=(Le3 y2 y5 y7).trans y10;refine zc C10 (sF _ X0 (zT _) _ _ _ l2 ((h2.mono J1_).mono Le.x0) (k-1)) ?_;rintro v12 w12 C12 y12 P12 rfl;refine zz 3 ?_;refine zt 29 (p:=((l.getD (k-1) 0:Nat):Int)>((l2.getD (k-1) 0:Nat):Int)) (fun F13=>?_) (fun F13=>?_);refine zz 12 ?_;refine zr' (v:= .int .i64 1) ?_;exact⟨C12.upd,_,rfl,zO (Eq.symm (by have h9:=qCt h2.hlt (k:=k-1) (fun j hj=>(he j (by omega)).symm) (by omega);unfold qC;rw[if_neg (by omega),if_pos (by omega)]))⟩
 refine zz 7 ?_;refine zs 15 (v:= .int .i64 (i64.wrap (((k:Int)-1)-1))) (v':= .int .i64 (((k-1:Nat):Int)-1)) (zO ((bA (by omega) (by omega)).trans (by omega))) ?_
 refine zz 2 ?_;have J2_:=J1_.trans y12;refine yL (fun a h=>Z2 (k-1) _ a h ⟨_,C12,J2_,by omega,fun j hj=>by rcases Nat.lt_or_ge j k with h9 | h9;obtain rfl:j=k-1:=(by omega);omega;exact he j h9⟩ ?_)
 first | omega | (simp<;>omega)
 have hend:=zAb l l2 (fun j=>he j (by omega))
 refine zz 12 ?_;refine zr' (v:= .int .i64 0) ?_;exact⟨C2.upd,_,rfl,zO (Eq.symm (by unfold qC;rw[hend,if_neg (Int.lt_irrefl _),if_neg (Int.lt_irrefl _)]))⟩
set_option maxHeartbeats 1000000
theorem zTc(w:World)(X:Hid)(hX:∀k o,X k o→k<w.heap.size)(x:Nat)(hx:x<18446744073709551616):Calls Tryz.prog 176 #[.int .u64 (x:Int)] w (Ret E0 w fun w' v=>mD X w' v x):=by
 refine zen Tryz.func176 ?_;have C0:St E0 w X w X []:=St.start hX;refine zz 9 ?_;refine zs 4 (v:= .int .u64 (Int.tmod ((x:Int)) (4294967296))) (v':= .int .u64 ((x % 4294967296:Nat):Int)) (zO (by rfl)) ?_
 refine zz 1 ?_;refine zs 5 (v:= .int .u32 (IntKind.u32.wrap (((x % 4294967296:Nat):Int)))) (v':= .int .u32 ((x % 4294967296:Nat):Int)) (zO (qEt (by omega) (by omega))) ?_
 refine zz 2 ?_;refine zs 7 (v:= .int .u64 (IntKind.u64.wrap (Int.tdiv ((x:Int)) (4294967296)))) (v':= .int .u64 ((x / 4294967296:Nat):Int)) (zO (zLr _ (by omega))) ?_
 refine zz 1 ?_;refine zs 8 (v:= .int .u32 (IntKind.u32.wrap (((x / 4294967296:Nat):Int)))) (v':= .int .u32 ((x / 4294967296:Nat):Int)) (zO (qEt (by omega) (by omega))) ?_
 refine zn (fun b=> .slice (some ⟨b,0,none⟩) 2 2) (.cells #[.int .u32 ((x % 4294967296:Nat):Int),.int .u32 ((x / 4294967296:Nat):Int)] 214 (0,0)) C0 fun b3 w3 Y3 C3 y3 P3=>?_;have D5:zS 2 2 #[.int .u32 ((x % 4294967296:Nat):Int),.int .u32 ((x / 4294967296:Nat):Int)] [x % 4294967296,x / 4294967296]:=zS.of [x % 4294967296,x / 4294967296] (by intro y hy;simp at hy;omega) (by simp[maxLen]) (by simp[U32]) (by simp)
 refine zc C3 (zDw _ X0 (zT _) _ _ _ ([x % 4294967296,x / 4294967296]) (zS.limbs (Y:=X0) D5 (C3.get 0 rfl) (fun _ h=>h.elim))) ?_ (vs:=#[.slice (some ⟨b3,0,none⟩) 2 2]);rintro v6 w6 C6 y6 P6 rfl;refine zz 4 ?_;refine zr' (v:= .slice (some ⟨b3,0,none⟩) (qI ([x % 4294967296,x / 4294967296])) 2) ?_;exact⟨C6.upd,_,rfl,_,_,_,rfl,_,zS.limbs (D5.trimmed) (C6.get 0 rfl) (fun o h9=>Nat.not_lt.2 (C6.own_ge 0 rfl) (hX _ _ h9)),qM _,by rw[qY];simp only[val];omega⟩
set_option maxHeartbeats 1000000
theorem qFx(w:World)(X:Hid)(hX:∀k o,X k o→k<w.heap.size)(ad:Option Addr)(len cap:Nat)(l:List Nat)(h:zL (rd w X) ad len cap l)(ad2:Option Addr)(len2 Q2:Nat)(l2:List Nat)(h2:zL (rd w X) ad2 len2 Q2 l2)(hm:len≤100000)(hm2:len2≤100000)(J1:zQ l)(J2:zQ l2)(hd:0<val l2)(hlo:l.length<l2.length):Calls Tryz.prog 175 #[.slice ad len cap,.slice ad2 len2 Q2] w (Ret E0 w fun w' v=>∃u u2,v= .tuple #[u,u2]∧mD X w' u (val l / val l2)∧mD X w' u2 (val l % val l2)):=by
 obtain rfl:=h.hlen;obtain rfl:=h2.hlen;have hcap:=h.hcap;have hbig:=h.hbig;have hcap2:=h2.hcap;have hbig2:=h2.hbig;have hlo2:=qRy h.hlt J2 hlo;refine zen Tryz.func175 ?_;have C0:St E0 w X w X []:=St.start hX;refine zz 13 ?_;refine zw 14 (x:=(l.length:Int)-(l2.length:Int)) ?_;refine zz 1 ?_;refine zs 15 (v:= .int .i64 (i64.wrap (((l.length:Int)-(l2.length:Int))+1))) (v':= .int .i64 ((l.length:Int)-(l2.length:Int)+1)) (zO (bA (by omega) (by omega))) ?_
 refine zz 10 ?_;refine zt 17 (p:=((l.length:Int)-(l2.length:Int)+1)≤0) (fun F2=>?_) (fun F2=>?_);refine zz 4 ?_;refine zop (at1 [] Tryz.f175 [1,1,0,1,0,0]) 1 (fun a3 _ G3 hz3=>zKl (e:=214) (i0:=Tryz.t214) G3 C0 h (by first | omega | (simp;omega)) ?_)
 intro ad4 Q4 w4 C4 y4 hL4 a5 G5;refine hz3 G5 ?_;refine zz 6 ?_;refine zr' (v:= .tuple #[.slice none 0 0,.slice ad4 l.length Q4]) ?_;exact⟨C4.upd,_,rfl,_,_,rfl,⟨_,_,_,rfl,[],zL.nil none (by omega),.inl rfl,(Nat.div_eq_of_lt hlo2).symm⟩,⟨_,_,_,rfl,l,(hL4).mono C4.le,J1,(Nat.mod_eq_of_lt hlo2).symm⟩⟩
 omega
theorem qFw(w:World)(X:Hid)(hX:∀k o,X k o→k<w.heap.size)(ad:Option Addr)(len cap:Nat)(l:List Nat)(h:zL (rd w X) ad len cap l)(ad2:Option Addr)(len2 Q2:Nat)(l2:List Nat)(h2:zL (rd w X) ad2 len2 Q2 l2)(hm:len≤100000)(hm2:len2≤100000)(J1:zQ l)(J2:zQ l2)(hd:0<val l2)(N:Nat)(hN:l.length+1=N+l2.length)(h0:0<N):Calls Tryz.prog 175 #[.slice ad len cap,.slice ad2 len2 Q2] w (Ret E0 w fun w' v=>∃u u2,v= .tuple #[u,u2]∧mD X w' u (val l / val l2)∧mD X w' u2 (val l % val l2)):=by
 obtain rfl:=h.hlen;obtain rfl:=h2.hlen;have hcap:=h.hcap;have hbig:=h.hbig;have hcap2:=h2.hcap;have hbig2:=h2.hbig;have hl2:=qIs hd;refine zen Tryz.func175 ?_;have C0:St E0 w X w X []:=St.start hX;refine zz 13 ?_;refine zw 14 (x:=(l.length:Int)-(l2.length:Int)) ?_;refine zz 1 ?_;refine zs 15 (v:= .int .i64 (i64.wrap (((l.length:Int)-(l2.length:Int))+1))) (v':= .int .i64 (N:Int)) (zO ((bA (by omega) (by omega)).trans (by omega))) ?_
 refine zz 10 ?_;refine zt 17 (p:=(N:Int)≤0) (fun F2=>?_) (fun F2=>?_);omega;refine zz 6 ?_;refine zop (at1 [] Tryz.f175 [1,1,1,0]) 1 (fun a3 _ G3 hz3=>aJ (l:=(N:Int)) (e:=214) (z:= .int .u32 0) (i0:=Tryz.t214) N 4 G3 C0 ?_);intro b4 w4 Y4 C4 y4 P4 a5 G5;have D4:=zS.zeros N (by simp only[maxLen];omega)
 refine hz3 G5 ?_;refine zz 7 ?_;refine zop (at1 [] Tryz.f175 [1,1,1,1,0]) 2 (fun a6 _ G6 hz6=>zE (d:=24) (v:= .slice (adF ad cap N) (l.length-N) (cap-N)) G6 kr (zGt (t:=26) (e:=214) (ad:=ad) (len:=l.length) (cap:=cap) (k:=N) (kd:= .i64) (g:=false) rfl kr kr kr kr (by omega) _) ?_)
 intro a7 G7;refine hz6 G7 ?_;refine zop (at1 [] Tryz.f175 [1,1,1,1,0]) 3 (fun a8 _ G8 hz8=>zKl (e:=214) (i0:=Tryz.t214) G8 C4 ((h.drop (k:=N) (by omega)).mono y4) (by first | omega | (simp;omega)) ?_)
 intro ad9 Q9 w9 C9 y9 hL9 a10 G10;refine hz8 G10 ?_;refine zc C9 (zDw _ _ C9.lt _ _ _ (l.drop N) hL9) ?_;rintro v12 w12 C12 y12 P12 rfl;have hT13:=((hL9.mono y12)).sub (zFw _ ((hL9.mono y12)).hlen);refine zz 8 ?_;refine zw 28 (x:=(32:Int)*(N:Int)) ?_;refine zz 1 ?_;refine zs 29 (v:= .int .i64 (i64.wrap (((32:Int)*(N:Int))-1))) (v':= .int .i64 (((32*N:Nat):Int)-1)) (zO ((bA (by omega) (by omega)).trans (by omega))) ?_
 refine zz 4 ?_;refine zlp Tryz.f175 [] [1,1,1,1,1,0,1,0] (fun((k,adr,lenr,capr):Nat×(Option Addr)×Nat×Nat)=>[(0,.slice ad l.length cap),(1,.slice ad2 l2.length Q2),(7,.slice (some ⟨b4,0,none⟩) N N),(8,.slice adr lenr capr),(9,.int .i64 ((k:Int)-1))]) (fun(k,adr,lenr,capr)w1=>∃(Y1:Hid)(curq:Array Value)(lq:List Nat)(lr:List Nat)(q:Nat),St E0 w X w1 Y1 [(b4,.cells curq 214 (0,0))]∧Le (rd w12 Y4) (rd w1 Y1)∧(zS N N curq lq)∧(zL (rd w1 Y1) adr lenr capr lr)∧(zQ lr)∧(val lq=2^k*q)∧(val l / 2^k=q*val l2+val lr)∧(val lr<val l2)∧(k≤32*N)) (fun(k,adr,lenr,capr)=>k) ((32*N),ad9,qI (l.drop N),Q9) ?_ ?_;refine⟨_,(List.replicate N (Value.int .u32 0)).toArray,(List.replicate N 0),(Go.Gv.trimmed (l.drop N)),0,C12,Le.refl _,D4,hT13,qM _,by rw[kT];simp,by rw[Nat.zero_mul,Nat.zero_add,qY];exact qEm l h.hlt N (by omega),by rw[qY];exact qGa h.hlt J2 hd hN,Nat.le_refl _⟩
 rintro⟨k,adr,lenr,capr⟩ w14 K14 Z14 ⟨Y14,curq,lq,lr,q,C14,y14,hp14_0,hp14_1,hp14_2,hp14_3,hp14_4,hp14_5,hp14_6⟩;have hrowq:=hp14_0;have hr:=hp14_1;have hcanr:=hp14_2;have hvq:=hp14_3;have hdiv:=hp14_4;have hlt:=hp14_5;have hkN:=hp14_6;have hrlen:=hr.hlen;have hrl:=zV h2.hlt hcanr (Nat.le_of_lt hlt);obtain rfl:=hrlen;refine zz 7 ?_;refine zt 31 (p:=((k:Int)-1)≥0) (fun F15=>?_) (fun F15=>?_);obtain⟨i,rfl⟩:∃i,k=i+1:=⟨k-1,by omega⟩
 obtain⟨b1,off1,rfl,_⟩:=h.addr (by omega)
 refine zz 9 ?_;refine zc C14 (qEc _ _ C14.lt _ _ _ lr hr _ _ _ lr hr (by first | omega | (simp;done) | (simp;omega)) (by first | omega | (simp;done) | (simp;omega))) ?_
 rintro v17 w17 C17 y17 P17 ⟨ad17,len17,Q17,rfl,ls17,hL17,hcan17,hval17⟩;have hlen17:=hL17.hlen;have hdl17:=zHe hcan17 h2.hlt hlt (by omega)
 refine zz 8 ?_;refine zs 38 (v:= .int .i64 (((i+1:Nat):Int)-1)) (v':= .int .i64 (i:Int)) (zO (by omega)) ?_
 refine zz 1 ?_;refine zs 39 (v:= .int .i64 (i64.wrap (Int.tdiv ((i:Int)) (32)))) (v':= .int .i64 ((i / 32:Nat):Int)) (zO (lV _ (by omega))) ?_
 refine zi (b:=b1) (off:=off1) (len:=l.length) (cap:=cap) (kd:= .i64) (i:=((i / 32:Nat):Int)) 1 (off1+i / 32) ?_;have J1_:=(Le4 y4 y9 y12 y14).trans y17;refine zl ((h.cell (i:=i / 32) (by omega)).mono J1_).cells ?_
 refine zz 1 ?_;refine zs 42 (v:= .int .i64 (((i+1:Nat):Int)-1)) (v':= .int .i64 (i:Int)) (zO (by omega)) ?_
 refine zz 1 ?_;refine zs 43 (v:= .int .i64 (Int.tmod ((i:Int)) (32))) (v':= .int .i64 ((i % 32:Nat):Int)) (zO (zBo _)) ?_;refine zz 1 ?_;refine zs 44 (v:= .int .u64 (IntKind.u64.wrap (((i % 32:Nat):Int)))) (v':= .int .u64 ((i % 32:Nat):Int)) (zO (sZ (by omega) (by omega))) ?_
 refine zop (at1 [K14] Tryz.f175 [1,1,1,1,1,0,1,0,0,1,0,0,1,0,0]) 8 (fun a18 _ G18 hz18=>zE (d:=45) (v:= .int .u32 ((l.getD (i / 32) 0 / 2^(i % 32):Nat):Int)) G18 kr (qDu rfl rfl rfl (by omega)) ?_)
 intro a19 G19;refine hz18 G19 ?_;refine zz 1 ?_;refine zs 46 (v:= .int .u32 (Int.tmod (((l.getD (i / 32) 0 / 2^(i % 32):Nat):Int)) (2))) (v':= .int .u32 (((val l / 2^i % 2):Nat):Int)) (zO (by rw[←zDx l h.hlt i (by omega)];rfl)) ?_
 refine zz 3 ?_;refine zb 47 (b:=((((val l / 2^i % 2):Nat):Int)==1)) (fun J20=>?_) (fun J20=>?_);have F21:(((val l / 2^i % 2):Nat):Int)=1:=by simpa using J20
 have hbit:val l / 2^i % 2=1:=Int.ofNat_inj.1 F21;refine zz 3 ?_;refine zn (fun b=> .slice (some ⟨b,0,none⟩) 1 1) (.cells #[.int .u32 1] 214 (0,0)) C17 fun b23 w23 Y23 C23 y23 P23=>?_;obtain⟨hSx25,y25,hat25⟩:=St.publish C23 (C23.own_ge 0 rfl);have C25:St E0 w X w23 (zUo b23 Y23) [(b4,.cells curq 214 (0,0))]:=hSx25;have hL25:=qOt (x:=1) hat25 (by omega)
 refine zc C25 (qEc _ _ C25.lt _ _ _ ls17 (hL17.mono (Le2 y23 y25)) _ _ _ ([1]) hL25 (by first | omega | (simp;done) | (simp;omega)) (by first | omega | (simp;done) | (simp;omega))) ?_
 rintro v26 w26 C26 y26 P26 ⟨ad26,len26,Q26,rfl,ls26,hL26,hcan26,hval26⟩;have hlen26:=hL26.hlen;have hv126:val [1]=1:=rfl;have hdl26:=zHe hcan26 h2.hlt hlt (by omega)
 refine zz 7 ?_;have J2_:=((J1_.trans y23).trans y25).trans y26;refine zc C26 (zOl _ _ C26.lt _ _ _ ls26 hL26 _ _ _ l2 (h2.mono J2_) (by first | omega | (simp;done) | (simp;omega)) (by first | omega | (simp;done) | (simp;omega))) ?_
 rintro v28 w28 C28 y28 P28 rfl;refine zz 3 ?_;refine zt 54 (p:=(qC (val ls26) (val l2))≥0) (fun F29=>?_) (fun F29=>?_);have hcmp:=bR F29;obtain⟨hset1,hset2,hset3⟩:=zLi lq hrowq.lt i q (by rw[hrowq.len];omega) hvq
 refine zz 5 ?_;have J3_:=J2_.trans y28;refine zc C28 (zSt _ _ C28.lt _ _ _ ls26 (hL26.mono y28) _ _ _ l2 (h2.mono J3_) (by first | omega | (simp;done) | (simp;omega)) (zV ((hL26.mono y28)).hlt J2 hcmp) (by omega)) ?_
 rintro v31 w31 C31 y31 P31 ⟨ad31,len31,Q31,rfl,ls31,hL31,hcan31,hval31⟩;have hlen31:=hL31.hlen;refine zz 6 ?_;refine zs 59 (v:= .int .i64 (((i+1:Nat):Int)-1)) (v':= .int .i64 (i:Int)) (zO (by omega)) ?_
 refine zz 1 ?_;refine zs 60 (v:= .int .i64 (i64.wrap (Int.tdiv ((i:Int)) (32)))) (v':= .int .i64 ((i / 32:Nat):Int)) (zO (lV _ (by omega))) ?_
 refine zz 2 ?_;refine zs 62 (v:= .int .i64 (((i+1:Nat):Int)-1)) (v':= .int .i64 (i:Int)) (zO (by omega)) ?_
 refine zz 1 ?_;refine zs 63 (v:= .int .i64 (i64.wrap (Int.tdiv ((i:Int)) (32)))) (v':= .int .i64 ((i / 32:Nat):Int)) (zO (lV _ (by omega))) ?_
 refine zi (b:=b4) (off:=0) (len:=N) (cap:=N) (kd:= .i64) (i:=((i / 32:Nat):Int)) 1 (i / 32) ?_;refine zl (ad:=⟨b4,i / 32,none⟩) (C31.rowCells 0 rfl hrowq (by have:=hrowq.len;(try simp only[List.length_set]at *);omega)) ?_
 refine zz 1 ?_;refine zs 66 (v:= .int .i64 (((i+1:Nat):Int)-1)) (v':= .int .i64 (i:Int)) (zO (by omega)) ?_
 refine zz 1 ?_;refine zs 67 (v:= .int .i64 (Int.tmod ((i:Int)) (32))) (v':= .int .i64 ((i % 32:Nat):Int)) (zO (zBo _)) ?_;refine zz 1 ?_;refine zs 68 (v:= .int .u64 (IntKind.u64.wrap (((i % 32:Nat):Int)))) (v':= .int .u64 ((i % 32:Nat):Int)) (zO (sZ (by omega) (by omega))) ?_
 refine zop (at1 [K14] Tryz.f175 [1,1,1,1,1,0,1,0,0,1,0,0,1,1,1,0,1]) 11 (fun a32 _ G32 hz32=>zE (d:=69) (v:= .int .u32 ((2^(i % 32):Nat):Int)) G32 kr (zIt rfl rfl rfl (by omega)) ?_)
 intro a33 G33;refine hz32 G33 ?_;refine zz 1 ?_;refine zs 70 (v:= .int .u32 (wQ ((lq.getD (i / 32) 0:Nat):Int) ((2^(i % 32):Nat):Int))) (v':= .int .u32 ((lq.getD (i / 32) 0+2^(i % 32):Nat):Int)) (zO hset1) ?_;refine zi (b:=b4) (off:=0) (len:=N) (cap:=N) (kd:= .i64) (i:=((i / 32:Nat):Int)) 1 (i / 32) ?_;refine zop (at1 [K14] Tryz.f175 [1,1,1,1,1,0,1,0,0,1,0,0,1,1,1,0,1]) 14 (fun a34 _ G34 hz34=>kZ (y:=(lq.getD (i / 32) 0+2^(i % 32))) (k:=i / 32) (e:=((lq.getD (i / 32) 0+2^(i % 32):Nat):Int)) 0 G34 C31 (rfl) rfl hrowq (by have:=hrowq.len;(try simp only[List.length_set]at *);omega) (hset2) ?_)
 intro T35 w35 D35 C35 y35;refine hz34 G34 ?_;refine zz 6 ?_;refine zs 33 (v:= .int .i64 (i64.wrap ((((i+1:Nat):Int)-1)-1))) (v':= .int .i64 ((i:Int)-1)) (zO ((bA (by omega) (by omega)).trans (by omega))) ?_
 refine zz 2 ?_;have J4_:=(Le7 y14 y17 y23 y25 y26 y28 y31).trans y35;refine yL (fun a h=>Z14 ((i,ad31,len31,Q31)) _ a h ⟨_,T35,(lq.set (i / 32) (lq.getD (i / 32) 0+2^(i % 32))),ls31,(2*q+1),C35,J4_,D35,(hL31.mono y35),hcan31,by rw[hset3,hvq,Nat.pow_succ,Nat.mul_add,Nat.mul_one];congr 1;ac_rfl,qFy hdiv (by rw[hbit];omega) (by rw[hbit];omega),by omega,by omega⟩ ?_)
 first | omega | (simp<;>omega)
 have hcmp:=mO F29;refine zz 7 ?_;refine zs 33 (v:= .int .i64 (i64.wrap ((((i+1:Nat):Int)-1)-1))) (v':= .int .i64 ((i:Int)-1)) (zO ((bA (by omega) (by omega)).trans (by omega))) ?_
 refine zz 2 ?_;have J5_:=(Le5 y14 y17 y23 y25 y26).trans y28;refine yL (fun a h=>Z14 ((i,ad26,len26,Q26)) _ a h ⟨_,curq,lq,ls26,(2*q),C28,J5_,hrowq,(hL26.mono y28),hcan26,by rw[hvq,Nat.pow_succ];ac_rfl,zZk hdiv (by rw[hbit];omega),by omega,by omega⟩ ?_)
 first | omega | (simp<;>omega)
 have F36:(((val l / 2^i % 2):Nat):Int)≠1:=by simpa using J20
 have hbit:val l / 2^i % 2=0:=(Nat.mod_two_eq_zero_or_one _).resolve_right (fun e=>F36 (congrArg (fun x:Nat=>(x:Int)) e));refine zz 7 ?_;refine zc C17 (zOl _ _ C17.lt _ _ _ ls17 hL17 _ _ _ l2 (h2.mono J1_) (by first | omega | (simp;done) | (simp;omega)) (by first | omega | (simp;done) | (simp;omega))) ?_
 rintro v38 w38 C38 y38 P38 rfl;refine zz 3 ?_;refine zt 54 (p:=(qC (val ls17) (val l2))≥0) (fun F39=>?_) (fun F39=>?_);have hcmp:=bR F39;obtain⟨hset1,hset2,hset3⟩:=zLi lq hrowq.lt i q (by rw[hrowq.len];omega) hvq
 refine zz 5 ?_;have J6_:=J1_.trans y38;refine zc C38 (zSt _ _ C38.lt _ _ _ ls17 (hL17.mono y38) _ _ _ l2 (h2.mono J6_) (by first | omega | (simp;done) | (simp;omega)) (zV ((hL17.mono y38)).hlt J2 hcmp) (by omega)) ?_
 rintro v41 w41 C41 y41 P41 ⟨ad41,len41,Q41,rfl,ls41,hL41,hcan41,hval41⟩;have hlen41:=hL41.hlen;refine zz 6 ?_;refine zs 59 (v:= .int .i64 (((i+1:Nat):Int)-1)) (v':= .int .i64 (i:Int)) (zO (by omega)) ?_
 refine zz 1 ?_;refine zs 60 (v:= .int .i64 (i64.wrap (Int.tdiv ((i:Int)) (32)))) (v':= .int .i64 ((i / 32:Nat):Int)) (zO (lV _ (by omega))) ?_
 refine zz 2 ?_;refine zs 62 (v:= .int .i64 (((i+1:Nat):Int)-1)) (v':= .int .i64 (i:Int)) (zO (by omega)) ?_
 refine zz 1 ?_;refine zs 63 (v:= .int .i64 (i64.wrap (Int.tdiv ((i:Int)) (32)))) (v':= .int .i64 ((i / 32:Nat):Int)) (zO (lV _ (by omega))) ?_
 refine zi (b:=b4) (off:=0) (len:=N) (cap:=N) (kd:= .i64) (i:=((i / 32:Nat):Int)) 1 (i / 32) ?_;refine zl (ad:=⟨b4,i / 32,none⟩) (C41.rowCells 0 rfl hrowq (by have:=hrowq.len;(try simp only[List.length_set]at *);omega)) ?_
 refine zz 1 ?_;refine zs 66 (v:= .int .i64 (((i+1:Nat):Int)-1)) (v':= .int .i64 (i:Int)) (zO (by omega)) ?_
 refine zz 1 ?_;refine zs 67 (v:= .int .i64 (Int.tmod ((i:Int)) (32))) (v':= .int .i64 ((i % 32:Nat):Int)) (zO (zBo _)) ?_;refine zz 1 ?_;refine zs 68 (v:= .int .u64 (IntKind.u64.wrap (((i % 32:Nat):Int)))) (v':= .int .u64 ((i % 32:Nat):Int)) (zO (sZ (by omega) (by omega))) ?_
 refine zop (at1 [K14] Tryz.f175 [1,1,1,1,1,0,1,0,0,1,0,0,1,1,1,0,1]) 11 (fun a42 _ G42 hz42=>zE (d:=69) (v:= .int .u32 ((2^(i % 32):Nat):Int)) G42 kr (zIt rfl rfl rfl (by omega)) ?_)
 intro a43 G43;refine hz42 G43 ?_;refine zz 1 ?_;refine zs 70 (v:= .int .u32 (wQ ((lq.getD (i / 32) 0:Nat):Int) ((2^(i % 32):Nat):Int))) (v':= .int .u32 ((lq.getD (i / 32) 0+2^(i % 32):Nat):Int)) (zO hset1) ?_;refine zi (b:=b4) (off:=0) (len:=N) (cap:=N) (kd:= .i64) (i:=((i / 32:Nat):Int)) 1 (i / 32) ?_;refine zop (at1 [K14] Tryz.f175 [1,1,1,1,1,0,1,0,0,1,0,0,1,1,1,0,1]) 14 (fun a44 _ G44 hz44=>kZ (y:=(lq.getD (i / 32) 0+2^(i % 32))) (k:=i / 32) (e:=((lq.getD (i / 32) 0+2^(i % 32):Nat):Int)) 0 G44 C41 (rfl) rfl hrowq (by have:=hrowq.len;(try simp only[List.length_set]at *);omega) (hset2) ?_)
 intro T45 w45 D45 C45 y45;refine hz44 G44 ?_;refine zz 6 ?_;refine zs 33 (v:= .int .i64 (i64.wrap ((((i+1:Nat):Int)-1)-1))) (v':= .int .i64 ((i:Int)-1)) (zO ((bA (by omega) (by omega)).trans (by omega))) ?_
 refine zz 2 ?_;have J7_:=(Le4 y14 y17 y38 y41).trans y45;refine yL (fun a h=>Z14 ((i,ad41,len41,Q41)) _ a h ⟨_,T45,(lq.set (i / 32) (lq.getD (i / 32) 0+2^(i % 32))),ls41,(2*q+1),C45,J7_,D45,(hL41.mono y45),hcan41,by rw[hset3,hvq,Nat.pow_succ,Nat.mul_add,Nat.mul_one];congr 1;ac_rfl,qFy hdiv (by rw[hbit];omega) (by rw[hbit];omega),by omega,by omega⟩ ?_)
 first | omega | (simp<;>omega)
 have hcmp:=mO F39;refine zz 7 ?_;refine zs 33 (v:= .int .i64 (i64.wrap ((((i+1:Nat):Int)-1)-1))) (v':= .int .i64 ((i:Int)-1)) (zO ((bA (by omega) (by omega)).trans (by omega))) ?_
 refine zz 2 ?_;refine yL (fun a h=>Z14 ((i,ad17,len17,Q17)) _ a h ⟨_,curq,lq,ls17,(2*q),C38,(Le3 y14 y17 y38),hrowq,(hL17.mono y38),hcan17,by rw[hvq,Nat.pow_succ];ac_rfl,zZk hdiv (by rw[hbit];omega),by omega,by omega⟩ ?_)
 first | omega | (simp<;>omega)
 obtain rfl:k=0:=by omega
 obtain⟨he1,he2⟩:=zQi hdiv hlt hvq;refine zz 9 ?_;refine zc C14 (zDw _ X0 (zT _) _ _ _ lq (zS.limbs (Y:=X0) hrowq (C14.get 0 rfl) (fun _ h=>h.elim))) ?_ (vs:=#[.slice (some ⟨b4,0,none⟩) N N]);rintro v47 w47 C47 y47 P47 rfl;refine zz 6 ?_;refine zr' (v:= .tuple #[.slice (some ⟨b4,0,none⟩) (qI lq) N,.slice adr lr.length capr]) ?_;exact⟨C47.upd,_,rfl,_,_,rfl,⟨_,_,_,rfl,_,zS.limbs (hrowq.trimmed) (C47.get 0 rfl) (fun o h9=>Nat.not_lt.2 (C47.own_ge 0 rfl) (hX _ _ h9)),qM _,by rw[qY];exact he1⟩,⟨_,_,_,rfl,lr,((hr.mono y47)).mono C47.le,hcanr,he2⟩⟩
set_option maxHeartbeats 1000000
theorem zQh(w:World)(X:Hid)(hX:∀k o,X k o→k<w.heap.size)(ad:Option Addr)(len cap:Nat)(l:List Nat)(h:zL (rd w X) ad len cap l)(ad2:Option Addr)(len2 Q2:Nat)(l2:List Nat)(h2:zL (rd w X) ad2 len2 Q2 l2)(hm:len≤100000)(hm2:len2≤100000)(J1:zQ l)(J2:zQ l2)(hd:0<val l2):Calls Tryz.prog 175 #[.slice ad len cap,.slice ad2 len2 Q2] w (Ret E0 w fun w' v=>∃u u2,v= .tuple #[u,u2]∧mD X w' u (val l / val l2)∧mD X w' u2 (val l % val l2)):=by
 rcases Nat.lt_or_ge l.length l2.length with h9 | h9
 ·exact qFx w X hX ad len cap l h ad2 len2 Q2 l2 h2 hm hm2 J1 J2 hd h9
 ·exact qFw w X hX ad len cap l h ad2 len2 Q2 l2 h2 hm hm2 J1 J2 hd (l.length+1-l2.length) (by omega) (by omega)
theorem zVn{x lr l2:List Nat}(hc:zQ lr)(h2:∀y∈l2,y<4294967296)(h0:0<val l2)(h:val lr=val x % val l2):lr.length≤l2.length:=zV h2 hc (by rw[h];exact Nat.le_of_lt (Nat.mod_lt _ h0))
theorem wK{l:List Nat}(hc:zQ l)(h:0<l.length):0<val l:=by
 have:=yZ hc;omega
theorem zQq(w:World)(X:Hid)(hX:∀k o,X k o→k<w.heap.size)(ad:Option Addr)(len cap:Nat)(l:List Nat)(h:zL (rd w X) ad len cap l)(ad2:Option Addr)(len2 Q2:Nat)(l2:List Nat)(h2:zL (rd w X) ad2 len2 Q2 l2)(hm:len≤100000)(hm2:len2≤100000)(J1:zQ l)(J2:zQ l2):Calls Tryz.prog 150 #[.slice ad len cap,.slice ad2 len2 Q2] w (Ret E0 w fun w' v=>mD X w' v (Nat.gcd (val l) (val l2))):=by
 obtain rfl:=h.hlen;obtain rfl:=h2.hlen;have hcap:=h.hcap;have hbig:=h.hbig;have hcap2:=h2.hcap;have hbig2:=h2.hbig;refine zen Tryz.func150 ?_;have C0:St E0 w X w X []:=St.start hX;refine zz 7 ?_;refine zlp Tryz.f150 [] [1,0,0] (fun((lb,ad8,la,Q8,ad9,Q9):List Nat×(Option Addr)×(List Nat)×Nat×(Option Addr)×Nat)=>[(0,.slice ad8 la.length Q8),(1,.slice ad9 lb.length Q9)]) (fun(lb,ad8,la,Q8,ad9,Q9)w1=>∃(Y1:Hid),St E0 w X w1 Y1 []∧Le (rd w X) (rd w1 Y1)∧(zL (rd w1 Y1) ad8 la.length Q8 la)∧(zL (rd w1 Y1) ad9 lb.length Q9 lb)∧(zQ la)∧(zQ lb)∧(la.length≤100000)∧(lb.length≤100000)∧(Nat.gcd (val la) (val lb)=Nat.gcd (val l) (val l2))) (fun(lb,ad8,la,Q8,ad9,Q9)=>val lb) (l2,ad,l,cap,ad2,Q2) ?_ ?_;refine⟨_,C0,Le.refl _,h,h2,J1,J2,hm,hm2,rfl⟩;rintro⟨lb,ad8,la,Q8,ad9,Q9⟩ w2 K2 Z2 ⟨Y2,C2,y2,hp2_0,hp2_1,hp2_2,hp2_3,hp2_4,hp2_5,hp2_6⟩;have ha:=hp2_0;have hb:=hp2_1;have hca:=hp2_2;have hcb:=hp2_3;have hla:=hp2_4;have hlb:=hp2_5;have hg:=hp2_6;refine zz 8 ?_;refine zt 9 (p:=(lb.length:Int)>0) (fun F3=>?_) (fun F3=>?_);have hpos:=wK hcb (by omega)
 refine zz 8 ?_;refine zc C2 (zQh _ _ C2.lt _ _ _ la ha _ _ _ lb hb (by first | omega | (simp;done) | (simp;omega)) (by first | omega | (simp;done) | (simp;omega)) hca hcb hpos) ?_
 rintro v5 w5 C5 y5 P5 ⟨_,_,rfl,⟨ad5,len5,Q5,rfl,ls5,hL5,hcan5,hval5⟩,⟨ae5,le5,ce5,rfl,lr5,hM5,hcam5,hvam5⟩⟩;obtain rfl:=hL5.hlen;obtain rfl:=hM5.hlen;refine zz 14 ?_;have hmod:=zVn hcam5 hb.hlt hpos hvam5;have hml:=Nat.mod_lt (val la) hpos;refine yL (fun a h=>Z2 ((lr5,ad9,lb,Q9,ae5,ce5)) _ a h ⟨_,C5,(Le2 y2 y5),(hb.mono y5),hM5,hcb,hcam5,hlb,by omega,by rw[hvam5,←hg];exact(Nat.gcd_comm _ _).trans ((Nat.gcd_rec (val lb) (val la)).symm.trans (Nat.gcd_comm _ _))⟩ ?_)
 first | omega | (simp<;>omega)
 have hz:val lb=0:=by rw[List.eq_nil_of_length_eq_zero (l:=lb) (by omega)];rfl
 rw[hz,Nat.gcd_zero_right]at hg;refine zz 9 ?_;refine zop (at1 [K2] Tryz.f150 [1,1,0]) 1 (fun a6 _ G6 hz6=>zKl (e:=214) (i0:=Tryz.t214) G6 C2 ha (by first | omega | (simp;omega)) ?_)
 intro ad7 Q7 w7 C7 y7 hL7 a8 G8;refine hz6 G8 ?_;refine zz 4 ?_;refine zr' (v:= .slice ad7 la.length Q7) ?_;exact⟨C7.upd,_,rfl,_,_,_,rfl,_,(hL7).mono C7.le,hca,hg⟩
set_option maxHeartbeats 1000000
theorem zBh(w:World)(X:Hid)(hX:∀k o,X k o→k<w.heap.size):Calls Tryz.prog 104 #[] w (Ret E0 w fun w' v=>∃ad cap,v= .slice ad 1 cap∧zL (rd w' X) ad 1 cap [1]):=by
 refine zen Tryz.func104 ?_;have C0:St E0 w X w X []:=St.start hX;refine zz 7 ?_;refine zn (fun b=> .slice (some ⟨b,0,none⟩) 1 1) (.cells #[.int .u32 1] 214 (0,0)) C0 fun b3 w3 Y3 C3 y3 P3=>?_;refine zz 4 ?_;refine zr' (v:= .slice (some ⟨b3,0,none⟩) 1 1) ?_;have D4:zS 1 1 #[.int .u32 1] [1]:=zS.of [1] (by simp) (by simp[maxLen]) (by simp[U32]) (by simp)
 exact⟨C3.upd,_,rfl,_,_,rfl,zS.limbs D4 (C3.get 0 rfl) (fun o h9=>Nat.not_lt.2 (C3.own_ge 0 rfl) (hX _ _ h9))⟩
theorem zHg:zQ [1]:= .inr (by decide)
set_option maxHeartbeats 1000000
theorem vD{l:List Nat}(hl:∀x∈l,x<4294967296)(hc:zQ l):l=[1]↔val l=1:=
 ⟨fun h=>by rw[h];rfl,fun h=>zHf hl (by intro x hx;simp at hx;omega) hc zHg (h.trans rfl)⟩
theorem qSd(w:World)(X:Hid)(hX:∀k o,X k o→k<w.heap.size)(ad:Option Addr)(len cap:Nat)(l:List Nat)(h:zL (rd w X) ad len cap l)(ad2:Option Addr)(len2 Q2:Nat)(l2:List Nat)(h2:zL (rd w X) ad2 len2 Q2 l2)(sg:Bool)(hm:len≤100000)(hm2:len2≤100000)(J1:zQ l)(J2:zQ l2)(hd:0<val l2):Calls Tryz.prog 102 #[.bool sg,.slice ad len cap,.slice ad2 len2 Q2] w (Ret E0 w fun w' v=>bD X w' v (mkRat (sgn sg (val l)) (val l2))):=by
 obtain rfl:=h.hlen;obtain rfl:=h2.hlen;have hcap:=h.hcap;have hbig:=h.hbig;have hcap2:=h2.hcap;have hbig2:=h2.hbig;refine zen Tryz.func102 ?_;have C0:St E0 w X w X []:=St.start hX;refine zz 2 ?_;refine zn pn (.cells #[.bool false,.slice none 0 0,.slice none 0 0] 28 (0,0)) C0 fun b3 w3 Y3 C3 y3 P3=>?_;refine zz 10 ?_;refine zb 10 (b:=((l.length:Int)==0)) (fun J4=>?_) (fun J4=>?_);have F5:(l.length:Int)=0:=by simpa using J4
 refine zz 4 ?_;refine zx 0 #[.bool false,.slice none 0 0,.slice none 0 0] C3 fun w6 C6 y6=>?_;refine zz 4 ?_;refine zrS [.cell 6 28] (v:= .agg #[.bool false,.slice none 0 0,.slice none 0 0]) (Res.cM C6 0 Res.nil) ?_;exact⟨C6.upd,_,rfl,by rw[(yZ J1).1 (by omega)];exact zPt _⟩
 have F7:(l.length:Int)≠0:=by simpa using J4
 refine zz 7 ?_;refine zc C3 (zQq _ _ C3.lt _ _ _ l (h.mono y3) _ _ _ l2 (h2.mono y3) (by first | omega | (simp;done) | (simp;omega)) (by first | omega | (simp;done) | (simp;omega)) J1 J2) ?_
 rintro v9 w9 C9 y9 P9 ⟨ad9,len9,Q9,rfl,ls9,hL9,hcan9,hval9⟩;obtain rfl:=hL9.hlen;have hgp:0<val ls9:=by rw[hval9];exact Nat.gcd_pos_of_pos_right _ hd
 have hgl:=zV h2.hlt hcan9 (by rw[hval9];exact Nat.gcd_le_right _ hd)
 refine zz 7 ?_;refine zc C9 (zQh _ _ C9.lt _ _ _ l (h.mono (Le2 y3 y9)) _ _ _ ls9 hL9 (by first | omega | (simp;done) | (simp;omega)) (by first | omega | (simp;done) | (simp;omega)) J1 hcan9 hgp) ?_
 rintro v11 w11 C11 y11 P11 ⟨_,_,rfl,⟨ad11,len11,Q11,rfl,ls11,hL11,hcan11,hval11⟩,⟨ae11,le11,ce11,rfl,lr11,hM11,hcam11,hvam11⟩⟩;obtain rfl:=hL11.hlen;obtain rfl:=hM11.hlen;have hql11:=wL hcan11 (k:=100000) (Nat.lt_of_le_of_lt (hval11▸Nat.div_le_self _ _) ((zR h.hlt J1 100000).1 (by omega)))
 refine zz 10 ?_;refine zc C11 (zQh _ _ C11.lt _ _ _ l2 (h2.mono (Le3 y3 y9 y11)) _ _ _ ls9 (hL9.mono y11) (by first | omega | (simp;done) | (simp;omega)) (by first | omega | (simp;done) | (simp;omega)) J2 hcan9 hgp) ?_
 rintro v13 w13 C13 y13 P13 ⟨_,_,rfl,⟨ad13,len13,Q13,rfl,ls13,hL13,hcan13,hval13⟩,⟨ae13,le13,ce13,rfl,lr13,hM13,hcam13,hvam13⟩⟩;obtain rfl:=hL13.hlen;obtain rfl:=hM13.hlen;have hql13:=wL hcan13 (k:=100000) (Nat.lt_of_le_of_lt (hval13▸Nat.div_le_self _ _) ((zR h2.hlt J2 100000).1 (by omega)))
 refine zz 10 ?_;refine zc C13 (zBh _ _ C13.lt) ?_;rintro v15 w15 C15 y15 P15 ⟨ad15,Q15,rfl,hL15⟩;refine zc C15 (kU _ _ C15.lt _ _ _ _ (hL13.mono y15) _ _ _ _ hL15) ?_;rintro v17 w17 C17 y17 P17 rfl;refine zz 2 ?_;refine zb 29 (b:=(decide (ls13=[1]))) (fun J18=>?_) (fun J18=>?_);have F19:ls13=[1]:=of_decide_eq_true J18;refine zz 11 ?_;refine zx 0 #[.bool sg,.slice ad11 ls11.length Q11,.slice none 0 0] C17 fun w20 C20 y20=>?_;refine zz 3 ?_;refine zrS [.cell 6 28] (v:= .agg #[.bool sg,.slice ad11 ls11.length Q11,.slice none 0 0]) (Res.cM C20 0 Res.nil) ?_;have hn0:val l≠0:=fun e=>F7 (by have:=(yZ J1).2 e;omega)
 have J1_:=(Le3 y13 y15 y17).trans y20;exact⟨C20.upd,_,rfl,fH hn0 hd ⟨ls11,((hL11.mono J1_)).mono C20.le,hcan11,by rw[←hval9];exact hval11⟩ (by rw[←hval9,←hval13,(vD hL13.hlt hcan13).1 (by simpa using F19)];exact zU.nil none (by omega))⟩
 have F21:¬(ls13=[1]):=of_decide_eq_false J18;refine zz 9 ?_;refine zx 0 #[.bool sg,.slice ad11 ls11.length Q11,.slice ad13 ls13.length Q13] C17 fun w22 C22 y22=>?_;refine zz 3 ?_;refine zrS [.cell 6 28] (v:= .agg #[.bool sg,.slice ad11 ls11.length Q11,.slice ad13 ls13.length Q13]) (Res.cM C22 0 Res.nil) ?_;have hn0:val l≠0:=fun e=>F7 (by have:=(yZ J1).2 e;omega)
 have J2_:=(Le3 y13 y15 y17).trans y22;exact⟨C22.upd,_,rfl,fH hn0 hd ⟨ls11,((hL11.mono J2_)).mono C22.le,hcan11,by rw[←hval9];exact hval11⟩ (by rw[←hval9,←hval13,wR,if_neg (fun e=>by have:=(vD hL13.hlt hcan13).2 e;simp[this]at F21)];exact⟨ls13,((hL13.mono (Le3 y15 y17 y22))).mono C22.le,hcan13,rfl⟩)⟩
set_option maxHeartbeats 1000000
theorem zWz(w:World)(X:Hid)(hX:∀k o,X k o→k<w.heap.size)(a:Raw)(ad:Option Addr)(len cap:Nat)(h:zL (rd w X) ad len cap a.ln)(ad2:Option Addr)(len2 Q2:Nat)(h2:zL (rd w X) ad2 len2 Q2 a.ld):Calls Tryz.prog 73 #[.agg #[.bool a.neg,.slice ad len cap,.slice ad2 len2 Q2]] w (Ret E0 w fun _ v=>v= .int .i64 a.chk):=by
 obtain rfl:=h.hlen;obtain rfl:=h2.hlen;have hcap:=h.hcap;have hbig:=h.hbig;have hcap2:=h2.hcap;have hbig2:=h2.hbig;refine zen Tryz.func73 ?_;have C0:St E0 w X w X []:=St.start hX;refine zz 2 ?_;refine zn pn (.cells #[.bool a.neg,.slice ad a.ln.length cap,.slice ad2 a.ld.length Q2] 28 (0,0)) C0 fun b3 w3 Y3 C3 y3 P3=>?_;refine zz 7 ?_;refine zo 0 C3 ?_;refine zz 3 ?_;refine zt 7 (p:=(a.ln.length:Int)>128) (fun F4=>?_) (fun F4=>?_);refine zz 15 ?_;refine zr' (v:= .int .i64 4) ?_;exact⟨C3.upd,_,rfl,zO (zSq (by omega)).symm⟩
 refine zz 1 ?_;refine zo 0 C3 ?_;refine zz 5 ?_;refine zt 12 (p:=(a.ld.length:Int)>128) (fun F5=>?_) (fun F5=>?_);refine zz 8 ?_;refine zr' (v:= .int .i64 4) ?_;exact⟨C3.upd,_,rfl,zO (zSq (by omega)).symm⟩
 have hlong:¬(128<a.ln.length∨128<a.ld.length):=by omega
 refine zz 7 ?_;refine zo 0 C3 ?_;refine zc C3 (zMr _ X0 (zT _) _ _ _ a.ln ((h.mono y3).mono Le.x0)) ?_;rintro v7 w7 C7 y7 P7 rfl;refine zz 2 ?_;refine zb 17 (b:=((qU a.ln)!=0)) (fun J8=>?_) (fun J8=>?_);have F9:(qU a.ln)≠0:=by simpa using J8
 refine zz 15 ?_;refine zr' (v:= .int .i64 2) ?_;exact⟨C7.upd,_,rfl,zO (mK hlong (.inl (by simpa using F9))).symm⟩
 have F10:(qU a.ln)=0:=by simpa using J8
 have cn:qU a.ln=0:=by simpa using F10
 have hcn:=(tL cn).2;have hzn:=yZ hcn;refine zz 1 ?_;refine zo 0 C7 ?_;refine zc C7 (zMr _ X0 (zT _) _ _ _ a.ld ((h2.mono (Le2 y3 y7)).mono Le.x0)) ?_;rintro v12 w12 C12 y12 P12 rfl;refine zz 4 ?_;refine zb 22 (b:=((qU a.ld)!=0)) (fun J13=>?_) (fun J13=>?_);have F14:(qU a.ld)≠0:=by simpa using J13
 refine zz 8 ?_;refine zr' (v:= .int .i64 2) ?_;exact⟨C12.upd,_,rfl,zO (mK hlong (.inr (.inl (by simpa using F14)))).symm⟩
 have F15:(qU a.ld)=0:=by simpa using J13
 have cd:qU a.ld=0:=by simpa using F15
 have hcd:=(tL cd).2;have hzd:=yZ hcd;refine zz 5 ?_;refine zdr C12 ?_;refine gz [0] ?_;refine gw 1 0 ?_;refine gz [2,3,4] ?_;refine gb 27 (b:=((a.ln.length:Int)==0)) (fun J16=>?_) (fun J16=>?_);have F17:(a.ln.length:Int)=0:=by simpa using J16
 refine gz [5] ?_;refine gw 6 0 ?_;refine gz [7] ?_;refine gb 30 (b:=a.neg) (fun J18=>?_) (fun J18=>?_);have F19:a.neg=true:=by simpa using J18
 have un:a.neg=true:=by simpa using F19
 refine gz [8,9,10,11,12,13,14,15,16,17,18,19] ?_;refine mZ (fun w20 Y20 C20 y20=>?_);refine zz 9 ?_;refine zr' (v:= .int .i64 2) ?_;exact⟨C20.upd,_,rfl,zO (mK hlong (.inr (.inr (.inr ⟨by omega,.inl un⟩)))).symm⟩
 have F21:a.neg=false:=by simpa using J18
 have un:a.neg=false:=by simpa using F21
 refine gz [8] ?_;refine gw 9 0 ?_;refine gz [10,11,12,13,14] ?_;refine gt 37 (p:=(a.ld.length:Int)>0) (fun F22=>?_) (fun F22=>?_);refine gz [15,16,17,18,19] ?_;refine mZ (fun w23 Y23 C23 y23=>?_);refine zz 9 ?_;refine zr' (v:= .int .i64 2) ?_;exact⟨C23.upd,_,rfl,zO (mK hlong (.inr (.inr (.inr ⟨by omega,.inr (by omega)⟩)))).symm⟩
 refine gz [15] ?_;refine gw 16 0 ?_;refine gC 17 (fun w24 Y24 _ C24 y24=>(zBh _ _ C24.lt)) ?_;rintro v25 w24 Y25 w25 C24 y25 ⟨ad25,Q25,rfl,hL25⟩;have J1_:=(Le3 y3 y7 y12).trans y25;refine gC 18 (fun w26 Y26 _ C26 y26=>(kU _ _ C26.lt _ _ _ _ (h2.mono (J1_.trans y26)) _ _ _ _ (hL25.mono y26))) ?_;rintro v27 w26 Y27 w27 C26 y27 rfl;refine gz [19] ?_;refine mZ (fun w28 Y28 C28 y28=>?_);refine zz 1 ?_;refine zb 42 (b:=(decide (a.ld=[1]))) (fun J29=>?_) (fun J29=>?_);have F30:a.ld=[1]:=of_decide_eq_true J29;have u1:val a.ld=1:=(vD h2.hlt hcd).1 (by simpa using F30)
 refine zz 8 ?_;refine zr' (v:= .int .i64 2) ?_;exact⟨C28.upd,_,rfl,zO (mK hlong (.inr (.inr (.inl u1)))).symm⟩;have F31:¬(a.ld=[1]):=of_decide_eq_false J29;have u1:val a.ld≠1:=fun e=>absurd ((vD h2.hlt hcd).2 e) (by simpa using F31)
 have hok:¬(qU a.ln≠0∨qU a.ld≠0∨val a.ld=1∨(val a.ln=0∧(a.neg=true∨0<val a.ld))):=by rintro(e | e | e | ⟨e,e2 | e2⟩);exact e cn;exact e cd;exact u1 e;(first | omega | (rw[un]at e2;cases e2));omega
 refine zz 7 ?_;refine zo 0 C28 ?_;refine zz 3 ?_;refine zt 47 (p:=(a.ld.length:Int)>0) (fun F32=>?_) (fun F32=>?_);have hdp:0<val a.ld:=by omega
 refine zz 1 ?_;refine zo 0 C28 ?_;refine zz 1 ?_;refine zo 0 C28 ?_;have J2_:=(J1_.trans y27).trans y28;refine zc C28 (zQq _ _ C28.lt _ _ _ a.ln (h.mono J2_) _ _ _ a.ld (h2.mono J2_) (by first | omega | (simp;done) | (simp;omega)) (by first | omega | (simp;done) | (simp;omega)) hcn hcd) ?_
 rintro v34 w34 C34 y34 P34 ⟨ad34,len34,Q34,rfl,ls34,hL34,hcan34,hval34⟩;obtain rfl:=hL34.hlen;refine zc C34 (zBh _ _ C34.lt) ?_;rintro v36 w36 C36 y36 P36 ⟨ad36,Q36,rfl,hL36⟩;refine zc C36 (kU _ _ C36.lt _ _ _ _ (hL34.mono y36) _ _ _ _ hL36) ?_;rintro v38 w38 C38 y38 P38 rfl;refine zz 4 ?_;refine zb 56 (b:=!(decide (ls34=[1]))) (fun J39=>?_) (fun J39=>?_);have F40:¬(ls34=[1]):=by simpa using J39
 have ug:Nat.gcd (val a.ln) (val a.ld)≠1:=by rw[←hval34];exact fun e=>absurd ((vD hL34.hlt hcan34).2 e) (by simpa using F40)
 refine zz 8 ?_;refine zr' (v:= .int .i64 2) ?_;exact⟨C38.upd,_,rfl,zO (zSr hlong hok ⟨by omega,ug⟩).symm⟩
 have F41:ls34=[1]:=by simpa using J39
 have ug:Nat.gcd (val a.ln) (val a.ld)=1:=by rw[←hval34];exact(vD hL34.hlt hcan34).1 (by simpa using F41)
 refine zz 9 ?_;refine zr' (v:= .int .i64 0) ?_;exact⟨C38.upd,_,rfl,zO (zBy hlong hok (fun hh=>hh.2 ug)).symm⟩;refine zz 20 ?_;refine zr' (v:= .int .i64 0) ?_;exact⟨C28.upd,_,rfl,zO (zBy hlong hok (fun hh=>by omega)).symm⟩
 have F42:(a.ln.length:Int)≠0:=by simpa using J16
 refine gz [5,6,7,8,9,10,11,12,13,14,15] ?_;refine gw 16 0 ?_;refine gC 17 (fun w43 Y43 _ C43 y43=>(zBh _ _ C43.lt)) ?_;rintro v44 w43 Y44 w44 C43 y44 ⟨ad44,Q44,rfl,hL44⟩;have J3_:=(Le3 y3 y7 y12).trans y44;refine gC 18 (fun w45 Y45 _ C45 y45=>(kU _ _ C45.lt _ _ _ _ (h2.mono (J3_.trans y45)) _ _ _ _ (hL44.mono y45))) ?_;rintro v46 w45 Y46 w46 C45 y46 rfl;refine gz [19] ?_;refine mZ (fun w47 Y47 C47 y47=>?_);refine zz 1 ?_;refine zb 42 (b:=(decide (a.ld=[1]))) (fun J48=>?_) (fun J48=>?_);have F49:a.ld=[1]:=of_decide_eq_true J48;have u1:val a.ld=1:=(vD h2.hlt hcd).1 (by simpa using F49)
 refine zz 8 ?_;refine zr' (v:= .int .i64 2) ?_;exact⟨C47.upd,_,rfl,zO (mK hlong (.inr (.inr (.inl u1)))).symm⟩;have F50:¬(a.ld=[1]):=of_decide_eq_false J48;have u1:val a.ld≠1:=fun e=>absurd ((vD h2.hlt hcd).2 e) (by simpa using F50)
 have hok:¬(qU a.ln≠0∨qU a.ld≠0∨val a.ld=1∨(val a.ln=0∧(a.neg=true∨0<val a.ld))):=by rintro(e | e | e | ⟨e,e2 | e2⟩);exact e cn;exact e cd;exact u1 e;(first | omega | (rw[un]at e2;cases e2));omega
 refine zz 7 ?_;refine zo 0 C47 ?_;refine zz 3 ?_;refine zt 47 (p:=(a.ld.length:Int)>0) (fun F51=>?_) (fun F51=>?_);have hdp:0<val a.ld:=by omega
 refine zz 1 ?_;refine zo 0 C47 ?_;refine zz 1 ?_;refine zo 0 C47 ?_;have J4_:=(J3_.trans y46).trans y47;refine zc C47 (zQq _ _ C47.lt _ _ _ a.ln (h.mono J4_) _ _ _ a.ld (h2.mono J4_) (by first | omega | (simp;done) | (simp;omega)) (by first | omega | (simp;done) | (simp;omega)) hcn hcd) ?_
 rintro v53 w53 C53 y53 P53 ⟨ad53,len53,Q53,rfl,ls53,hL53,hcan53,hval53⟩;obtain rfl:=hL53.hlen;refine zc C53 (zBh _ _ C53.lt) ?_;rintro v55 w55 C55 y55 P55 ⟨ad55,Q55,rfl,hL55⟩;refine zc C55 (kU _ _ C55.lt _ _ _ _ (hL53.mono y55) _ _ _ _ hL55) ?_;rintro v57 w57 C57 y57 P57 rfl;refine zz 4 ?_;refine zb 56 (b:=!(decide (ls53=[1]))) (fun J58=>?_) (fun J58=>?_);have F59:¬(ls53=[1]):=by simpa using J58
 have ug:Nat.gcd (val a.ln) (val a.ld)≠1:=by rw[←hval53];exact fun e=>absurd ((vD hL53.hlt hcan53).2 e) (by simpa using F59)
 refine zz 8 ?_;refine zr' (v:= .int .i64 2) ?_;exact⟨C57.upd,_,rfl,zO (zSr hlong hok ⟨by omega,ug⟩).symm⟩
 have F60:ls53=[1]:=by simpa using J58
 have ug:Nat.gcd (val a.ln) (val a.ld)=1:=by rw[←hval53];exact(vD hL53.hlt hcan53).1 (by simpa using F60)
 refine zz 9 ?_;refine zr' (v:= .int .i64 0) ?_;exact⟨C57.upd,_,rfl,zO (zBy hlong hok (fun hh=>hh.2 ug)).symm⟩;refine zz 20 ?_;refine zr' (v:= .int .i64 0) ?_;exact⟨C47.upd,_,rfl,zO (zBy hlong hok (fun hh=>by omega)).symm⟩
set_option maxHeartbeats 1000000
theorem qKu(w:World)(X:Hid)(hX:∀k o,X k o→k<w.heap.size)(ad:Option Addr)(len cap:Nat)(l:List Nat)(h:zL (rd w X) ad len cap l)(ad2:Option Addr)(len2 Q2:Nat)(l2:List Nat)(h2:zL (rd w X) ad2 len2 Q2 l2)(sg:Bool)(hm:len≤100000)(hm2:len2≤100000)(J1:zQ l)(J2:zQ l2)(hd:0<val l2)(z:Rat)(hz:mkRat (sgn sg (val l)) (val l2)=z):Calls Tryz.prog 102 #[.bool sg,.slice ad len cap,.slice ad2 len2 Q2] w (Ret E0 w fun w' v=>bD X w' v z):=by
 subst hz;exact qSd w X hX ad len cap l h ad2 len2 Q2 l2 h2 sg hm hm2 J1 J2 hd
set_option maxHeartbeats 1000000
theorem zWy{z:Rat}(h:z.num.natAbs<qW∧wR z.den<qW):nS z=0:=if_pos h
set_option maxHeartbeats 1000000
def Nf(r:Raw):Prop:=r= .of r.rat∧nS r.rat=0
theorem Nf.zero:Nf .zero:=by
 unfold Nf;rw[zXm];exact⟨by decide,zWy ⟨Nat.pow_pos (by omega),by show 0<_;exact Nat.pow_pos (by omega)⟩⟩
theorem Nf.op{a b:Raw}{z:Rat}(h:opE a b z=0):Nf (opR a b z):=by
 have h1:opR a b z= .of z:=if_pos h;rw[h1,Nf,Raw.of_rat];exact⟨rfl,(pE h).2⟩
theorem Nf.chk{r:Raw}(h:Nf r):r.chk=0:=by rw[h.1];exact Raw.of_chk h.2
section
variable {r x y:Raw}{xs ys:List Raw}{k:Nat}
end
theorem int6(n:Int):mkRat (sgn (decide (n<0)) n.natAbs) 1=(n:Rat):=by rw[zUn];first | exact Rat.mkRat_one _ | simp[Rat.mkRat_one] | (rw[Rat.mkRat_eq_div];simp)
theorem zRc(w:World)(X:Hid)(hX:∀k o,X k o→k<w.heap.size)(n:Int)(h1: -9223372036854775808≤n)(h2:n≤9223372036854775807):Calls Tryz.prog 103 #[.int .i64 n] w (Ret E0 w fun w' v=>mD X w' v n.natAbs):=by
 refine zen Tryz.func103 ?_;have C0:St E0 w X w X []:=St.start hX;refine zz 12 ?_;refine zt 4 (p:=(n)<0) (fun F2=>?_) (fun F2=>?_);refine zz 5 ?_;refine zs 6 (v:= .int .u64 (IntKind.u64.wrap (n))) (v':= .int .u64 (n+18446744073709551616)) (zO (by rw[pX];omega)) ?_
 refine zz 1 ?_;refine zs 7 (v:= .int .u64 (IntKind.u64.wrap ((0:Int)-(n+18446744073709551616)))) (v':= .int .u64 ((n.natAbs:Nat):Int)) (zO (by rw[pX];omega)) ?_
 refine zc C0 (zTc _ _ C0.lt n.natAbs (by omega)) ?_
 rintro v4 w4 C4 y4 P4 ⟨ad4,len4,Q4,rfl,hN4⟩;refine zz 5 ?_;refine zr' (v:= .slice ad4 len4 Q4) ?_;exact⟨C4.upd,_,rfl,C4.lastN hN4⟩;refine zz 7 ?_;refine zs 10 (v:= .int .u64 (IntKind.u64.wrap (n))) (v':= .int .u64 ((n.natAbs:Nat):Int)) (zO (by rw[pX];omega)) ?_
 refine zc C0 (zTc _ _ C0.lt n.natAbs (by omega)) ?_
 rintro v6 w6 C6 y6 P6 ⟨ad6,len6,Q6,rfl,hN6⟩;refine zz 4 ?_;refine zr' (v:= .slice ad6 len6 Q6) ?_;exact⟨C6.upd,_,rfl,C6.lastN hN6⟩
theorem qDm(w:World)(X:Hid)(hX:∀k o,X k o→k<w.heap.size)(n:Int)(h1: -9223372036854775808≤n)(h2:n≤9223372036854775807):Calls Tryz.prog 51 #[.int .i64 n] w (Ret E0 w fun w' v=>vG X w' v (.of (n:Rat))):=by
 refine zen Tryz.func51 ?_;have C0:St E0 w X w X []:=St.start hX;refine zz 2 ?_;refine zn pn (.cells #[.bool false,.slice none 0 0,.slice none 0 0] 28 (0,0)) C0 fun b3 w3 Y3 C3 y3 P3=>?_;refine zz 7 ?_;refine zc C3 (zRc _ _ C3.lt n (by omega) (by omega)) ?_
 rintro v5 w5 C5 y5 P5 ⟨ad5,len5,Q5,rfl,ls5,hL5,hcan5,hval5⟩;obtain rfl:=hL5.hlen;have hsh5:ls5.length≤100000:=by have:=wL hcan5 (k:=3) (by rw[hval5];exact Nat.lt_of_lt_of_le (show _<18446744073709551616 by omega) (by decide));omega
 refine zc C5 (zBh _ _ C5.lt) ?_;rintro v7 w7 C7 y7 P7 ⟨ad7,Q7,rfl,hL7⟩;refine zc C7 (qKu _ _ C7.lt _ _ _ ls5 (hL5.mono y7) _ _ _ ([1]) hL7 _ (by omega) (by simp) hcan5 zHg (by decide) (n:Rat) (by rw[hval5];exact int6 n)) ?_
 rintro v9 w9 C9 y9 P9 ⟨ad9,len9,Q9,ae9,le9,ce9,rfl,hN9,hD9⟩;refine zx 0 #[.bool (decide ((n:Rat).num<0)),.slice ad9 len9 Q9,.slice ae9 le9 ce9] C9 fun w10 C10 y10=>?_;refine zz 3 ?_;refine zrS [.cell 2 28] (v:= .agg #[.bool (decide ((n:Rat).num<0)),.slice ad9 len9 Q9,.slice ae9 le9 ce9]) (Res.cM C10 0 Res.nil) ?_;exact⟨C10.upd,_,rfl,bD.raw ⟨_,_,_,_,_,_,rfl,hN9.mono (Le.trans y10 C10.le),hD9.mono (Le.trans y10 C10.le)⟩⟩
theorem qPv(w:World)(X:Hid)(hX:∀k o,X k o→k<w.heap.size)(p q:Int)(h1: -9223372036854775808≤p)(h2:p≤9223372036854775807)(h3: -9223372036854775808≤q)(h4:q≤9223372036854775807)(hq:q≠0):Calls Tryz.prog 53 #[.int .i64 p,.int .i64 q] w (Ret E0 w fun w' v=>∃u,v= .tuple #[u,.int .i64 0]∧vG X w' u (.of (mkRat (sgn (decide (p<0)!=decide (q<0)) p.natAbs) q.natAbs))):=by
 refine zen Tryz.func53 ?_;have C0:St E0 w X w X []:=St.start hX;refine zz 2 ?_;refine zn pn (.cells #[.bool false,.slice none 0 0,.slice none 0 0] 28 (0,0)) C0 fun b3 w3 Y3 C3 y3 P3=>?_;refine zz 10 ?_;refine zb 7 (b:=((q)==0)) (fun J4=>?_) (fun J4=>?_);have F5:(q)=0:=by simpa using J4
 omega;have F6:(q)≠0:=by simpa using J4
 refine zz 11 ?_;refine zc C3 (zRc _ _ C3.lt p (by omega) (by omega)) ?_
 rintro v8 w8 C8 y8 P8 ⟨ad8,zAy,Q8,rfl,ls8,hL8,hcan8,hval8⟩;obtain rfl:=hL8.hlen;have hsh8:ls8.length≤100000:=by have:=wL hcan8 (k:=3) (by rw[hval8];exact Nat.lt_of_lt_of_le (show _<18446744073709551616 by omega) (by decide));omega
 refine zz 1 ?_;refine zc C8 (zRc _ _ C8.lt q (by omega) (by omega)) ?_
 rintro v10 w10 C10 y10 P10 ⟨ad10,len10,Q10,rfl,ls10,hL10,hcan10,hval10⟩;obtain rfl:=hL10.hlen;have hsh10:ls10.length≤100000:=by have:=wL hcan10 (k:=3) (by rw[hval10];exact Nat.lt_of_lt_of_le (show _<18446744073709551616 by omega) (by decide));omega
 refine zc C10 (qKu _ _ C10.lt _ _ _ ls8 (hL8.mono y10) _ _ _ ls10 hL10 _ (by omega) (by omega) hcan8 hcan10 (by rw[hval10];omega) (mkRat (sgn (decide (p<0)!=decide (q<0)) p.natAbs) q.natAbs) (by rw[hval8,hval10])) ?_
 rintro v12 w12 C12 y12 P12 ⟨ad12,len12,Q12,ae12,le12,ce12,rfl,hN12,hD12⟩;refine zx 0 #[.bool (decide ((mkRat (sgn (decide (p<0)!=decide (q<0)) p.natAbs) q.natAbs).num<0)),.slice ad12 len12 Q12,.slice ae12 le12 ce12] C12 fun w13 C13 y13=>?_;refine zz 4 ?_;refine zrS [.cell 4 28,.tmp 5] (v:= .tuple #[.agg #[.bool (decide ((mkRat (sgn (decide (p<0)!=decide (q<0)) p.natAbs) q.natAbs).num<0)),.slice ad12 len12 Q12,.slice ae12 le12 ce12],.int .i64 0]) (Res.cM C13 0 (Res.tZ Res.nil)) ?_;exact⟨C13.upd,_,rfl,_,rfl,bD.raw ⟨_,_,_,_,_,_,rfl,hN12.mono (Le.trans y13 C13.le),hD12.mono (Le.trans y13 C13.le)⟩⟩
end Go.Proofs.YtdfmdiakjdggbaaGreatDoor
namespace Go.Ev
open Go Go.Gv IntKind
inductive Ty where
  | lim
  | int (k:IntKind)
  | bool
  | str
  | list (A:Ty)
  | prod (A B:Ty)
@[reducible] def Ty.den : Ty → Type
  | .lim => Nat
  | .int _ => Int
  | .bool => Bool
  | .str => ByteArray
  | .list A => List A.den
  | .prod A B => A.den × B.den
noncomputable def Ty.size:Ty→Nat
 | .prod A B=>A.size+B.size
 | _=>1
noncomputable def Ty.zero:(A:Ty)→A.den
 | .lim=>(0:Nat)
 | .int _=>(0:Int)
 | .bool=>false
 | .str=>⟨#[]⟩
 | .list _=>[]
 | .prod A B=>(A.zero,B.zero)
inductive Tg where
  | a | n | o
noncomputable def Tg.isN:Tg→Bool
 | .n=>true
 | _=>false
noncomputable def Tg.isA:Tg→Bool
 | .a=>true
 | _=>false
noncomputable def Tg.le:Tg→Tg→Bool
 | .a,_=>true
 | .n,.n=>true
 | .o,.o=>true
 | _,_=>false
inductive T where
  | u
  | v (x:Value)
  | sl (cs:List T) (n:Nat)
  | sn (cs:List T) (n:Nat)
  | st (cs:List T) (n:Nat)
  | fp (cs:List T)
  | os (i o n c:Nat)
  | og (i o n:Nat)
  | op (i o:Nat)
  | ag (cs:List T)
  | tu (cs:List T)
  | fn (f:Nat) (cs:List T)
  | fb (f:Nat) (bs:List T)
  | om (i:Nat)
  | yl (i:Nat)
  | ls (g:Tg) (A:Ty) (l:List A.den)
  | hv (A:Ty) (l:List A.den)
inductive Cs where
  | l (cs:List T)
  | d (g:Tg) (A:Ty) (x:List A.den)
structure MD where
 g:Tg
 K:Ty
 V:Ty
 l:List (K.den×V.den)
inductive TO where
  | row (cs:List T) (e:TypeId)
  | gro (cs:Cs) (e:TypeId)
  | fz (cs:List T)
  | map (l:List (Value×T))
  | mapd (d:MD)
  | loop (L:List T) (ps:List Nat) (a b:Code) (ready:Bool) (pend:Option Code)
  | gone
structure S where
 L:List T
 H:List TO
inductive Ex where
  | n | x (id:Nat) | r | p (t:T)
noncomputable def nth{α:Type}(d:α)(l:List α):Nat→α:=List.rec (fun _=>d) (fun x _ ih n=>Nat.rec x (fun m _=>ih m) n) l
noncomputable def put{α:Type}(x:α)(l:List α):Nat→List α:=List.rec (fun _=>[]) (fun y l ih n=>Nat.rec (x::l) (fun m _=>y::ih m) n) l
def ln{α:Type}:List α→Nat
 | []=>0
 | _::l=>Nat.succ (ln l)
def sc:Value→Bool
 | .int .. | .bool _ | .string _ | .slice none 0 0 | .pointer none | .map none | .nilFunc | .nilIface | .iface _ (.int ..)=>true
 | _=>false
def ofV(x:Value):T:=bif sc x then .v x else .u
def ofC:Value→T
 | .agg cs=> .ag (cs.toList.map ofV)
 | .tuple cs=> .tu (cs.toList.map ofV)
 | .func (.func f) ⟨[]⟩ ⟨[]⟩=> .fn f []
 | x=>ofV x
noncomputable def qB(g:Tg):(A:Ty)→A.den→List T
 | .lim,a=>[.v (.int .u32 (.ofNat a))]
 | .int k,a=>[.v (.int k a)]
 | .bool,b=>[.v (.bool b)]
 | .str,s=>[.v (.string s)]
 | .list A,l=>[.ls g A l]
 | .prod A B,x=>qB g A x.1++qB g B x.2
noncomputable def yV(g:Tg)(A:Ty):List A.den→List T
 | []=>[]
 | x::l=>qB g A x++yV g A l
noncomputable def qE(g:Tg)(A:Ty):List A.den→List T
 | []=>[]
 | x::l=>qE g A l++qB g A x
noncomputable def kind:IntKind→Nat
 | .i8=>0 | .i16=>1 | .i32=>2 | .i64=>3 | .u8=>4 | .u16=>5 | .u32=>6 | .u64=>7
noncomputable def Cs.list:Cs→List T
 | .l cs=>cs
 | .d g A x=>qE g A x
noncomputable def Ty.beq:Ty→Ty→Bool
 | .lim,.lim=>true
 | .int j,.int k=>Nat.beq (kind j) (kind k)
 | .bool,.bool=>true
 | .str,.str=>true
 | .list A,.list B=>A.beq B
 | .prod A B,.prod C D=>A.beq C&&B.beq D
 | _,_=>false
theorem Ty.beq_eq:∀{A B:Ty},A.beq B=true→A=B
 | .lim,.lim,_=>rfl
 | .int j,.int k,h=>by have:=Nat.eq_of_beq_eq_true h;cases j<;>cases k<;>first | rfl | cases this
 | .bool,.bool,_=>rfl
 | .str,.str,_=>rfl
 | .list A,.list B,h=>by rw[Ty.beq_eq (A:=A) (B:=B) h]
 | .prod A B,.prod C D,h=>by
  simp only[Ty.beq,Bool.and_eq_true]at h;rw[Ty.beq_eq h.1,Ty.beq_eq h.2]
noncomputable def vK(A B:Ty)(l:List A.den):Option (List B.den):=if h:A.beq B=true then some (Ty.beq_eq h▸l)else none
noncomputable def lT:Nat→List T→Option (List T)
 | 0,_=>some []
 | _+1,[]=>none
 | n+1,x::l=>match lT n l with
  | some r=>some (x::r)
  | none=>none
noncomputable def zDy:List T→Nat→List T
 | [],_=>[]
 | x::l,n=>match n with
  | 0=>x::l
  | n+1=>zDy l n
noncomputable def zYu:List T→Option Nat
 | [.v (.int k (.ofNat a))]=>bif Nat.beq (kind k) 6 then some a else none
 | _=>none
noncomputable def zYt(k:IntKind):List T→Option Int
 | [.v (.int k' a)]=>bif Nat.beq (kind k) (kind k')then some a else none
 | _=>none
noncomputable def zYs:List T→Option Bool
 | [.v (.bool b)]=>some b
 | _=>none
noncomputable def zYw:List T→Option ByteArray
 | [.v (.string s)]=>some s
 | _=>none
noncomputable def zYv(g:Tg)(A:Ty):List T→Option (List A.den)
 | [.v (.slice none 0 0)]=>some []
 | [.ls g' A' l]=>bif g.le g' then vK A' A l else none
 | _=>none
noncomputable def rJ(g:Tg):(A:Ty)→List T→Option A.den
 | .lim,ts=>zYu ts
 | .int k,ts=>zYt k ts
 | .bool,ts=>zYs ts
 | .str,ts=>zYw ts
 | .list A,ts=>zYv g A ts
 | .prod A B,ts=>match lT A.size ts with
  | some u=>(match rJ g A u,rJ g B (zDy ts A.size)with
   | some x,some y=>some (x,y)
   | _,_=>none)
  | none=>none
noncomputable def Cs.app:Cs→List T→Cs
 | .l cs,b=> .l (cs++b)
 | .d g A x,b=>match rJ g A b with
  | some y=> .d g A (y::x)
  | none=> .l (qE g A x++b)
noncomputable def Cs.apL(b:List T)(g:Tg)(A:Ty)(z:List A.den):Cs→Cs
 | .l []=> .d g A z.reverse
 | .l (c::cs)=> .l ((c::cs)++b)
 | .d g' A' x=>match vK A A' z with
  | some u=>bif g'.le g then .d g' A' (u.reverse++x)else .l (qE g' A' x++b)
  | none=> .l (qE g' A' x++b)
noncomputable def Cs.apY(c:Cs)(y:T)(b:List T):Cs:=match y with
 | .ls g A z=>c.apL b g A z
 | _=>c.app b
noncomputable def dn:T→T
 | .sn cs n=> .sl cs n
 | t=>t
noncomputable def unN:Nat→T→T
 | 0,_=> .u
 | k+1,t=>match t with
  | .sn cs n=> .sl (cs.map (unN k)) n
  | .ls _ A l=> .ls .a A l
  | .hv _ _=> .u
  | .sl cs n=> .sl (cs.map (unN k)) n
  | .st cs n=> .st (cs.map (unN k)) n
  | .fp cs=> .fp (cs.map (unN k))
  | .ag cs=> .ag (cs.map (unN k))
  | .tu cs=> .tu (cs.map (unN k))
  | .fn f cs=> .fn f (cs.map (unN k))
  | .fb f cs=> .fb f (cs.map (unN k))
  | t=>t
noncomputable def mkN:Nat→T→T
 | 0,t=>t
 | k+1,t=>match t with
  | .sl cs n=> .sn (cs.map (mkN k)) n
  | .ls _ A l=> .ls .n A l
  | .ag cs=> .ag (cs.map (mkN k))
  | .tu cs=> .tu (cs.map (mkN k))
  | .fn f cs=> .fn f (cs.map (mkN k))
  | t=>t
noncomputable def evO(L:List T):Operand→T
 | .tmp t=>nth .u L t
 | .const x=>ofC x
 | .func f=> .fn f []
 | .global _=> .u
noncomputable def qGm:IntKind→Nat
 | .i8=>128 | .i16=>32768 | .i32=>2147483648 | .i64=>9223372036854775808 | .u8=>256 | .u16=>65536 | .u32=>4294967296 | .u64=>18446744073709551616
noncomputable def wr(k:IntKind):Int→Int
 | .ofNat n=>bif Nat.blt n (qGm k)then .ofNat n else k.wrap (.ofNat n)
 | .negSucc n=>k.wrap (.negSucc n)
noncomputable def ieq:Int→Int→Bool
 | .ofNat a,.ofNat b=>Nat.beq a b
 | .negSucc a,.negSucc b=>Nat.beq a b
 | _,_=>false
noncomputable def ilt:Int→Int→Bool
 | .ofNat a,.ofNat b=>Nat.blt a b
 | .negSucc a,.negSucc b=>Nat.blt b a
 | .negSucc _,.ofNat _=>true
 | .ofNat _,.negSucc _=>false
noncomputable def zVk(op:BinOp)(k:IntKind)(a b:Int):Option Value:=match op with
 | .add=>some (.int k (wr k (Int.add a b)))
 | .sub=>some (.int k (wr k (Int.sub a b)))
 | .mul=>some (.int k (wr k (Int.mul a b)))
 | .eql=>some (.bool (ieq a b))
 | .neq=>some (.bool (!ieq a b))
 | .lss=>some (.bool (ilt a b))
 | .leq=>some (.bool (!ilt b a))
 | .gtr=>some (.bool (ilt b a))
 | .geq=>some (.bool (!ilt a b))
 | _=>none
noncomputable def zVj(a b:Bool):Bool:=match a with | true=>b | false=>!b
noncomputable def bin(op:BinOp)(x y:Value):Option Value:=match x,y with
 | .int k a,.int k' b=>bif Nat.beq (kind k) (kind k')then zVk op k a b else none
 | _,_=>none
noncomputable def zer(P:Program)(t:TypeId):Option (List T):=match(P.info? t)with
 | some i=>(match i.zero with | some v=>some (v.cells.toList.map ofV) | none=>none)
 | none=>none
noncomputable def zVw(P:Program)(s f:Nat):Option (Nat×Nat):=match P.underlying s with
 | some (.struct fs)=>(match fs[f]? with | some x=>some (x.offset,x.type) | none=>none)
 | _=>none
noncomputable def elT(P:Program)(t:TypeId):Option TypeId:=match P.underlying t with
 | some (.slice e)=>some e
 | _=>none
noncomputable def qX:List T→Nat→List T
 | [],_=>[]
 | x::l,n=>match n with
  | 0=>x::l
  | n+1=>qX l n
noncomputable def jC:Nat→List T→Option (List T)
 | 0,_=>some []
 | _+1,[]=>none
 | n+1,x::l=>match jC n l with
  | some r=>some (x::r)
  | none=>none
noncomputable def cellsOf:T→List T
 | .ag cs=>cs
 | t=>[t]
noncomputable def rX:TO→Option (List T)
 | .row cs _=>some cs
 | .gro cs _=>some cs.list
 | .fz cs=>some cs
 | _=>none
noncomputable def wZ:TO→Option (List T)
 | .row cs _=>some cs
 | .gro cs _=>some cs.list
 | _=>none
noncomputable def dG(H:List TO):T→Option (List T)
 | .op i o=>(match rX (nth .gone H i)with | some cs=>some (qX cs o) | none=>none)
 | .fp cs=>some cs
 | _=>none
noncomputable def mkT(g:Bool)(cs:List T):T:=bif g then .ag cs else(match cs with | x::_=>x | []=> .u)
noncomputable def wS:T→Option Nat
 | .v (.int _ (.ofNat i))=>some i
 | _=>none
noncomputable def jE(cs:List T)(o:Nat):List T→List T
 | []=>cs
 | x::l=>jE (put x cs o) (o+1) l
noncomputable def isU:T→Bool
 | .u=>true
 | _=>false
noncomputable def one:T→Bool
 | .u | .ag _ | .tu _=>false
 | _=>true
noncomputable def kY:List T→Bool
 | []=>true
 | t::l=>one t&&kY l
noncomputable def zCa(sz:Nat→Option (Nat×Nat))(cs:List T):List (Nat×T)→Option (List T)
 | []=>some cs
 | (i,t)::l=>match sz i with
  | none=>none
  | some (o,s)=>bif !isU t&&(Nat.beq (ln (cellsOf t)) s&&Nat.ble (o+s) (ln cs))then zCa sz (jE cs o (cellsOf t)) l else none
noncomputable def reps(z:List T):Nat→List T
 | 0=>[]
 | n+1=>z++reps z n
noncomputable def evP(ρ:Operand→T)(parts:Array (Nat×Operand)):List (Nat×T):=parts.toList.map fun p=>(p.1,ρ p.2)
noncomputable def sV(x:T)(lo hi:Nat)(sz:Nat):Option T:=match x with
 | .sl cs n=>bif Nat.ble lo hi&&Nat.ble hi n then some (bif Nat.beq lo hi then .sl [] 0 else .sl (qX cs (lo*sz)) (hi-lo))else none
 | .os i o n c=>bif Nat.ble lo hi&&Nat.ble hi c then(bif Nat.beq lo c then some (.os i o (hi-lo) (c-lo))else some (.os i (o+lo*sz) (hi-lo) (c-lo)))else none
 | .og i o n=>bif Nat.ble lo hi&&(Nat.ble hi n&&(Nat.blt lo n&&Nat.blt 0 sz))then some (.og i (o+lo*sz) (hi-lo))else(bif Nat.beq lo 0&&Nat.beq hi 0 then some (.og i o 0)else(bif Nat.beq lo hi&&Nat.ble hi n then some (.sl [] 0)else none))
 | .st cs n=>bif Nat.ble lo hi&&Nat.beq hi n then some (bif Nat.beq lo hi then .st [] 0 else .st (qX cs (lo*sz)) (hi-lo))else none
 | .v (.slice none 0 0)=>bif Nat.beq hi 0&&Nat.beq lo 0 then some x else none
 | .ls g A l=>bif Nat.beq sz A.size&&(Nat.ble lo hi&&Nat.ble hi l.length)then some (.ls g A ((l.drop lo).take (hi-lo)))else none
 | _=>none
noncomputable def nU(x:T)(lo hi mx:Nat)(sz:Nat):Option T:=match x with
 | .os i o n c=>bif Nat.ble lo hi&&(Nat.ble hi mx&&Nat.ble mx c)then some (.os i (bif Nat.beq lo mx then o else o+lo*sz) (hi-lo) (mx-lo))else none
 | .og i o n=>bif Nat.ble lo hi&&(Nat.ble hi mx&&Nat.ble mx n)then some (.os i (bif Nat.beq lo mx then o else o+lo*sz) (hi-lo) (mx-lo))else none
 | .sl cs n=>bif Nat.ble lo hi&&(Nat.beq hi mx&&Nat.ble mx n)then some (bif Nat.beq lo hi then .st [] 0 else .st (qX cs (lo*sz)) (hi-lo))else none
 | .st cs n=>bif Nat.ble lo hi&&(Nat.beq hi mx&&Nat.ble mx n)then some (bif Nat.beq lo hi then .st [] 0 else .st (qX cs (lo*sz)) (hi-lo))else none
 | .v (.slice none 0 0)=>bif Nat.beq hi 0&&(Nat.beq lo 0&&Nat.beq mx 0)then some x else none
 | .ls _ _ l=>bif(Nat.beq lo hi&&Nat.beq hi mx)&&Nat.ble mx l.length then some (.st [] 0)else none
 | _=>none
noncomputable def qV:T→Option Nat
 | .sl _ n=>some n
 | .sn _ n=>some n
 | .st _ n=>some n
 | .os _ _ n _=>some n
 | .og _ _ n=>some n
 | .v (.slice none 0 0)=>some 0
 | .ls _ _ l=>some l.length
 | _=>none
noncomputable def zX(H:List TO)(sz:Nat):T→Option (List T)
 | .sl cs n=>jC (n*sz) cs
 | .sn cs n=>jC (n*sz) cs
 | .st cs n=>jC (n*sz) cs
 | .os i o n _=>(match rX (nth .gone H i)with | some cs=>jC (n*sz) (qX cs o) | none=>none)
 | .og i o n=>(match rX (nth .gone H i)with | some cs=>jC (n*sz) (qX cs o) | none=>none)
 | .v (.slice none 0 0)=>some []
 | .ls g A l=>bif Nat.beq sz A.size then some (yV g A l)else none
 | _=>none
abbrev R1:=Option (T×Option TO)
noncomputable def zEu(P:Program)(op:BinOp)(t:TypeId):R1:=match elT P t with
 | some _=>(match op with
  | .eql=>some (.v (.bool false),none)
  | .neq=>some (.v (.bool true),none)
  | _=>none)
 | none=>none
noncomputable def val(t:T):R1:=some (t,none)
noncomputable def zXj:Option T→R1
 | some t=>some (t,none)
 | none=>none
noncomputable def zIp(c a b:T):R1:=match c with
 | .v (.bool c)=>val (bif c then a else b)
 | _=>none
noncomputable def zRj(P:Program)(k:Nat)(e:TypeId):R1:=match zer P e with
 | some cs=>some (.op k 0,some (.row cs e))
 | none=>none
noncomputable def qPg(k:Nat)(e:TypeId)(x:T):R1:=bif isU x then none else some (.op k 0,some (.row (cellsOf x) e))
noncomputable def zRn(P:Program):List Field→Option (List (Nat×Nat))
 | []=>some []
 | f::l=>match ldT P f.type,zRn P l with
  | some (_,s),some r=>some ((f.offset,s)::r)
  | _,_=>none
noncomputable def qDj(P:Program)(t:TypeId):Option (Nat→Option (Nat×Nat)):=match P.underlying t with
 | some (.struct fs)=>(match zRn P fs.toList with
  | some l=>some fun i=>l[i]?
  | none=>none)
 | some (.array _ e)=>(match ldT P e with
  | some (_,s)=>some fun i=>some (i*s,s)
  | none=>none)
 | _=>none
noncomputable def zRk(P:Program)(t:TypeId)(ps:List (Nat×T)):R1:=match zer P t,qDj P t with
 | some z,some f=>(match zCa f z ps with | some cs=>val (.ag cs) | none=>none)
 | _,_=>none
noncomputable def lL(P:Program)(k:Nat)(t:TypeId)(n:Nat)(ps:List (Nat×T)):R1:=match elT P t with
 | some e=>(match zer P e,ldT P e with
  | some z,some (_,s)=>bif Nat.ble (n*s) 16777216&&(Nat.beq (ln z) s&&Nat.blt 0 s)then(match zCa (fun i=>some (i*s,s)) (reps z n) ps with | some cs=>some (.os k 0 n n,some (.row cs e)) | none=>none)else none
  | _,_=>none)
 | none=>none
noncomputable def aN(P:Program)(H:List TO)(t:TypeId)(a:T):R1:=match ldT P t with
 | some (g,s)=>(match dG H a with
  | some cs=>(match jC s cs with | some cs=>bif g||Nat.beq s 1 then val (mkT g cs)else none | none=>none)
  | none=>none)
 | none=>none
noncomputable def qIp(x:T):R1:=match x with
 | .op i o=>val (.op i o)
 | .fp cs=>val (.fp cs)
 | .fn f cs=>val (.fn f cs)
 | .yl i=>val (.yl i)
 | _=>none
noncomputable def qAn(P:Program)(k:IntKind)(o:Nat)(f:Field):Bool:=match P.underlying f.type with
 | some (.int k')=>Nat.beq (kind k) (kind k')&&(Nat.beq f.offset o&&!(f.name== "_"))
 | _=>false
noncomputable def xR(P:Program)(t:TypeId):Ty→Bool
 | .int k=>(match P.underlying t with | some (.int k')=>Nat.beq (kind k) (kind k') | _=>false)
 | .str=>(match P.underlying t with | some .string=>true | _=>false)
 | .prod (.int i) (.prod (.int j) (.int k))=>(match P.underlying t with
  | some (.struct ⟨[f0,f1,f2]⟩)=>!P.stoodInHeld t&&(qAn P i 0 f0&&(qAn P j 1 f1&&qAn P k 2 f2))
  | _=>false)
 | _=>false
noncomputable def eq3(P:Program)(op:BinOp)(t:TypeId)(xs ys:List T):R1:=match xs,ys with
 | [.v (.int i a),.v (.int j b),.v (.int k c)],[.v (.int i' a'),.v (.int j' b'),.v (.int k' c')]=>bif xR P t (.prod (.int i) (.prod (.int j) (.int k)))&&(!P.eqGuardType P.depth t&&(Nat.beq (kind i) (kind i')&&(Nat.beq (kind j) (kind j')&&Nat.beq (kind k) (kind k'))))then(match op with
  | .eql=>val (.v (.bool (ieq a a'&&(ieq b b'&&ieq c c'))))
  | .neq=>val (.v (.bool (!(ieq a a'&&(ieq b b'&&ieq c c')))))
  | _=>none)else none
 | _,_=>none
noncomputable def zWt(P:Program)(op:BinOp)(t:TypeId)(x y:T):R1:=match x,y with
 | .v a,.v b=>(match bin op a b with | some c=>val (.v c) | none=>none)
 | .os ..,.v (.slice none 0 0)=>zEu P op t
 | .og ..,.v (.slice none 0 0)=>zEu P op t
 | .sl (_::_) _,.v (.slice none 0 0)=>zEu P op t
 | .st (_::_) _,.v (.slice none 0 0)=>zEu P op t
 | .ag xs,.ag ys=>eq3 P op t xs ys
 | _,_=>none
noncomputable def qDd(P:Program)(k:Nat)(t:TypeId)(l c:T):R1:=match elT P t,wS l,wS c with
 | some e,some l,some c=>(match zer P e,ldT P e,P.info? e with
  | some z,some (_,s),some i=>bif(Nat.ble l c&&Nat.ble c 1000000)&&(Nat.ble i.bytes 1000000&&(Nat.beq (ln z) s&&Nat.blt 0 s))then some (.os k 0 l c,some (.row (reps z c) e))else none
  | _,_,_=>none)
 | _,_,_=>none
noncomputable def opt(ρ:Operand→T)(d:Nat):Option Operand→Option Nat
 | some x=>wS (ρ x)
 | none=>some d
noncomputable def vE(ρ:Operand→T)(x:T)(s lo hi:Nat)(hio:Option Operand):Option Operand→R1
 | none=>zXj (sV x lo hi s)
 | some m=>(match hio with
  | some _=>(match wS (ρ m)with
   | some m=>zXj (nU x lo hi m s)
   | none=>none)
  | none=>none)
noncomputable def sP(P:Program)(t:TypeId)(x:T)(ρ:Operand→T)(lo hi mx:Option Operand):R1:=match elT P t with
 | some e=>(match ldT P e,qV x with
  | some (_,s),some n=>(match opt ρ 0 lo,opt ρ n hi with
   | some l,some h=>vE ρ x s l h hi mx
   | _,_=>none)
  | _,_=>none)
 | none=>none
noncomputable def nP(P:Program)(s:TypeId)(x:T)(f:Nat):R1:=match zVw P s f with
 | some (o,t)=>(match ldT P t with
  | some (_,z)=>bif Nat.beq z 0 then none else(match x with
   | .op i j=>val (.op i (j+o))
   | .fp cs=>val (.fp (qX cs o))
   | _=>none)
  | none=>none)
 | none=>none
noncomputable def zKm(P:Program)(s:TypeId)(x:T)(f:Nat):R1:=match zVw P s f with
 | some (o,t)=>(match x with
  | .ag cs=>(match ldT P t with
   | some (g,s)=>(match jC s (qX cs o)with | some cs=>bif g||Nat.beq s 1 then val (mkT g cs)else none | none=>none)
   | none=>none)
  | _=>none)
 | none=>none
noncomputable def vQ(P:Program)(t:TypeId)(x i:T):R1:=match wS i with
 | some i=>(match P.underlying t with
  | some (.slice e)=>(match ldT P e with
   | some (_,s)=>(match x with
    | .sl cs n=>bif Nat.blt i n then val (.fp (qX cs (i*s)))else none
    | .st cs n=>bif Nat.blt i n then val (.fp (qX cs (i*s)))else none
    | .os j o n _=>bif Nat.blt i n then val (.op j (o+i*s))else none
    | .og j o n=>bif Nat.blt i n then val (.op j (o+i*s))else none
    | .ls g A l=>bif Nat.beq s A.size&&Nat.blt i l.length then val (.fp (qB g A (nth A.zero l i)))else none
    | _=>none)
   | none=>none)
  | some (.array n e)=>(match ldT P e with
   | some (_,s)=>(match x with
    | .op j o=>bif Nat.blt i n then val (.op j (o+i*s))else none
    | .fp cs=>bif Nat.blt i n then val (.fp (qX cs (i*s)))else none
    | _=>none)
   | none=>none)
  | _=>none)
 | none=>none
noncomputable def qIm(P:Program)(t:TypeId)(x i:T):R1:=match wS i with
 | some i=>(match P.underlying t with
  | some (.array n e)=>(match ldT P e with
   | some (g,s)=>(match x with
    | .ag cs=>bif Nat.blt i n&&(g||Nat.beq s 1)then(match jC s (qX cs (i*s))with | some cs=>val (mkT g cs) | none=>none)else none
    | _=>none)
   | none=>none)
  | _=>none)
 | none=>none
noncomputable def aM(x:T)(i:Nat):R1:=match x with
 | .tu vs=>(match vs[i]? with | some t=>val t | none=>none)
 | _=>none
noncomputable def qPh(x:T):R1:=match qV x with
 | some n=>val (.v (.int .i64 (.ofNat n)))
 | none=>none
noncomputable def pMkF(fn:Fn)(first cs:List T):R1:=match fn,first with
 | .func f,[]=>val (.fn f cs)
 | .func f,bs=>(match cs with | []=>val (.fb f bs) | _=>none)
 | _,_=>none
noncomputable def zGs{α:Type}(P:Program):Sem α→Option α
 | .pure a=>some a
 | .program k=>zGs P (k P)
 | _=>none
noncomputable def vOf:T→Option Value
 | .v x=>some x
 | _=>none
noncomputable def zSa:List T→Option (List Value)
 | []=>some []
 | t::l=>match vOf t,zSa l with
  | some x,some r=>some (x::r)
  | _,_=>none
noncomputable def sOf:T→Option Value
 | .v x=>some x
 | .ag cs=>(match zSa cs with | some l=>some (.agg l.toArray) | none=>none)
 | _=>none
noncomputable def zJu(d:TypeDesc)(k:Value):List (Value×T)→Nat→Option (Option Nat)
 | [],_=>some none
 | e::es,i=>match Instr.sameNow d k e.1 with
  | some true=>some (some i)
  | some false=>zJu d k es (i+1)
  | none=>none
noncomputable def qAs(P:Program)(t:TypeId)(k:Value):List (Value×T)→Nat→Option (Option Nat)
 | [],_=>some none
 | e::es,i=>match zGs P (Op.equal t k e.1)with
  | some true=>some (some i)
  | some false=>qAs P t k es (i+1)
  | none=>none
noncomputable def zHx(P:Program)(t:TypeId)(k:Value)(l:List (Value×T)):Option (Option Nat):=match P.underlying t with
 | some d=>(match zJu d k l 0 with
  | some r=>some r
  | none=>qAs P t k l 0)
 | none=>none
noncomputable def kOk(P:Program)(e:Bool)(t:TypeId)(k:Value):Bool:=match zGs P (Instr.checkKey e 10000 t k)with
 | some _=>true
 | none=>false
noncomputable def emp{α:Type}:List α→Bool
 | []=>true
 | _=>false
noncomputable def zEp(P:Program)(t:TypeId):Option (TypeId×TypeId):=match P.underlying t with
 | some (.map k v)=>some (k,v)
 | _=>none
noncomputable def qJo(P:Program)(e:TypeId):Option T:=match P.info? e with
 | some i=>(match i.zero with | some v=>some (ofC v) | none=>none)
 | none=>none
noncomputable def zHm(H:List TO):T→Option (List (Value×T))
 | .v (.map none)=>some []
 | .om i=>(match nth .gone H i with
  | .map l=>some l
  | _=>none)
 | _=>none
noncomputable def okT(ok:Bool)(t:T)(b:Bool):T:=bif ok then .tu [t,.v (.bool b)]else t
noncomputable def qOo(l:List (Value×T))(i:Nat):Option T:=match l[i]? with
 | some e=>some e.2
 | none=>none
noncomputable def zJg:(A:Ty)→A.den→List Value
 | .int k,a=>[.int k a]
 | .str,s=>[.string s]
 | .prod A B,x=>zJg A x.1++zJg B x.2
 | _,_=>[]
noncomputable def kQ:(K:Ty)→K.den→Value
 | .int k,a=> .int k a
 | .str,s=> .string s
 | .prod A B,x=> .agg (zJg (.prod A B) x).toArray
 | _,_=> .nilIface
noncomputable def unT(g:Tg)(V:Ty)(x:V.den):T:=match qB g V x with
 | [t]=>t
 | l=> .ag l
noncomputable def MD.ents(d:MD):List (Value×T):=d.l.map fun e=>(kQ d.K e.1,unT d.g d.V e.2)
noncomputable def keq:(K:Ty)→K.den→K.den→Bool
 | .int _,a,b=>ieq a b
 | .str,a,b=>decide (a=b)
 | .prod A B,a,b=>keq A a.1 b.1&&keq B a.2 b.2
 | _,_,_=>false
noncomputable def zQr(K:Ty){α:Type}(k:K.den):List (K.den×α)→Bool
 | []=>false
 | e::l=>keq K k e.1||zQr K k l
noncomputable def jJ(K:Ty){α:Type}(z:α)(k:K.den):List (K.den×α)→α
 | []=>z
 | e::l=>bif keq K k e.1 then e.2 else jJ K z k l
noncomputable def dC(K:Ty){α:Type}(k:K.den)(x:α):List (K.den×α)→List (K.den×α)
 | []=>[(k,x)]
 | e::l=>bif keq K k e.1 then(k,x)::l else e::dC K k x l
noncomputable def zHh(g:Tg)(A:Ty):T→Option A.den
 | .ag cs=>bif Nat.blt 1 A.size then rJ g A cs else none
 | t=>bif Nat.beq A.size 1 then rJ g A [t]else none
noncomputable def dOf(H:List TO):T→Option MD
 | .om i=>(match nth .gone H i with
  | .mapd d=>some d
  | _=>none)
 | _=>none
noncomputable def lkD(P:Program)(kt vt:TypeId)(d:MD)(k:T)(ok:Bool):R1:=match zHh .a d.K k,qJo P vt with
 | some key,some z=>(match zHh d.g d.V z with
  | some z0=>bif xR P kt d.K then val (okT ok (unT d.g d.V (jJ d.K z0 key d.l)) (zQr d.K key d.l))else none
  | none=>none)
 | _,_=>none
noncomputable def zFf(P:Program)(H:List TO)(t:TypeId)(m k:T)(ok:Bool):R1:=match zEp P t,zHm H m,sOf k with
 | some (kt,vt),some l,some kv=>bif kOk P (emp l) kt kv then(match zHx P kt kv l with
  | some (some i)=>(match qOo l i with | some x=>val (okT ok x true) | none=>none)
  | some none=>(match qJo P vt with | some z=>val (okT ok z false) | none=>none)
  | none=>none)else none
 | _,_,_=>none
noncomputable def zKn(P:Program)(H:List TO)(t:TypeId)(m k:T)(ok:Bool):R1:=match dOf H m with
 | some d=>(match zEp P t with
  | some (kt,vt)=>lkD P kt vt d k ok
  | none=>none)
 | none=>zFf P H t m k ok
noncomputable def qDa(H:List TO)(m:T):R1:=match dOf H m with
 | some d=>val (.v (.int .i64 (.ofNat d.l.length)))
 | none=>(match zHm H m with
  | some l=>val (.v (.int .i64 (.ofNat (ln l))))
  | none=>none)
noncomputable def zCd(P:Program)(H:List TO)(ρ:Operand→T)(c:Call):R1:=match c.callee,c.args.toList,c.argTypes.toList with
 | .builtin .len,[x],[t]=>(match elT P t with
  | some _=>qPh (ρ x)
  | none=>(match zEp P t with
   | some _=>qDa H (ρ x)
   | none=>none))
 | _,_,_=>none
noncomputable def yX(P:Program)(H:List TO)(k:Nat)(ρ:Operand→T)(op:Op):R1:=match op with
 | .move x=>val (ρ x)
 | .assign x=>val (ρ x)
 | .pick c a b=>zIp (ρ c) (ρ a) (ρ b)
 | .alloc e=>zRj P k e
 | .box e x=>qPg k e (ρ x)
 | .build t parts=>zRk P t (evP ρ parts)
 | .buildSlice t n parts=>lL P k t n (evP ρ parts)
 | .load t a=>aN P H t (ρ a)
 | .nilCheck x=>qIp (ρ x)
 | .binOp op t x y _=>zWt P op t (dn (ρ x)) (dn (ρ y))
 | .makeFunc fn first caps=>pMkF fn (first.toList.map ρ) (caps.toList.map ρ)
 | .makeSlice t l c=>qDd P k t (ρ l) (ρ c)
 | .slice t x lo hi mx=>sP P t (dn (ρ x)) (fun y=>dn (ρ y)) lo hi mx
 | .fieldAddr s x f=>nP P s (ρ x) f
 | .field s x f=>zKm P s (ρ x) f
 | .indexAddr t x i=>vQ P t (dn (ρ x)) (dn (ρ i))
 | .index t x i=>qIm P t (dn (ρ x)) (dn (ρ i))
 | .extract x i=>aM (ρ x) i
 | .call c=>zCd P H (fun y=>dn (ρ y)) c
 | .makeMap _ none=>some (.om k,some (.map []))
 | .lookup t m x ok=>zKn P H t (ρ m) (ρ x) ok
 | _=>none
noncomputable def zXc(H:List TO)(i o:Nat)(vs:List T):Option (List TO):=match nth .gone H i with
 | .row cs e=>bif Nat.ble (o+ln vs) (ln cs)then some (put (.row (jE cs o vs) e) H i)else none
 | .gro cs e=>bif Nat.ble (o+ln vs) (ln cs.list)then some (put (.gro (.l (jE cs.list o vs)) e) H i)else none
 | _=>none
noncomputable def qLz(H:List TO)(e:TypeId)(y:T)(a b:List T)(n m:Nat):T×List TO:=(.og (ln H) 0 (n+m),H++[.gro ((Cs.l a).apY y b) e])
noncomputable def qFd(H:List TO)(x:T):Option (T×List TO):=match x with
 | .v _=>some (x,H)
 | .og .. =>some (x,H)
 | .os _ _ n c=>bif Nat.ble n c then some (x,H)else none
 | .st .. =>some (x,H)
 | _=>none
noncomputable def qLy(H:List TO)(e:TypeId)(s:Nat)(y:T)(a b:List T)(i o n m:Nat):TO→Option (T×List TO)
 | .gro cs e'=>bif Nat.beq o 0&&(Nat.beq (ln cs.list) (n*s)&&Nat.beq e e')then some (.og (ln H) 0 (n+m),put .gone H i++[.gro (cs.apY y b) e])else none
 | _=>none
noncomputable def qFf(H:List TO)(e:TypeId)(s:Nat)(y:T)(a b:List T)(n m:Nat)(x:T):Option (T×List TO):=match x with
 | .v _=>some (qLz H e y a b n m)
 | .st .. =>some (qLz H e y a b n m)
 | .os _ _ n' c=>bif Nat.beq n' c then some (qLz H e y a b n m)else none
 | .og i o n=>qLy H e s y a b i o n m (nth .gone H i)
 | _=>none
noncomputable def apM(b:Nat):Nat:=(281474976710656 / b-192)*4 / 5
noncomputable def bG(P:Program)(e:TypeId)(s N:Nat):Bool:=match P.info? e,zer P e with
 | some i,some z=>Nat.beq (ln z) s&&(Nat.ble N (apM i.bytes)&&Nat.blt 0 s)
 | _,_=>false
noncomputable def zPz(P:Program)(H:List TO)(t:TypeId)(x y:T):Option (T×List TO):=match elT P t with
 | none=>none
 | some e=>match ldT P e with
  | none=>none
  | some (_,s)=>match zX H s x,zX H s y,qV x,qV y with
   | some a,some b,some n,some m=>bif Nat.beq m 0 then qFd H x else bif bG P e s (n+m)&&kY b then qFf H e s y a b n m x else none
   | _,_,_,_=>none
noncomputable def qJd(P:Program)(H:List TO)(t:TypeId)(a x:T):Option (List TO):=match ldT P t,a with
 | some (_,m),.op i o=>bif kY (cellsOf x)&&Nat.beq (ln (cellsOf x)) m then zXc H i o (cellsOf x)else none
 | _,_=>none
noncomputable def qQy(P:Program)(kt:TypeId)(kv:Value)(x:T)(l:List (Value×T)):Option (List (Value×T)):=bif kOk P false kt kv then(match zHx P kt kv l with
 | some (some i)=>(match l[i]? with
  | some e=>bif Instr.sameBits 10000 e.1 kv then some (put (kv,x) l i)else none
  | none=>none)
 | some none=>some (l++[(kv,x)])
 | none=>none)else none
noncomputable def qQx(P:Program)(kt:TypeId)(d:MD)(k x:T):Option MD:=match zHh .a d.K k,zHh d.g d.V x with
 | some key,some y=>bif xR P kt d.K then some ⟨d.g,d.K,d.V,dC d.K key y d.l⟩else none
 | _,_=>none
noncomputable def qJk(P:Program)(H:List TO)(t:TypeId)(m k x:T):Option (List TO):=match m with
 | .om i=>(match nth .gone H i with
  | .map l=>(match zEp P t,sOf k with
   | some (kt,_),some kv=>(match qQy P kt kv x l with
    | some l=>some (put (.map l) H i)
    | none=>none)
   | _,_=>none)
  | .mapd d=>(match zEp P t with
   | some (kt,_)=>(match qQx P kt d k x with
    | some d=>some (put (.mapd d) H i)
    | none=>none)
   | none=>none)
  | _=>none)
 | _=>none
noncomputable def qFs(P:Program)(H:List TO)(t:TypeId)(x y:T):Option (T×List TO):=match x with
 | .os i o n _=>(match elT P t with
  | some e=>(match ldT P e with
   | some (_,s)=>(match zX H s y,qV y with
    | some b,some m=>(match jC (Nat.min m n*s) b with
     | some us=>bif kY us&&Nat.blt 0 (Nat.min m n*s)then(match zXc H i o us with | some H'=>some (.v (.int .i64 (.ofNat (Nat.min m n))),H') | none=>none)else none
     | none=>none)
    | _,_=>none)
   | none=>none)
  | none=>none)
 | _=>none
noncomputable def zAk(P:Program)(H:List TO)(ρ:Operand→T)(op:Op):Option (Option T×List TO):=match op with
 | .store t a x=>(match qJd P H t (ρ a) (ρ x)with | some H=>some (none,H) | none=>none)
 | .mapUpdate t m k x=>(match qJk P H t (ρ m) (ρ k) (ρ x)with | some H=>some (none,H) | none=>none)
 | .call c=>(match c.callee,c.args.toList,c.argTypes.toList with
  | .builtin .append,[x,y],[t,t']=>bif Nat.beq t t' then(match zPz P H t (ρ x) (ρ y)with | some (v,H)=>some (some v,H) | none=>none)else none
  | .builtin .copy,[x,y],[t,_]=>(match qFs P H t (ρ x) (ρ y)with | some (v,H)=>some (some v,H) | none=>none)
  | _,_,_=>none)
 | _=>none
noncomputable def zPh(ρ:Operand→T):List Operand→Bool
 | []=>true
 | x::l=>(match sOf (ρ x)with | some _=>zPh ρ l | none=>false)
noncomputable def sAt(ρ:Operand→T)(x:Operand):Value:=match sOf (ρ x)with
 | some v=>v
 | none=>undef
noncomputable def qBq:Option Next→Option T
 | some (.value v)=>some (ofC v)
 | _=>none
noncomputable def aG(P:Program)(ρ:Operand→T)(o:Oper):Option T:=bif zOb o.op&&zPh ρ o.op.operands.toList then qBq (zGs P (execOp (sAt ρ) o))else none
noncomputable def yK(ops:Array Oper)(L:List T)(o:Oper):Option Bool:=match o.guard with
 | none=>some true
 | some (j,b)=>match(match ops[j]? with | some p=>p.dst | none=>none)with
  | some t=>(match nth .u L t with
   | .v (.bool c)=>some (zVj c b)
   | .v (.int .u8 _)=>none
   | .tu []=>some false
   | _=>none)
  | none=>none
noncomputable def dst(d:Option Nat)(t:T)(L:List T):List T:=match d with
 | some d=>put t L d
 | none=>L
abbrev Cl:=Nat→List T→List TO→Option (T×List TO)
abbrev Po:=Nat→List T→Option (T×Bool)
abbrev Oo:=List TO→Nat→List T→Option T
abbrev Rn:=Code→S→Option (Ex×S)
noncomputable def zNb(d:Option Nat)(L:List T)(H:List TO)(r:T×Option TO):Option S:=match r.2 with
 | none=>some ⟨dst d r.1 L,H⟩
 | some ob=>some ⟨dst d r.1 L,H++[ob]⟩
noncomputable def zNc(d:Option Nat)(L:List T)(r:Option T×List TO):Option S:=match r.1 with
 | some t=>some ⟨dst d t L,r.2⟩
 | none=>(match d with
  | none=>some ⟨L,r.2⟩
  | some _=>none)
noncomputable def mY(d:Option Nat)(L:List T):Option (T×List TO)→Option S
 | some (t,H)=>some ⟨dst d t L,H⟩
 | none=>none
noncomputable def jF(P:Program)(f:Nat):Bool:=match P.funcs[f]? with
 | some fn=>bif fn.name== "runtime.NumGoroutine" then false else fn.body.isSome
 | none=>false
noncomputable def zBx(P:Program)(cl yd:Cl)(d:Option Nat)(L:List T)(H:List TO)(az:List T):T→Option S
 | .fn f cs=>bif jF P f then mY d L (cl f (az++cs) H)else none
 | .fb f bs=>bif jF P f then mY d L (cl f (bs++az) H)else none
 | .yl l=>mY d L (yd l az H)
 | _=>none
noncomputable def opC(P:Program)(cl yd:Cl)(d:Option Nat)(L:List T)(H:List TO):Op→Option S
 | .call c=>(match c.callee with
  | .value f=>zBx P cl yd d L H (c.args.toList.map (evO L)) (evO L f)
  | _=>none)
 | _=>none
noncomputable def qCd(P:Program)(o:Oper)(L:List T)(H:List TO):Option S:=match aG P (evO L) o with
 | some t=>some ⟨dst o.dst t L,H⟩
 | none=>none
noncomputable def zOf(P:Program)(cl yd:Cl)(o:Oper)(L:List T)(H:List TO):Option S:=match zAk P H (evO L) o.op with
 | some r=>zNc o.dst L r
 | none=>match opC P cl yd o.dst L H o.op with
  | some s=>some s
  | none=>qCd P o L H
noncomputable def lJ(P:Program)(cl yd:Cl)(o:Oper)(L:List T)(H:List TO):Option S:=match yX P H (ln H) (evO L) o.op with
 | some r=>zNb o.dst L H r
 | none=>zOf P cl yd o L H
noncomputable def opE(P:Program)(cl yd:Cl)(ops:Array Oper)(o:Oper)(s:S):Option S:=match yK ops s.L o with
 | none=>none
 | some false=>some ⟨dst o.dst (.tu []) s.L,s.H⟩
 | some true=>lJ P cl yd o s.L s.H
noncomputable def zOk(P:Program)(cl yd:Cl)(ops:Array Oper):List Oper→S→Option S
 | [],s=>some s
 | o::l,s=>match opE P cl yd ops o s with
  | some s=>zOk P cl yd ops l s
  | none=>none
noncomputable def yR:Op→Bool
 | .defer _=>false
 | _=>true
noncomputable def qPj(L:List T):Op→Option T
 | .panic x=>(match evO L x with
  | .v (.iface t (.int k n))=>some (.v (.iface t (.int k n)))
  | _=>none)
 | _=>none
noncomputable def qMk(P:Program)(pc:Cl)(s:S):Op→Option (T×List TO)
 | .call c=>(match c.callee with
  | .value f=>(match evO s.L f with
   | .fn f cs=>bif jF P f then pc f (c.args.toList.map (evO s.L)++cs) s.H else none
   | .fb f bs=>bif jF P f then pc f (bs++c.args.toList.map (evO s.L)) s.H else none
   | _=>none)
  | _=>none)
 | _=>none
noncomputable def qNg(L:List T):Option (T×List TO)→Option (Ex×S)
 | some (t,H)=>some (.p t,⟨L,H⟩)
 | none=>none
noncomputable def opP(P:Program)(pc:Cl)(ops:Array Oper)(o:Oper)(s:S):Option (Ex×S):=match yK ops s.L o with
 | some true=>(match qPj s.L o.op with
  | some t=>some (.p t,s)
  | none=>qNg s.L (qMk P pc s o.op))
 | _=>none
noncomputable def qCp(P:Program)(cl yd pc:Cl)(ops:Array Oper):List Oper→S→Option (Ex×S)
 | [],s=>some (.n,s)
 | o::l,s=>match opE P cl yd ops o s with
  | some s=>qCp P cl yd pc ops l s
  | none=>opP P pc ops o s
noncomputable def zWn(P:Program)(cl yd:Cl)(ops:Array Oper):List Oper→S→Option (T×S)
 | [],_=>none
 | o::l,s=>bif yR o.op then(match opE P cl yd ops o s with
  | some s=>zWn P cl yd ops l s
  | none=>none)else(match l,o.op,o.guard,o.dst with
   | [],.defer c,none,none=>(match c.callee,c.args.toList with
    | .value f,[]=>(match evO s.L f with
     | .fn f cs=>bif jF P f then some (.fn f cs,s)else none
     | _=>none)
    | _,_=>none)
   | _,_,_,_=>none)
noncomputable def qIz(P:Program)(H:List TO)(x:T)(e:TypeId):Option T:=match ldT P e with
 | some (g,s)=>(match dG H x with
  | some cs=>(match jC s cs with
   | some cs=>bif g||Nat.beq s 1 then some (mkT g cs)else none
   | none=>none)
  | none=>none)
 | none=>none
noncomputable def lN(P:Program)(L:List T)(H:List TO):List ResultVar→Option (List T)
 | []=>some []
 | .tmp t::l=>(match lN P L H l with | some r=>some (nth .u L t::r) | none=>none)
 | .cell t e::l=>(match qIz P H (nth .u L t) e,lN P L H l with
  | some x,some r=>some (x::r)
  | _,_=>none)
noncomputable def zOq:List T→T
 | [t]=>t
 | l=> .tu l
noncomputable def us:Nat→List T
 | 0=>[]
 | n+1=> .u::us n
noncomputable def rest(n:Nat)(az:List T):List T:=az++us (n-ln az)
noncomputable def zGr:List T→List Nat→List T→List T
 | L,p::ps,a::az=>zGr (put a L p) ps az
 | L,_,_=>L
noncomputable def zPc(P:Program)(fn:Func):Option (Ex×S)→Option (T×List TO)
 | some (.x _,_)=>none
 | some (.p _,_)=>none
 | some (_,s)=>(match lN P s.L s.H fn.results.toList with
  | some r=>some (zOq r,s.H)
  | none=>none)
 | none=>none
noncomputable def clean:Nat→T→Bool
 | 0,_=>false
 | k+1,t=>match t with
  | .v _=>true
  | .ls g _ _=>g.isA
  | .sl cs _=>cs.all (clean k)
  | .st cs _=>cs.all (clean k)
  | .fp cs=>cs.all (clean k)
  | .ag cs=>cs.all (clean k)
  | .tu cs=>cs.all (clean k)
  | .fn _ cs=>cs.all (clean k)
  | _=>false
noncomputable def kX(f:T→Option T):List T→Option (List T)
 | []=>some []
 | t::l=>match f t,kX f l with
  | some x,some r=>some (x::r)
  | _,_=>none
noncomputable def lG:Ty→Bool
 | .lim=>false
 | .prod A B=>lG A&&lG B
 | _=>true
noncomputable def zQp(nw:Bool)(o n:Nat):TO→Option T
 | .gro (.d g A x) _=>bif(Nat.beq o 0&&(lG A&&(!nw||g.isN)))&&Nat.beq n x.length then some (.ls .a A x.reverse)else none
 | _=>none
noncomputable def jI(nw:Bool)(H:List TO):Nat→T→Option T
 | 0,_=>none
 | k+1,t=>match t with
  | .v x=>some (.v x)
  | .ls g A l=>bif nw then(bif g.isN then some (.ls .a A l)else none)else some (.ls .a A l)
  | .sl cs n=>bif nw then(match cs,n with | [],0=>some (.sl [] 0) | _,_=>none)else(bif clean 9 (.sl cs n)then some (.sl cs n)else none)
  | .sn cs n=>(match kX (jI nw H k) cs with | some l=>some (.sl l n) | none=>none)
  | .st cs n=>bif nw then(match cs,n with | [],0=>some (.st [] 0) | _,_=>none)else(bif clean 9 (.st cs n)then some (.st cs n)else none)
  | .fp cs=>bif nw then none else(bif clean 9 (.fp cs)then some (.fp cs)else none)
  | .ag cs=>(match kX (jI nw H k) cs with | some l=>some (.ag l) | none=>none)
  | .tu cs=>(match kX (jI nw H k) cs with | some l=>some (.tu l) | none=>none)
  | .fn f cs=>(match kX (jI nw H k) cs with | some l=>some (.fn f l) | none=>none)
  | .os i o n c=>bif Nat.ble n c&&Nat.ble c 9223372036854775807 then(match wZ (nth .gone H i)with
   | some cs=>(match kX (jI nw H k) (qX cs o)with | some l=>some (.sl l n) | none=>none)
   | none=>none)else none
  | .og i o n=>(match zQp nw o n (nth .gone H i)with
   | some t=>some t
   | none=>(match wZ (nth .gone H i)with
    | some cs=>(match kX (jI nw H k) (qX cs o)with | some l=>some (.sl l n) | none=>none)
    | none=>none))
  | .op i o=>(match wZ (nth .gone H i)with
   | some cs=>(match kX (jI nw H k) (qX cs o)with | some l=>some (.fp l) | none=>none)
   | none=>none)
  | _=>none
noncomputable def qCy:Nat→T→Bool
 | 0,_=>true
 | k+1,t=>match t with
  | .os .. | .og .. | .op .. | .om _ | .yl _=>true
  | .ag cs=>cs.any (qCy k)
  | .tu cs=>cs.any (qCy k)
  | .fn _ cs=>cs.any (qCy k)
  | .fb _ cs=>cs.any (qCy k)
  | _=>false
noncomputable def zWr(l:List T):Bool:=l.any (qCy 6)
noncomputable def poC(po:Po)(H:List TO)(f:Nat)(az:List T):Option T:=bif zWr az then(match kX (jI false H 12) az with
  | some az2=>(match po f az2 with
   | some (t,true)=>some (mkN 12 t)
   | _=>none)
  | none=>none)
 else(match po f az with
  | some (t,nw)=>some (bif nw then mkN 12 t else t)
  | none=>none)
noncomputable def endY(l:Nat):Option (Ex×S)→Option (T×List TO)
 | some (e,s)=>(match nth .gone s.H l with
  | .loop L ps a b false none=>(match e with
   | .n=>some (.v (.bool true),put (.loop L ps a b true none) s.H l)
   | .r=>some (.v (.bool false),put (.loop L ps a b false (some .ret)) s.H l)
   | .x id=>some (.v (.bool false),put (.loop L ps a b false (some (.exit id))) s.H l)
   | .p _=>none)
  | _=>none)
 | none=>none
noncomputable def qKh(rn:Rn)(l:Nat)(b0:Code):Option (Ex×S)→Option (T×List TO)
 | some (.n,s)=>(match nth .gone s.H l with
  | .loop L ps a b true none=>endY l (rn b0 ⟨s.L,put (.loop L ps a b false none) s.H l⟩)
  | _=>none)
 | _=>none
noncomputable def zGg(rn:Rn):Cl:=fun l az H=>match nth .gone H l with
 | .loop L ps a b true none=>bif Nat.beq (ln ps) (ln az)then qKh rn l b (rn a ⟨zGr L ps az,H⟩)else none
 | _=>none
noncomputable def zCu(rn:Rn)(y:Code):Option (Ex×S)→Option (Ex×S)
 | some (.n,s)=>rn y s
 | r=>r
noncomputable def qKj(rn:Rn)(x y:Code)(s:S):T→Option (Ex×S)
 | .v (.bool b)=>rn (bif b then x else y) s
 | _=>none
noncomputable def zVl(id:Nat):Option (Ex×S)→Option (Ex×S)
 | some (.x j,s)=>some (bif Nat.beq j id then .n else .x j,s)
 | r=>r
noncomputable def qIy:Option S→Option (Ex×S)
 | some s=>some (.n,s)
 | none=>none
noncomputable def qNc(l:Nat)(L:List T):Option (T×List TO)→Option (Ex×S)
 | some (_,H)=>(match nth .gone H l with
  | .loop _ _ _ _ true none=>some (.n,⟨L,put .gone H l⟩)
  | .loop _ _ _ _ false (some .ret)=>some (.r,⟨L,put .gone H l⟩)
  | .loop _ _ _ _ false (some (.exit id))=>some (.x id,⟨L,put .gone H l⟩)
  | _=>none)
 | none=>none
noncomputable def qPz(P:Program)(cl:Cl)(ps:List Nat)(a b:Code)(L:List T)(H:List TO):T→Option (Ex×S)
 | .fn f cs=>bif jF P f then qNc (ln H) L (cl f (.yl (ln H)::cs) (H++[.loop L ps a b true none]))else none
 | _=>none
noncomputable def noR:Code→Bool
 | .seq x y=>noR x&&noR y
 | .cond _ x y=>noR x&&noR y
 | .block _ x=>noR x
 | .loop x=>noR x
 | .rangeFunc .. =>false
 | .scope _=>false
 | _=>true
noncomputable def lI(ops:Array Oper):Bool:=ops.toList.all fun o=>yR o.op
noncomputable def zNp(o:Oper):Bool:=match o.op with
 | .call c=>(match c.callee,c.args.toList with
  | .builtin .recover,[]=>true
  | _,_=>false)
 | _=>false
noncomputable def noG(o:Oper):Bool:=match o.guard with
 | none=>true
 | some _=>false
noncomputable def zJl:List Nat→List Nat→Bool
 | [],[]=>true
 | a::l,b::m=>Nat.beq a b&&zJl l m
 | _,_=>false
noncomputable def zUk(ops:Array Oper):Bool:=
 zJl (Region.ready .any ops #[false,false,false,false]) [0,1]&&(zJl (Region.ready .any ops #[true,false,false,false]) [1]&&(zJl (Region.ready .any ops #[false,true,false,false]) [0]&&
 (zJl (Region.ready .any ops #[true,true,false,false]) [2]&&(zJl (Region.ready .any ops #[true,true,true,false]) [3]&&zJl (Region.ready .any ops #[true,true,true,true]) []))))
noncomputable def qIx(P:Program)(cl yd:Cl)(ops:Array Oper)(x:T)(s:S):Option S:=match ops.toList with
 | [o0,o1,o2,o3]=>bif zNp o0&&(noG o0&&(noG o1&&(zUk ops&&(yR o2.op&&yR o3.op))))then(match o0.dst,o1.dst,o1.op with
  | some d0,some d1,.load t (.tmp a)=>bif !Nat.beq d0 d1&&!Nat.beq d0 a then(match aN P s.H t (nth .u s.L a)with
   | some (z,none)=>zOk P cl yd ops [o2,o3] ⟨put z (put x s.L d0) d1,s.H⟩
   | _=>none)else none
  | _,_,_=>none)else none
 | _=>none
noncomputable def zQf(P:Program)(cl yd:Cl)(rn:Rn)(x:T)(H:List TO):T→Option (List TO)
 | .fn f cs=>(match P.funcs[f]? with
  | some fn=>(match fn.body,fn.results.toList with
   | some (.seq (.region _ ops true) c),[]=>bif Nat.ble (ln cs) fn.ntmps&&noR c then(match qIx P cl yd ops x ⟨rest fn.ntmps cs,H⟩with
    | some s=>(match rn c s with
     | some (.n,s)=>some s.H
     | some (.r,s)=>some s.H
     | _=>none)
    | none=>none)else none
   | _,_=>none)
  | none=>none)
 | _=>none
noncomputable def zWe(P:Program)(fn:Func)(s:S):Option (List TO)→Option (T×List TO)
 | some H=>(match lN P s.L H fn.results.toList with
  | some r=>some (zOq r,H)
  | none=>none)
 | none=>none
noncomputable def zVq(P:Program)(cl yd:Cl)(rn:Rn)(fn:Func)(g:T):Option (Ex×S)→Option (T×List TO)
 | some (.n,s)=>zWe P fn s (zQf P cl yd rn (.v .nilIface) s.H g)
 | some (.r,s)=>zWe P fn s (zQf P cl yd rn (.v .nilIface) s.H g)
 | some (.p t,s)=>zWe P fn s (zQf P cl yd rn t s.H g)
 | _=>none
noncomputable def defE(P:Program)(cl yd:Cl)(rn:Rn)(fn:Func)(s:S):Code→Option (T×List TO)
 | .seq c0 (.seq (.region _ ops false) c2)=>(match rn c0 s with
  | some (.n,s)=>(match zWn P cl yd ops ops.toList s with
   | some (g,s)=>zVq P cl yd rn fn g (rn c2 s)
   | none=>none)
  | _=>none)
 | _=>none
noncomputable def sJ(P:Program)(rn:Rn)(f:Nat)(az:List T)(H:List TO):Option (T×List TO):=match P.funcs[f]? with
 | none=>none
 | some fn=>match fn.body with
  | none=>none
  | some c=>bif Nat.ble (ln az) fn.ntmps then zPc P fn (rn c ⟨rest fn.ntmps az,H⟩)else none
noncomputable def zQl(P:Program)(rn:Rn)(f:Nat)(az:List T)(H:List TO):Option (T×List TO):=match P.funcs[f]? with
 | none=>none
 | some fn=>match fn.body with
  | none=>none
  | some c=>bif Nat.ble (ln az) fn.ntmps then defE P (sJ P rn) (fun _ _ _=>none) rn fn ⟨rest fn.ntmps az,H⟩ c else none
noncomputable def mU(P:Program)(rn:Rn)(f:Nat)(az:List T)(H:List TO):Option (T×List TO):=match sJ P rn f az H with
 | some r=>some r
 | none=>zQl P rn f az H
noncomputable def zWx:Option (Ex×S)→Option (T×List TO)
 | some (.p t,s)=>some (t,s.H)
 | _=>none
noncomputable def zQm(P:Program)(rn:Rn):Cl:=fun f az H=>match P.funcs[f]? with
 | none=>none
 | some fn=>match fn.body with
  | none=>none
  | some c=>bif Nat.ble (ln az) fn.ntmps then zWx (rn c ⟨rest fn.ntmps az,H⟩)else none
noncomputable def zHc(P:Program)(SO:Oo)(O:Po)(rn:Rn):Cl:=fun f az H=>match SO H f az with
 | some r=>some (r,H)
 | none=>match poC O H f az with
  | some r=>some (r,H)
  | none=>mU P rn f az H
noncomputable def nX:Nat→List TO
 | 0=>[]
 | n+1=> .gone::nX n
noncomputable def zZy(H:List TO)(t:T):Option (T×Bool):=match jI true H 12 t with
 | some t=>some (t,true)
 | none=>match jI false H 12 t with
  | some t=>some (t,false)
  | none=>none
noncomputable def yC(P:Program)(rn:Rn)(k:Nat):Po:=fun f az=>match mU P rn f (az.map (unN 12)) (nX k)with
 | some (t,H)=>zZy H t
 | none=>none
noncomputable def zFk(P:Program)(O:Po)(rn:Rn)(k:Nat):Po:=fun f az=>match O f az with
 | some t=>some t
 | none=>yC P rn k f az
noncomputable def nY(P:Program)(po:Po)(H:List TO)(L:List T):Op→Option T
 | .call c=>(match c.callee with
  | .value f=>(match evO L f with
   | .fn f cs=>bif jF P f then poC po H f (c.args.toList.map (evO L)++cs)else none
   | _=>none)
  | _=>none)
 | _=>none
noncomputable def zYl(H0 Hn:List TO)(e:TypeId)(s:Nat)(kq:Option Nat)(x:T):Option (Cs×Nat):=match kq with
 | none=>(match x with
  | .v (.slice none 0 0)=>some (.l [],0)
  | .os _ _ n c=>bif Nat.beq n c then(match zX Hn s x with | some a=>some (.l a,n) | none=>none)else none
  | .st _ n=>(match zX Hn s x with | some a=>some (.l a,n) | none=>none)
  | _=>none)
 | some q=>(match x with
  | .og i o n=>bif Nat.beq i q&&Nat.beq o 0 then(match nth .gone H0 i with
   | .gro cs e'=>bif Nat.beq (ln cs.list) (n*s)&&Nat.beq e e' then some (cs,n)else none
   | _=>none)else none
  | _=>none)
noncomputable def zVh(P:Program)(H0 Hn:List TO)(kq:Option Nat)(t:TypeId)(x y:T):R1:=match elT P t with
 | none=>none
 | some e=>match ldT P e with
  | none=>none
  | some (_,s)=>match zYl H0 Hn e s kq x,zX Hn s y,qV y with
   | some (a,nx),some b,some ny=>bif !Nat.beq ny 0&&(bG P e s (nx+ny)&&kY b)then some (.og (ln Hn) 0 (nx+ny),some (.gro (a.apY y b) e))else none
   | _,_,_=>none
noncomputable def zGk(P:Program)(H0 Hn:List TO)(kq:Option Nat)(L:List T):Op→R1
 | .call c=>(match c.callee,c.args.toList,c.argTypes.toList with
  | .builtin .append,[x,y],[t,t']=>bif Nat.beq t t' then zVh P H0 Hn kq t (evO L x) (evO L y)else none
  | _,_,_=>none)
 | _=>none
noncomputable def tH(L:List T):Op→Option Nat
 | .call c=>(match c.callee,c.args.toList with
  | .builtin .append,[x,_]=>(match evO L x with
   | .og q _ _=>some q
   | _=>none)
  | _,_=>none)
 | _=>none
noncomputable def rP(P:Program)(po:Po)(H0 H Hn:List TO)(L:List T)(o:Oper):R1:=match tH L o.op with
 | some q=>zGk P H0 Hn (some q) L o.op
 | none=>match yX P H (ln Hn) (evO L) o.op with
  | some z=>some z
  | none=>match nY P po Hn L o.op with
   | some t=>some (t,none)
   | none=>match zGk P H0 Hn none L o.op with
    | some z=>some z
    | none=>match aG P (evO L) o with
     | some t=>some (t,none)
     | none=>none
noncomputable def kD(P:Program)(po:Po)(H0 H Hn:List TO)(L:List T)(ops:Array Oper)(o:Oper):R1:=match yK ops L o with
 | none=>none
 | some false=>some (.tu [],none)
 | some true=>rP P po H0 H Hn L o
noncomputable def nxH(H:List TO):Option TO→List TO
 | none=>H
 | some ob=>H++[ob]
noncomputable def zPj(o:Oper)(seen:List Nat):List Nat:=(match o.dst with | some d=>[d] | none=>[])++(o.op.operands.toList.filterMap (fun | .tmp t=>some t | _=>none)++seen)
noncomputable def zLh(o:Oper)(seen:List Nat):Bool:=match o.dst with
 | some d=>seen.any (Nat.beq d)
 | none=>false
noncomputable def wB(P:Program)(po:Po)(H0 H:List TO)(ops:Array Oper):List Oper→List Nat→List TO→List T→List (T×Option TO)
 | [],_,_,_=>[]
 | o::l,seen,Hn,L=>bif zLh o seen then[]else match kD P po H0 H Hn L ops o with
  | some z=>z::wB P po H0 H ops l (zPj o seen) (nxH Hn z.2) (dst o.dst z.1 L)
  | none=>[]
noncomputable def yD:List Oper→List (T×Option TO)→List T→List T
 | o::l,z::rs,L=>yD l rs (dst o.dst z.1 L)
 | _,_,L=>L
noncomputable def zZ:List (T×Option TO)→List TO
 | []=>[]
 | (_,some ob)::rs=>ob::zZ rs
 | (_,none)::rs=>zZ rs
noncomputable def zSc(o:Oper)(i:Nat):Bool:=o.after.toList.any fun e=>Region.binds .any e&&Nat.beq e.on i
noncomputable def wrt(t:Nat):List Oper→Nat→Option Nat
 | [],_=>none
 | o::l,i=>match o.dst with
  | some d=>bif Nat.beq d t then some i else wrt t l (i+1)
  | none=>wrt t l (i+1)
noncomputable def zBm(hd:List Oper)(o:Oper)(i t:Nat):Bool:=match wrt t hd 0 with
 | none=>true
 | some j=>Nat.blt j i&&zSc o j
noncomputable def qCn(hd:List Oper)(o:Oper)(i:Nat):Operand→Bool
 | .tmp t=>zBm hd o i t
 | _=>true
noncomputable def qAh(ops:Array Oper)(hd:List Oper)(o:Oper)(i:Nat):Bool:=match o.guard with
 | none=>true
 | some (j,_)=>match ops[j]? with
  | some p=>(match p.dst with
   | some t=>zBm hd o i t
   | none=>true)
  | none=>true
noncomputable def zEi(ops:Array Oper)(hd:List Oper):List Oper→Nat→Bool
 | [],_=>true
 | o::l,i=>(o.op.operands.toList.all (qCn hd o i)&&qAh ops hd o i)&&((match o.dst with
  | some d=>(match wrt d l 0 with
   | none=>true
   | some _=>false)
  | none=>true)&&zEi ops hd l (i+1))
noncomputable def zEq(acc:List Nat):List Edge→Nat
 | []=>0
 | e::l=>bif Region.binds .any e then Nat.lor (Nat.lor (Nat.pow 2 e.on) (nth 0 acc e.on)) (zEq acc l)else zEq acc l
noncomputable def xX:List Oper→List Nat→List Nat
 | [],acc=>acc
 | o::l,acc=>xX l (acc++[zEq acc o.after.toList])
noncomputable def jL(o:Oper):Bool:=(match o.guard with | none=>true | some _=>false)&&(match o.op with
 | .move _=>true
 | .assign _=>true
 | .pick .. =>true
 | .nilCheck _=>true
 | .binOp .. =>true
 | .unOp .. =>true
 | .convert .. =>true
 | .slice .. =>true
 | .fieldAddr .. =>true
 | .field .. =>true
 | .indexAddr .. =>true
 | .index .. =>true
 | .extract .. =>true
 | _=>false)
noncomputable def lH(d:Nat):Operand→Bool
 | .tmp t=>!Nat.beq t d
 | _=>true
noncomputable def dF(ops:Array Oper)(o p:Oper):Bool:=match p.dst with
 | none=>false
 | some d=>o.op.operands.toList.all (lH d)&&((match o.guard with
  | none=>true
  | some (j,_)=>(match ops[j]? with
   | some g=>(match g.dst with
    | some t=>!Nat.beq t d
    | none=>true)
   | none=>true))&&(match o.dst with
  | none=>true
  | some x=>!Nat.beq x d&&p.op.operands.toList.all (lH x)))
noncomputable def eqV:Value→Value→Bool
 | .int j a,.int k b=>Nat.beq (kind j) (kind k)&&ieq a b
 | .bool a,.bool b=>zVj a b
 | .slice none 0 0,.slice none 0 0=>true
 | .pointer none,.pointer none=>true
 | .map none,.map none=>true
 | _,_=>false
noncomputable def mW(e:T→T→Bool):List T→List T→Bool
 | [],[]=>true
 | a::l,b::m=>e a b&&mW e l m
 | _,_=>false
noncomputable def eqU:Nat→T→T→Bool
 | 0,_,_=>false
 | k+1,a,b=>match a,b with
  | .v x,.v y=>eqV x y
  | .sl cs n,.sl ds m=>Nat.beq n m&&mW (eqU k) cs ds
  | .st cs n,.st ds m=>Nat.beq n m&&mW (eqU k) cs ds
  | .fp cs,.fp ds=>mW (eqU k) cs ds
  | .ag cs,.ag ds=>mW (eqU k) cs ds
  | .tu cs,.tu ds=>mW (eqU k) cs ds
  | .fn f cs,.fn g ds=>Nat.beq f g&&mW (eqU k) cs ds
  | .os i o n c,.os i' o' n' c'=>Nat.beq i i'&&(Nat.beq o o'&&(Nat.beq n n'&&Nat.beq c c'))
  | .og i o n,.og i' o' n'=>Nat.beq i i'&&(Nat.beq o o'&&Nat.beq n n')
  | .op i o,.op i' o'=>Nat.beq i i'&&Nat.beq o o'
  | .om i,.om j=>Nat.beq i j
  | _,_=>false
noncomputable def dA(p:Oper):Bool:=(match p.guard with | none=>true | some _=>false)&&(match p.op with
 | .load .. =>true
 | _=>false)
noncomputable def inN(i:Nat):List Nat→Bool
 | []=>false
 | j::l=>Nat.beq j i||inN i l
noncomputable def kM(m:Nat)(ld vl:List Nat)(i:Nat)(p:Oper):Bool:=bif Nat.blt i m then jL p||(dA p&&inN i ld)else jL p&&inN i vl
noncomputable def wfr(o p:Oper):Bool:=match o.dst with
 | none=>true
 | some x=>(match p.dst with
  | some d=>!Nat.beq x d
  | none=>true)&&p.op.operands.toList.all (lH x)
noncomputable def slf(o:Oper):Bool:=match o.dst with
 | none=>true
 | some x=>o.op.operands.toList.all (lH x)
noncomputable def zYe(o:Oper):List Oper→Bool
 | []=>true
 | p::l=>(bif jL p||dA p then wfr o p else true)&&zYe o l
noncomputable def vlE:List Oper→List Oper→Nat→List Nat
 | _,[],_=>[]
 | pre,o::l,j=>bif jL o&&(slf o&&zYe o pre)then j::vlE (pre++[o]) l (j+1)else vlE (pre++[o]) l (j+1)
noncomputable def vlR(ops:Array Oper)(m:Nat):List Nat:=vlE (ops.toList.take m) (ops.toList.drop m) m
noncomputable def qOc(K:Nat):List Oper→Nat→List Nat
 | [],_=>[]
 | p::l,i=>bif dA p&&!Nat.testBit K i then i::qOc K l (i+1)else qOc K l (i+1)
noncomputable def andM:List Nat→Nat→Nat
 | [],k=>k
 | m::l,k=>andM l (Nat.land m k)
noncomputable def dS(ops:Array Oper)(m:Nat):List Nat:=qOc (andM ((xX ops.toList []).drop m) (Nat.sub (Nat.pow 2 m) 1)) (ops.toList.take m) 0
noncomputable def qOb(P:Program)(s:S)(p:Oper):Bool:=match p.op,p.dst with
 | .load t x,some d=>(match aN P s.H t (evO s.L x)with
  | some (z,none)=>eqU 12 z (nth .u s.L d)
  | _=>false)
 | _,_=>false
noncomputable def sD(P:Program)(ops:Array Oper)(s:S):List Nat→Bool
 | []=>true
 | i::l=>(match ops[i]? with | some p=>qOb P s p | none=>false)&&sD P ops s l
noncomputable def aB(ops:Array Oper)(m:Nat)(ld vl:List Nat)(o:Oper):List Oper→Nat→Nat
 | [],_=>0
 | p::l,i=>bif kM m ld vl i p&&dF ops o p then Nat.lor (Nat.pow 2 i) (aB ops m ld vl o l (i+1))else aB ops m ld vl o l (i+1)
noncomputable def cB(ops:Array Oper)(m:Nat)(ld vl:List Nat)(hd:List Oper):List Nat→List Oper→Nat→Bool
 | k::ks,o::l,j=>(bif Nat.beq k (Nat.sub (Nat.pow 2 j) 1)then true else Nat.beq (Nat.lor k (aB ops m ld vl o hd 0)) (Nat.sub (Nat.pow 2 j) 1))&&cB ops m ld vl (hd++[o]) ks l (j+1)
 | _,_,_=>true
noncomputable def zEa:List Oper→Nat→Bool
 | [],_=>true
 | o::l,i=>o.after.toList.all (fun e=>!Region.binds .any e||Nat.blt e.on i)&&zEa l (i+1)
noncomputable def zZm(ops:Array Oper)(m:Nat):Bool:=zEi ops (ops.toList.take m) (ops.toList.take m) 0&&(cB ops m (dS ops m) (vlR ops m) (ops.toList.take m) ((xX ops.toList []).drop m) (ops.toList.drop m) m&&zEa ops.toList 0)
noncomputable def ksE:List Oper→List (T×Option TO)→List T→List (Option Nat)
 | o::l,z::rs,L=>(match z.2 with | some _=>tH L o.op | none=>none)::ksE l rs (dst o.dst z.1 L)
 | _,_,_=>[]
noncomputable def kL:List (Option Nat)→List TO→List TO
 | [],H=>H
 | some q::ks,H=>kL ks (put .gone H q)
 | none::ks,H=>kL ks H
noncomputable def qLx:List (Option Nat)→Bool
 | []=>false
 | some _::_=>true
 | none::ks=>qLx ks
noncomputable def qAo:TO→Bool
 | .gone=>true
 | _=>false
noncomputable def zGl(q:Nat):List (Option Nat)→Bool
 | []=>false
 | some k::ks=>Nat.beq k q||zGl q ks
 | none::ks=>zGl q ks
noncomputable def zJw(H:List TO):List (Option Nat)→Bool
 | []=>true
 | some q::ks=>!zGl q ks&&(qAo (nth .gone H q)&&zJw H ks)
 | none::ks=>zJw H ks
noncomputable def lS(P:Program)(cl yd:Cl)(ops:Array Oper)(ld:List Nat):List Oper→S→Option S
 | [],s=>some s
 | o::l,s=>match opE P cl yd ops o s with
  | some s=>bif sD P ops s ld then lS P cl yd ops ld l s else none
  | none=>none
noncomputable def qQt(P:Program)(cl yd:Cl)(ops:Array Oper)(ld:List Nat)(l:List Oper)(s:S):Option S:=bif sD P ops s ld then lS P cl yd ops ld l s else none
noncomputable def drF(P:Program)(cl yd:Cl)(ops:Array Oper)(s:S)(H:List TO)(rs:List (T×Option TO)):Option S:=
 bif zZm ops (ln rs)&&zJw H (ksE ops.toList rs s.L)then qQt P cl yd ops (dS ops (ln rs)) (ops.toList.drop (ln rs)) ⟨yD ops.toList rs s.L,kL (ksE ops.toList rs s.L) s.H++zZ rs⟩else none
noncomputable def qKo(o:Oper):Bool:=match o.op with
 | .call _=>true
 | _=>false
noncomputable def tlK(ops:Array Oper)(i:Nat):Bool:=(match dS ops i with | []=>true | _=>false)&&cB ops i (dS ops i) (vlR ops i) (ops.toList.take i) ((xX ops.toList []).drop i) (ops.toList.drop i) i
noncomputable def qFt(ops:Array Oper):List Oper→List (T×Option TO)→Nat→Nat
 | o::l,rs,i=>bif qKo o&&tlK ops i then i else match rs with
  | _::rs=>qFt ops l rs (i+1)
  | []=>i
 | [],_,i=>i
noncomputable def drG(P:Program)(po:Po)(cl yd:Cl)(ops:Array Oper)(s:S)(k:Nat)(rs:List (T×Option TO)):Option S:=
 bif qLx (ksE ops.toList rs s.L)then drF P cl yd ops s (kL (ksE ops.toList rs s.L) s.H) ((wB P po s.H (kL (ksE ops.toList rs s.L) s.H) ops ops.toList [] (kL (ksE ops.toList rs s.L) s.H) s.L).take k)else drF P cl yd ops s s.H rs
noncomputable def drU(P:Program)(po:Po)(cl yd:Cl)(ops:Array Oper)(s:S)(rs:List (T×Option TO)):Option S:=
 drG P po cl yd ops s (qFt ops ops.toList rs 0) (rs.take (qFt ops ops.toList rs 0))
noncomputable def drE(P:Program)(O:Po)(rn:Rn)(cl yd:Cl)(ops:Array Oper)(s:S):Option S:=
 drU P (zFk P O rn (ln s.H+ops.size)) cl yd ops s (wB P (zFk P O rn (ln s.H+ops.size)) s.H s.H ops ops.toList [] s.H s.L)
noncomputable def vS(P:Program)(SO:Oo)(O:Po)(rn:Rn)(c:Code)(s:S):Option (Ex×S):=match c with
 | .skip=>some (.n,s)
 | .label _=>some (.n,s)
 | .seq x y=>zCu rn y (rn x s)
 | .cond c x y=>qKj rn x y s (evO s.L c)
 | .block id x=>zVl id (rn x s)
 | .exit id=>some (.x id,s)
 | .ret=>some (.r,s)
 | .scope x=>rn x s
 | .loop x=>zCu rn (.loop x) (rn x s)
 | .region _ ops false=>bif lI ops then qCp P (zHc P SO O rn) (zGg rn) (zQm P rn) ops ops.toList s else none
 | .region _ ops true=>qIy (bif lI ops then drE P O rn (zHc P SO O rn) (zGg rn) ops s else none)
 | .rangeFunc f ps a b=>bif noR a&&noR b then qPz P (zHc P SO O rn) ps.toList a b s.L s.H (evO s.L f)else none
 | _=>none
noncomputable def evC(P:Program)(SO:Oo)(O:Rn→Po):Nat→Rn
 | 0=>fun _ _=>none
 | k+1=>vS P SO (O (evC P SO O k)) (evC P SO O k)
noncomputable def noS:Oo:=fun _ _ _=>none
noncomputable def qNn(f:Nat):List Nat→Bool
 | []=>false
 | g::l=>Nat.beq g f||qNn f l
noncomputable def zQe:Option (T×Bool)→Option (T×Bool)
 | some (t,b)=>bif clean 12 t then some (t,b)else none
 | none=>none
noncomputable def orF(P:Program)(O:Po)(fs:List Nat)(rn:Rn):Po:=fun f az=>match O f az with
 | some r=>some r
 | none=>bif qNn f fs&&(az.map (unN 12)).all (clean 12)then zQe (yC P rn 0 f (az.map (unN 12)))else none
end Go.Ev

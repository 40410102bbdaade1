import Derived.Lib.AppendIntMem
import Derived.Lib.ItoaNum
import Derived.Test.YtdfmdiakjdggbaaGreatDoorBaseB
set_option linter.unusedVariables false
set_option linter.unusedSimpArgs false
set_option linter.unnecessarySimpa false
namespace Go
abbrev kA:=@Option.map_eq_some_iff
abbrev kh:=@List.getElem?_set_self
abbrev vo:=@Nat.le_add_right
abbrev wl:=@List.getElem?_append
abbrev ym:=@Nat.one_lt_pow
abbrev yo:=@Nat.succ_mul
abbrev uJ:=@List.length_eq_zero_iff
abbrev ue:=@Nat.sub_le
abbrev uq:=@decide_eq_true_iff
abbrev dp:=@Int.lt_irrefl
end Go
namespace Go.Proofs.YtdfmdiakjdggbaaGreatDoor
open Go Go.Gv Go.RowKit IntKind
set_option maxRecDepth 100000
set_option maxHeartbeats 1000000
theorem zDb(w:World)(X:Hid)(hX:∀k o,X k o→k<w.heap.size)(n:Int)(S: -9223372036854775808≤n)(T:n≤9223372036854775807):Calls Tryz.prog 97 #[.int .i64 n] w (Ret E0 w fun w' v=>gP X w' v n.natAbs):=by
 refine zen Tryz.func97 ?_;have j:St E0 w X w X []:=St.start hX;refine zz 12<|zt 4 (p:=(n)<0) (fun K=>?_) (fun K=>?_);refine zz 5<|zs 6 (v:= .int .u64 (IntKind.u64.wrap (n))) (v':= .int .u64 (n+18446744073709551616)) (zQ (by rw[lH];omega))<|zz 1<|zs 7 (v:= .int .u64 (IntKind.u64.wrap ((0:Int)-(n+18446744073709551616)))) (v':= .int .u64 ((n.natAbs:Nat):Int)) (zQ (by rw[lH];omega))<|zc j (qFe _ n.natAbs (by omega)) ?_
 rintro U W I N Q ⟨q,e,L,rfl,D⟩;have A:=D _ j.lt;refine zz 5<|zr' (v:= .slice q e L) ?_;exact⟨I.upd,_,rfl,I.lastN A⟩;refine zz 7<|zs 10 (v:= .int .u64 (IntKind.u64.wrap (n))) (v':= .int .u64 ((n.natAbs:Nat):Int)) (zQ (by rw[lH];omega))<|zc j (qFe _ n.natAbs (by omega)) ?_
 rintro V Z J O R ⟨z,f,M,rfl,G⟩;have C:=G _ j.lt;refine zz 4<|zr' (v:= .slice z f M) ?_;exact⟨J.upd,_,rfl,J.lastN C⟩
theorem qGl(w:World)(X:Hid)(hX:∀k o,X k o→k<w.heap.size)(ad:Option Addr)(O cap x:Nat)(h:qD (rd w X) ad O cap x)(ad2:Option Addr)(I P2 y:Nat)(h2:qD (rd w X) ad2 I P2 y)(A:Bool)(hx:x<4294967296^512)(hy:y<4294967296^512)(hd:0<y):Calls Tryz.prog 163 #[.agg #[.slice ad O cap,.slice ad2 I P2,.bool A]] w (Ret E0 w fun w' v=>zAi (old w) w' v (mkRat (sgn A x) y)):=by
 refine zen Tryz.func163 ?_;have G0:St E0 w X w X []:=St.start hX;refine zz 2<|zn pn (.cells #[.slice ad O cap,.slice ad2 I P2,.bool A] 132 (0,0)) G0 fun b3 w3 Y3 G3 C3 N3=>zn pn (.cells #[.bool false,.slice none 0 0,.slice none 0 0] 28 (0,0)) G3 fun b5 w5 Y5 G5 C5 N5=>zz 7<|zo 1 G5<|zz 4<|zb 10 (b:=((O:Int)==0)) (fun J6=>?_) (fun J6=>?_);have F7:(O:Int)=0:=by simpa using J6
 have N:x=0:=h.len0.1 (by omega)
 refine zz 4<|zx 0 #[.bool false,.slice none 0 0,.slice none 0 0] G5 fun w8 G8 C8=>zz 4<|zrS [.cell 2 28] (v:= .agg #[.bool false,.slice none 0 0,.slice none 0 0]) (Res.cM G8 0 Res.nil) ?_;exact⟨G8.upd,_,rfl,by rw[N];exact zSq y⟩
 have F9:(O:Int)≠0:=by simpa using J6
 have N:x≠0:=fun e=>absurd (h.len0.2 e) (by omega)
 have hgp:0<Nat.gcd x y:=wx _ hd;have hgb:Nat.gcd x y<4294967296^512:=jq (Nat.gcd_le_right _ hd) hy;have hb1:x / Nat.gcd x y<4294967296^512:=jq (vg _ _) hx;have hb2:y / Nat.gcd x y<4294967296^512:=jq (vg _ _) hy;refine zz 8<|zo 1 G5<|zz 2<|zo 1 G5<|zc G5 (qBt _ _ _ _ x ((h.mono (Le2 C3 C5)).mono Le.x0) _ _ _ y ((h2.mono (Le2 C3 C5)).mono Le.x0) (by first | assumption | omega) (by first | assumption | omega)) ?_
 rintro v11 w11 G11 C11 N11 ⟨u11,rfl,⟨ad11,len11,P11,rfl,hn11⟩⟩;have S:=hn11 _ G5.lt;refine zz 10<|zc G11 (zDt _ _ G11.lt _ _ _ (Nat.gcd x y) S) ?_;rintro v13 w13 G13 W N13 rfl;refine zz 3<|zb 24 (b:=!(decide (Nat.gcd x y=1))) (fun J14=>?_) (fun J14=>?_);have F15:¬(Nat.gcd x y=1):=by simpa using J14
 refine zz 5<|zo 1 G13<|zz 1 ?_;have J1_:=(Le3 C3 C5 C11).trans W;refine zc G13 (zOw _ _ _ _ x ((h.mono J1_).mono Le.x0) _ _ _ (Nat.gcd x y) ((S.mono W).mono Le.x0) (by first | assumption | omega) (by first | assumption | omega) (by assumption)) ?_
 rintro v17 w17 G17 C17 N17 ⟨u17,v217,rfl,⟨ad17,V,P17,rfl,hn17⟩,⟨ae17,le17,ce17,rfl,hm17⟩⟩;have hN17:=hn17 _ G13.lt;refine zz 6<|zx 1 #[.slice ad17 V P17,.slice ad2 I P2,.bool A] G17 fun w18 G18 C18=>zz 5<|zo 1 G18<|zz 1 ?_;have J2_:=(J1_.trans C17).trans C18;refine zc G18 (zOw _ _ _ _ y ((h2.mono J2_).mono Le.x0) _ _ _ (Nat.gcd x y) ((S.mono (Le3 W C17 C18)).mono Le.x0) (by first | assumption | omega) (by first | assumption | omega) (by assumption)) ?_
 rintro v20 w20 G20 C20 N20 ⟨u20,v220,rfl,⟨ad20,len20,P20,rfl,hn20⟩,⟨ae20,le20,ce20,rfl,hm20⟩⟩;have hN20:=hn20 _ G18.lt;refine zz 6<|zx 1 #[.slice ad17 V P17,.slice ad20 len20 P20,.bool A] G20 fun w21 G21 C21=>zz 3<|zdr G21<|gz [0]<|gw 1 1<|gz [2,3]<|gw 4 1<|gp (al 7 5 pn (.cells #[.bool false,.slice none 0 0,.slice none 0 0] 28 (0,0))) ?_;have J3_:=(Le2 C18 C20).trans C21;refine gC 5 (fun w22 Y22 _ J C22=>(zFa _ _ _ _ (x / (Nat.gcd x y)) ((hN17.mono (J3_.trans C22)).mono Le.x0) (by first | assumption | omega))) ?_ (hPd:=kW.nil.k)
 rintro v23 w22 Y23 w23 J C23 ⟨q,f,L,rfl,T⟩;have hN23:=T _ J.lt;refine gz [6]<|gs1 (fun b24=>?_) kW.nil.k;refine gX 8 0 #[.bool A,.slice q f L,.slice none 0 0] fun w25 Y25 C25=>?_;refine fM (fun w26 Y26 G26 C26=>?_);refine zz 6<|zo 2 G26 ?_;have J4_:=(Le3 C21 C23 C25).trans C26;refine zc G26 (zDt _ _ G26.lt _ _ _ (y / (Nat.gcd x y)) (hN20.mono J4_)) ?_;rintro v28 w28 C C28 N28 rfl;refine zz 3<|zb 58 (b:=!(decide (y / (Nat.gcd x y)=1))) (fun J29=>?_) (fun J29=>?_);have F30:¬(y / (Nat.gcd x y)=1):=by simpa using J29
 refine zz 4<|zo 2 C ?_;have J5_:=J4_.trans C28;refine zc C (zFa _ _ _ _ (y / (Nat.gcd x y)) ((hN20.mono J5_).mono Le.x0) (by first | assumption | omega)) ?_
 rintro v32 w32 G32 C32 N32 ⟨Q,zGr,P32,rfl,hn32⟩;have hN32:=hn32 _ C.lt;refine zz 1<|zx 0 #[.bool A,.slice q f L,.slice Q zGr P32] G32 fun w33 G33 C33=>zz 4<|zo 0 G33<|zx 1 #[.bool A,.slice q f L,.slice Q zGr P32] G33 fun w34 G34 C34=>zz 3<|zrS [.cell 2 28] (v:= .agg #[.bool A,.slice q f L,.slice Q zGr P32]) (Res.cM G34 1 Res.nil) ?_;have J6_:=(Le5 C25 C26 C28 C32 C33).trans C34;refine⟨G34.upd,_,rfl,bM N hd (by exact(((T (old _) (fun _ _ h=>h)).mono (Le.own J.lt J.upd.size J6_)).mono Le.orr)) ?_⟩
 rw[rW,qm F30];exact(((hn32 (old _) (fun _ _ h=>h)).mono (Le.own C.lt C.upd.size (Le2 C33 C34))).mono Le.orr);have F35:y / (Nat.gcd x y)=1:=by simpa using J29
 refine zz 5<|zo 0 C<|zx 1 #[.bool A,.slice q f L,.slice none 0 0] C fun w36 G36 C36=>zz 3<|zrS [.cell 2 28] (v:= .agg #[.bool A,.slice q f L,.slice none 0 0]) (Res.cM G36 1 Res.nil) ?_;have J7_:=(Le3 C25 C26 C28).trans C36;refine⟨G36.upd,_,rfl,bM N hd (by exact(((T (old _) (fun _ _ h=>h)).mono (Le.own J.lt J.upd.size J7_)).mono Le.orr)) ?_⟩
 rw[rW,qn F35];exact(qD.nil none (by omega))
 have Z:Nat.gcd x y=1:=by simpa using J14
 refine zz 4<|zdr G13<|gz [0]<|gw 1 1<|gz [2,3]<|gw 4 1<|gp (al 7 5 pn (.cells #[.bool false,.slice none 0 0,.slice none 0 0] 28 (0,0))) ?_;have J8_:=(Le3 C3 C5 C11).trans W;refine gC 5 (fun w38 Y38 _ K C38=>(zFa _ _ _ _ x ((h.mono (J8_.trans C38)).mono Le.x0) (by first | assumption | omega))) ?_ (hPd:=kW.nil.k)
 rintro v39 w38 Y39 w39 K C39 ⟨z,j,M,rfl,U⟩;have hN39:=U _ K.lt;refine gz [6]<|gs1 (fun b40=>?_) kW.nil.k;refine gX 8 0 #[.bool A,.slice z j M,.slice none 0 0] fun w41 Y41 C41=>?_;refine fM (fun w42 Y42 G42 C42=>?_);refine zz 6<|zo 2 G42 ?_;have J9_:=((J8_.trans C39).trans C41).trans C42;refine zc G42 (zDt _ _ G42.lt _ _ _ y (h2.mono J9_)) ?_;rintro v44 w44 D C44 N44 rfl;refine zz 3<|zb 58 (b:=!(decide (y=1))) (fun J45=>?_) (fun J45=>?_);have F46:¬(y=1):=by simpa using J45
 refine zz 4<|zo 2 D ?_;have J10_:=J9_.trans C44;refine zc D (zFa _ _ _ _ y ((h2.mono J10_).mono Le.x0) (by first | assumption | omega)) ?_
 rintro v48 w48 G48 C48 N48 ⟨R,G,P48,rfl,hn48⟩;have hN48:=hn48 _ D.lt;refine zz 1<|zx 0 #[.bool A,.slice z j M,.slice R G P48] G48 fun w49 G49 C49=>zz 4<|zo 0 G49<|zx 1 #[.bool A,.slice z j M,.slice R G P48] G49 fun w50 G50 C50=>zz 3<|zrS [.cell 2 28] (v:= .agg #[.bool A,.slice z j M,.slice R G P48]) (Res.cM G50 1 Res.nil) ?_;have J11_:=(Le5 C41 C42 C44 C48 C49).trans C50;refine⟨G50.upd,_,rfl,bM N hd (by rw[Z,uk];exact(((U (old _) (fun _ _ h=>h)).mono (Le.own K.lt K.upd.size J11_)).mono Le.orr)) ?_⟩
 rw[Z,uk];rw[rW,qm F46];exact(((hn48 (old _) (fun _ _ h=>h)).mono (Le.own D.lt D.upd.size (Le2 C49 C50))).mono Le.orr);have F51:y=1:=by simpa using J45
 refine zz 5<|zo 0 D<|zx 1 #[.bool A,.slice z j M,.slice none 0 0] D fun w52 G52 C52=>zz 3<|zrS [.cell 2 28] (v:= .agg #[.bool A,.slice z j M,.slice none 0 0]) (Res.cM G52 1 Res.nil) ?_;have J12_:=(Le3 C41 C42 C44).trans C52;refine⟨G52.upd,_,rfl,bM N hd (by rw[Z,uk];exact(((U (old _) (fun _ _ h=>h)).mono (Le.own K.lt K.upd.size J12_)).mono Le.orr)) ?_⟩
 rw[Z,uk];rw[rW,qn F51];exact(qD.nil none (by omega))
section
variable (w:World)(X:Hid)(hX:∀k o,X k o→k<w.heap.size)
set_option maxHeartbeats 1000000
include hX in
theorem qAn(D:Bool)(ad:Option Addr)(q j x:Nat)(h:qD (rd w X) ad q j x)(z:Option Addr)(f J y:Nat)(W:qD (rd w X) z f J y):Calls Tryz.prog 82 #[.agg #[.bool D,.slice ad q j,.slice z f J]] w (Ret E0 w fun w' v=>zSz X w' v D x (if y=0 then 1 else y)):=by
 refine zen Tryz.func82 ?_;have G0:St E0 w X w X []:=St.start hX;refine zz 2<|zn pn (.cells #[.bool D,.slice ad q j,.slice z f J] 28 (0,0)) G0 fun b3 w3 Y3 G3 Z N3=>zn pn (.cells #[.slice none 0 0,.slice none 0 0,.bool false] 132 (0,0)) G3 fun b5 w5 Y5 M C5 N5=>zz 5<|zo 1 M<|zz 1<|zo 1 M<|zz 2<|zo 1 M ?_;refine zz 1<|zn pn (.cells #[.slice none 0 0,.slice none 0 0,.bool false] 132 (0,0)) M fun b7 w7 Y7 G7 C7 N7=>zx 0 #[.slice ad q j,.slice z f J,.bool D] G7 fun w8 N C8=>zz 7<|zo 0 N<|zz 4<|zb 16 (b:=((f:Int)==0)) (fun V=>?_) (fun V=>?_);have F10:(f:Int)=0:=by simpa using V
 have I:y=0:=W.len0.1 (by omega)
 refine zz 2<|zn (fun b=> .slice (some ⟨b,0,none⟩) 1 1) (.cells #[.int .u32 1] 214 (0,0)) N fun G w12 Y12 T O N12=>zz 2<|zx 1 #[.slice ad q j,.slice (some ⟨G,0,none⟩) 1 1,.bool D] T fun w13 K Q=>zz 4<|zo 1 K<|zx 2 #[.slice ad q j,.slice (some ⟨G,0,none⟩) 1 1,.bool D] K fun w14 A R=>zz 3<|zrS [.cell 2 132] (v:= .agg #[.slice ad q j,.slice (some ⟨G,0,none⟩) 1 1,.bool D]) (Res.cM A 2 Res.nil) ?_;have U:=(Le6 Z C5 C7 C8 O Q).trans R;exact⟨A.upd,_,rfl,_,_,_,_,_,_,rfl,(h.mono U).mono A.le,by rw[qn I];exact qOq (A.rowX 0 rfl (A.own_ge 0 rfl) (qOr rfl))⟩
 have F15:(f:Int)≠0:=by simpa using V
 have I:y≠0:=fun e=>absurd (W.len0.2 e) (by omega)
 refine zz 5<|zo 0 N<|zx 1 #[.slice ad q j,.slice z f J,.bool D] N fun w16 C S=>zz 3<|zrS [.cell 2 132] (v:= .agg #[.slice ad q j,.slice z f J,.bool D]) (Res.cM C 1 Res.nil) ?_;have L:=(Le4 Z C5 C7 C8).trans S;exact⟨C.upd,_,rfl,_,_,_,_,_,_,rfl,(h.mono L).mono C.le,by rw[qm I];exact(W.mono L).mono C.le⟩
include hX in
theorem qJq(V:Option Addr)(R M I:Nat)(h₁:qD (rd w X) V R M I)(Z:Option Addr)(le₁ ce₁ q:Nat)(k₁:qD (rd w X) Z le₁ ce₁ q)(f:Bool)(O:I<jQ)(C:q<jQ)(W:Option Addr)(S N J:Nat)(h₂:qD (rd w X) W S N J)(ae₂:Option Addr)(le₂ ce₂ z:Nat)(k₂:qD (rd w X) ae₂ le₂ ce₂ z)(A:Bool)(Q:J<jQ)(D:z<jQ):Calls Tryz.prog 83 #[.agg #[.slice V R M,.slice Z le₁ ce₁,.bool f],.agg #[.slice W S N,.slice ae₂ le₂ ce₂,.bool A]] w (Ret E0 w fun w' v=>∃s m,zSz X w' v s m (q*z)∧m<4294967296^512∧sgn s m=sgn f I*z+sgn A J*q):=by
 refine zen Tryz.func83 ?_;have G0:St E0 w X w X []:=St.start hX;have hb:∀{x:Nat},x<jQ→x<4294967296^512:=fun h=>z8 h qFv;have hbn1:=hb O;have hbn2:=hb Q;have hbd1:=hb C;have hbd2:=hb D;obtain⟨hp1,hp12⟩:=kG O D Q C;have hp2:=(kG Q C O D).1;have hpd:=(kG C D C D).1;have hpn:=(kG O Q C D).1;refine zz 2<|zn pn (.cells #[.slice V R M,.slice Z le₁ ce₁,.bool f] 132 (0,0)) G0 fun b3 w3 Y3 G3 C3 N3=>zn pn (.cells #[.slice W S N,.slice ae₂ le₂ ce₂,.bool A] 132 (0,0)) G3 fun b5 w5 Y5 G5 C5 N5=>zn pn (.cells #[.slice none 0 0,.slice none 0 0,.bool false] 132 (0,0)) G5 fun b7 w7 Y7 G7 C7 N7=>zz 3<|zdr G7<|gz [0,1]<|gw 2 2<|gz [3,4] ?_;refine gw 5 1<|gz [7,8]<|gw 9 1<|gz [10,11]<|gw 12 2 ?_;have J1_:=(Le2 C3 C5).trans C7;refine gC 6 (fun w8 Y8 _ G8 C8=>(zBy _ _ G8.lt _ _ _ I (h₁.mono (J1_.trans C8)) _ _ _ z (k₂.mono (J1_.trans C8)) (by first | assumption | omega) (by first | assumption | omega) (by first | assumption | omega))) ?_
 rintro v9 w8 Y9 w9 G8 C9 ⟨ad9,len9,P9,rfl,hN9⟩;have J2_:=J1_.trans C9;refine gC 13 (fun w10 Y10 _ G10 C10=>(zBy _ _ G10.lt _ _ _ J (h₂.mono (J2_.trans C10)) _ _ _ q (k₁.mono (J2_.trans C10)) (by first | assumption | omega) (by first | assumption | omega) (by first | assumption | omega))) ?_
 rintro v11 w10 Y11 w11 G10 C11 ⟨ad11,len11,P11,rfl,hN11⟩;refine gz [14,15] ?_;refine fM (fun w12 Y12 G12 C12=>?_);refine zz 2<|zdr G12<|gz [0,1]<|gw 2 2<|gz [3,4]<|gw 5 1<|gz [8]<|gw 9 2<|gp (al 11 7 pn (.cells #[.slice none 0 0,.slice none 0 0,.bool false] 132 (0,0))) ?_;have J3_:=(J2_.trans C11).trans C12;refine gC 6 (fun w13 Y13 _ G13 C13=>(zBy _ _ G13.lt _ _ _ q (k₁.mono (J3_.trans C13)) _ _ _ z (k₂.mono (J3_.trans C13)) (by first | assumption | omega) (by first | assumption | omega) (by first | assumption | omega))) ?_ (hPd:=kW.nil.k)
 rintro v14 w13 Y14 w14 G13 C14 ⟨j,e,K,rfl,hN14⟩;refine gz [7,10]<|gs1 (fun b15=>?_) kW.nil.k;refine gX 12 0 #[.slice none 0 0,.slice j e K,.bool f] fun w16 Y16 T=>?_;refine fM (fun w17 Y17 G17 U=>?_);refine zz 5<|zo 3 G17<|zz 1<|zo 2 G17<|zz 3<|zb 38 (b:=(f==A)) (fun J18=>?_) (fun J18=>?_);have F19:f=A:=by simpa using J18
 refine zz 5 ?_;have J4_:=(Le4 C11 C12 C14 T).trans U;have J5_:=(Le3 C12 C14 T).trans U;refine zc G17 (jBo _ _ G17.lt _ _ _ (I*z) (hN9.mono J4_) _ _ _ (J*q) (hN11.mono J5_) (by first | assumption | omega) (by first | assumption | omega) (by first | assumption | omega)) ?_
 rintro v21 w21 G21 C21 N21 ⟨ad21,len21,P21,rfl,hN21⟩;refine zz 2<|zx 0 #[.slice ad21 len21 P21,.slice j e K,.bool f] G21 fun w22 G22 C22=>zz 4<|zo 0 G22<|zx 1 #[.slice ad21 len21 P21,.slice j e K,.bool f] G22 fun w23 G23 C23=>zz 4<|zrS [.cell 4 132] (v:= .agg #[.slice ad21 len21 P21,.slice j e K,.bool f]) (Res.cM G23 1 Res.nil) ?_;have J6_:=(Le4 T U C21 C22).trans C23;have hx9:=(hN21.mono (Le2 C22 C23));exact⟨G23.upd,_,rfl,_,_,⟨_,_,_,_,_,_,rfl,hx9.mono G23.le,(hN14.mono J6_).mono G23.le⟩,hp12,qJr F19 _ _ _ _⟩;have F24:f≠A:=by simpa using J18
 refine zz 13 ?_;have J7_:=(Le4 C11 C12 C14 T).trans U;have J8_:=(Le3 C12 C14 T).trans U;refine zc G17 (qOh _ _ G17.lt _ _ _ (I*z) (hN9.mono J7_) _ _ _ (J*q) (hN11.mono J8_) (by first | assumption | omega) (by first | assumption | omega)) ?_
 rintro v26 w26 G26 C26 N26 ⟨u26,rfl,⟨L,G,P26,rfl,hN26⟩⟩;refine zz 5<|zx 0 #[.slice L G P26,.slice j e K,.bool f] G26 fun w27 G27 C27=>zz 8<|zt 53 (p:=(I*z)<(J*q)) (fun F28=>?_) (fun F28=>?_);refine zz 3<|zo 2 G27<|zz 1<|zx 0 #[.slice L G P26,.slice j e K,.bool A] G27 fun w29 G29 C29=>zz 4<|zo 0 G29<|zx 1 #[.slice L G P26,.slice j e K,.bool A] G29 fun w30 G30 C30=>zz 3<|zrS [.cell 4 132] (v:= .agg #[.slice L G P26,.slice j e K,.bool A]) (Res.cM G30 1 Res.nil) ?_;have J9_:=(Le5 T U C26 C27 C29).trans C30;have hx9:=(hN26.mono (Le3 C27 C29 C30));rw[qn F28]at hx9;exact⟨G30.upd,_,rfl,_,_,⟨_,_,_,_,_,_,rfl,hx9.mono G30.le,(hN14.mono J9_).mono G30.le⟩,jq (ue _ _) hp2,jCu F24 F28⟩;refine zz 5<|zo 0 G27<|zx 1 #[.slice L G P26,.slice j e K,.bool f] G27 fun w31 G31 C31=>zz 3<|zrS [.cell 4 132] (v:= .agg #[.slice L G P26,.slice j e K,.bool f]) (Res.cM G31 1 Res.nil) ?_;have J10_:=(Le4 T U C26 C27).trans C31;have hx9:=(hN26.mono (Le2 C27 C31));rw[qm F28]at hx9;exact⟨G31.upd,_,rfl,_,_,⟨_,_,_,_,_,_,rfl,hx9.mono G31.le,(hN14.mono J10_).mono G31.le⟩,jq (ue _ _) hp1,jCt F24 (by omega)⟩
include hX in
theorem zLk(J:Option Addr)(C j U:Nat)(h₁:qD (rd w X) J C j U)(L:Option Addr)(Q N S:Nat)(k₁:qD (rd w X) L Q N S)(G:Bool)(z:U<jQ)(e:S<jQ)(K:Option Addr)(D q V:Nat)(h₂:qD (rd w X) K D q V)(M:Option Addr)(R O T:Nat)(k₂:qD (rd w X) M R O T)(I:Bool)(A:V<jQ)(f:T<jQ):Calls Tryz.prog 99 #[.agg #[.slice J C j,.slice L Q N,.bool G],.agg #[.slice K D q,.slice M R O,.bool I]] w (Ret E0 w fun w' v=>∃s m,zSz X w' v s m (S*T)∧m<4294967296^512∧sgn s m=sgn G U*sgn I V):=by
 refine zen Tryz.func99 ?_;have G0:St E0 w X w X []:=St.start hX;have hb:∀{x:Nat},x<jQ→x<4294967296^512:=fun h=>z8 h qFv;have hbn1:=hb z;have hbn2:=hb A;have hbd1:=hb e;have hbd2:=hb f;obtain⟨hp1,hp12⟩:=kG z f A e;have hp2:=(kG A e z f).1;have hpd:=(kG e f e f).1;have hpn:=(kG z A e f).1;refine zz 2<|zn pn (.cells #[.slice J C j,.slice L Q N,.bool G] 132 (0,0)) G0 fun b3 w3 Y3 G3 C3 N3=>zn pn (.cells #[.slice K D q,.slice M R O,.bool I] 132 (0,0)) G3 fun b5 w5 Y5 G5 C5 N5=>zn pn (.cells #[.slice none 0 0,.slice none 0 0,.bool false] 132 (0,0)) G5 fun b7 w7 Y7 G7 C7 N7=>zz 3<|zdr G7<|gz [0,1]<|gw 2 2<|gz [3,4] ?_;refine gw 5 1<|gz [7,8]<|gw 9 2<|gz [10,11]<|gw 12 1<|gz [15]<|gw 16 2<|gz [17]<|gw 18 1 ?_;refine gz [19] ?_;have J1_:=(Le2 C3 C5).trans C7;refine gC 6 (fun w8 Y8 _ G8 C8=>(zBy _ _ G8.lt _ _ _ U (h₁.mono (J1_.trans C8)) _ _ _ V (h₂.mono (J1_.trans C8)) (by first | assumption | omega) (by first | assumption | omega) (by first | assumption | omega))) ?_
 rintro v9 w8 Y9 w9 G8 C9 ⟨ad9,len9,P9,rfl,hN9⟩;have J2_:=J1_.trans C9;refine gC 13 (fun w10 Y10 _ G10 C10=>(zBy _ _ G10.lt _ _ _ S (k₁.mono (J2_.trans C10)) _ _ _ T (k₂.mono (J2_.trans C10)) (by first | assumption | omega) (by first | assumption | omega) (by first | assumption | omega))) ?_
 rintro v11 w10 Y11 w11 G10 C11 ⟨ad11,W,P11,rfl,hN11⟩;refine gz [14,20]<|gX 21 0 #[.slice ad9 len9 P9,.slice ad11 W P11,.bool (!(G==I))] fun w12 Y12 C12=>?_;refine fM (fun w13 Y13 Z C13=>?_);refine zz 2<|zrS [.cell 4 132] (v:= .agg #[.slice ad9 len9 P9,.slice ad11 W P11,.bool (!(G==I))]) (Res.cM Z 0 Res.nil) ?_;exact⟨Z.upd,_,rfl,_,_,⟨_,_,_,_,_,_,rfl,(hN9.mono (Le3 C11 C12 C13)).mono Z.le,(hN11.mono (Le2 C12 C13)).mono Z.le⟩,hpn,qQf _ _ _ _⟩
end
set_option maxHeartbeats 1000000
theorem zWi{a:Raw}(h:128<a.ln.length∨128<a.ld.length):a.chk=4:=qn h
theorem fC{a:Raw}(h:¬(128<a.ln.length∨128<a.ld.length))(e:jG a.ln≠0∨jG a.ld≠0∨val a.ld=1∨(val a.ln=0∧(a.neg=true∨0<val a.ld))):a.chk=2:=(qm h).trans (qn e)
theorem zWj{a:Raw}(h:¬(128<a.ln.length∨128<a.ld.length))(e:¬(jG a.ln≠0∨jG a.ld≠0∨val a.ld=1∨(val a.ln=0∧(a.neg=true∨0<val a.ld))))(f:0<val a.ld∧Nat.gcd (val a.ln) (val a.ld)≠1):a.chk=2:=(qm h).trans ((qm e).trans (qn f))
theorem zEe{a:Raw}(h:¬(128<a.ln.length∨128<a.ld.length))(e:¬(jG a.ln≠0∨jG a.ld≠0∨val a.ld=1∨(val a.ln=0∧(a.neg=true∨0<val a.ld))))(f:¬(0<val a.ld∧Nat.gcd (val a.ln) (val a.ld)≠1)):a.chk=0:=(qm h).trans ((qm e).trans (qm f))
theorem xF{l:List Nat}(e:zX l):l.length=0↔val l=0:=by
 constructor
 ·intro h;rw[qT h];rfl
 ·intro h;rw[aK e h];rfl
theorem wP(w:World)(X:Hid)(hX:∀k o,X k o→k<w.heap.size)(a:Raw)(ad:Option Addr)(len R:Nat)(h:zN (rd w X) ad len R a.ln)(Q:Option Addr)(I P2:Nat)(Z:zN (rd w X) Q I P2 a.ld):Calls Tryz.prog 75 #[.agg #[.bool a.neg,.slice ad len R,.slice Q I P2]] w (Ret E0 w fun _ v=>v= .int .i64 a.chk):=by
 obtain rfl:=h.hlen;obtain rfl:=Z.hlen;have hcap:=h.hcap;have hbig:=h.hbig;have hcap2:=Z.hcap;have hbig2:=Z.hbig;refine zen Tryz.func75 ?_;have G0:St E0 w X w X []:=St.start hX;refine zz 2<|zn pn (.cells #[.bool a.neg,.slice ad a.ln.length R,.slice Q a.ld.length P2] 28 (0,0)) G0 fun b3 w3 Y3 W C3 N3=>zz 8<|zo 0 W<|zz 3<|zt 10 (p:=(a.ln.length:Int)>128) (fun F4=>?_) (fun F4=>?_);refine zz 17<|zr' (v:= .int .i64 4) ?_;exact⟨W.upd,_,rfl,zQ (zWi (by omega)).symm⟩
 refine zz 1<|zo 0 W<|zz 6<|zt 5 (p:=(a.ld.length:Int)>128) (fun F5=>?_) (fun F5=>?_);refine zz 9<|zr' (v:= .int .i64 4) ?_;exact⟨W.upd,_,rfl,zQ (zWi (by omega)).symm⟩
 have f:¬(128<a.ln.length∨128<a.ld.length):=by omega
 refine zz 5<|zo 0 W<|zc W (zMe _ X0 (qA _) _ _ _ a.ln ((h.mono C3).mono Le.x0)) ?_;rintro v7 w7 G7 C7 N7 rfl;refine zz 2<|zb 21 (b:=((jG a.ln)!=0)) (fun J8=>?_) (fun J8=>?_);have F9:(jG a.ln)≠0:=by simpa using J8
 refine zz 20<|zr' (v:= .int .i64 2) ?_;exact⟨G7.upd,_,rfl,zQ (fC f (.inl F9)).symm⟩;have C:(jG a.ln)=0:=by simpa using J8
 refine zz 1<|zo 0 G7<|zc G7 (zMe _ X0 (qA _) _ _ _ a.ld ((Z.mono (Le2 C3 C7)).mono Le.x0)) ?_;rintro v12 w12 G J N12 rfl;refine zz 5<|zb 16 (b:=((jG a.ld)!=0)) (fun K=>?_) (fun K=>?_);have F14:(jG a.ld)≠0:=by simpa using K
 refine zz 12<|zr' (v:= .int .i64 2) ?_;exact⟨G.upd,_,rfl,zQ (fC f (.inr (.inl F14))).symm⟩;have D:(jG a.ld)=0:=by simpa using K
 have V:=(pY (by simpa using C:jG a.ln=0)).2
 have U:=(pY (by simpa using D:jG a.ld=0)).2
 have hzn:=xF V;have hzd:=xF U;have hB:(4294967296:Nat)^128≤4294967296^512:=qFv;have hbn:val a.ln<4294967296^512:=z8 ((zW h.hlt V 128).1 (by omega)) hB
 have hbd:val a.ld<4294967296^512:=z8 ((zW Z.hlt U 128).1 (by omega)) hB
 have hNn:=h.natR V;have T:=Z.natR U;refine zz 4<|zo 0 G<|zc G (zDt _ _ G.lt _ _ _ (val a.ld) (T.mono (Le3 C3 C7 J))) ?_;rintro v17 w17 j C17 N17 rfl;refine zz 3<|zt 16 (p:=(val a.ld)=1) (fun z=>?_) (fun z=>?_);refine zz 12<|zr' (v:= .int .i64 2) ?_;exact⟨j.upd,_,rfl,zQ (fC f (.inr (.inr (.inl (by simpa using z))))).symm⟩
 refine zz 3<|zo 0 j<|zz 3<|zb 34 (b:=((a.ln.length:Int)==0)) (fun L=>?_) (fun L=>?_);have F20:(a.ln.length:Int)=0:=by simpa using L
 refine zz 1<|zo 0 j<|zz 1<|zb 37 (b:=a.neg) (fun M=>?_) (fun M=>?_);have F22:a.neg=true:=by simpa using M
 refine zz 18<|zr' (v:= .int .i64 2) ?_;exact⟨j.upd,_,rfl,zQ (fC f (.inr (.inr (.inr ⟨by omega,.inl F22⟩)))).symm⟩
 have F23:a.neg=false:=by simpa using M
 refine zz 1<|zo 0 j<|zz 7<|zt 16 (p:=(a.ld.length:Int)>0) (fun F24=>?_) (fun F24=>?_);refine zz 9<|zr' (v:= .int .i64 2) ?_;exact⟨j.upd,_,rfl,zQ (fC f (.inr (.inr (.inr ⟨by omega,.inr (by omega)⟩)))).symm⟩
 have q:¬(jG a.ln≠0∨jG a.ld≠0∨val a.ld=1∨(val a.ln=0∧(a.neg=true∨0<val a.ld))):=by intro A;rcases A with e | e | e | ⟨e,S⟩;exact(fun x=>absurd (by simpa using C:jG a.ln=0) x) e;exact(fun x=>absurd (by simpa using D:jG a.ld=0) x) e;exact(fun x=>absurd x (by simpa using z)) e;rcases S with S | S;rw[F23]at S;cases S;omega
 have hz:¬0<val a.ld:=by omega
 refine zz 8<|zo 0 j<|zz 4<|zt 47 (p:=(a.ld.length:Int)>0) (fun F25=>?_) (fun F25=>?_);refine zz 4<|zo 0 j<|zz 1<|zo 0 j ?_;have J1_:=(Le3 C3 C7 J).trans C17;refine zc j (qBt _ _ _ _ (val a.ln) ((hNn.mono J1_).mono Le.x0) _ _ _ (val a.ld) ((T.mono J1_).mono Le.x0) (by first | assumption | omega) (by first | assumption | omega)) ?_
 rintro v27 w27 G27 C27 N27 ⟨u27,rfl,⟨ad27,len27,P27,rfl,hn27⟩⟩;have hN27:=hn27 _ j.lt;refine zz 10<|zc G27 (zDt _ _ G27.lt _ _ _ (Nat.gcd (val a.ln) (val a.ld)) hN27) ?_;rintro v29 w29 G29 C29 N29 rfl;refine zz 3<|zb 58 (b:=!(decide (Nat.gcd (val a.ln) (val a.ld)=1))) (fun N=>?_) (fun N=>?_);have F31:¬(Nat.gcd (val a.ln) (val a.ld)=1):=by simpa using N
 refine zz 8<|zr' (v:= .int .i64 2) ?_;exact⟨G29.upd,_,rfl,zQ (zWj f q ⟨by omega,by simpa using F31⟩).symm⟩
 have F32:Nat.gcd (val a.ln) (val a.ld)=1:=by simpa using N
 refine zz 9<|zr' (v:= .int .i64 0) ?_;exact⟨G29.upd,_,rfl,zQ (zEe f q (fun A=>A.2 (by simpa using F32))).symm⟩
 refine zz 9<|zr' (v:= .int .i64 0) ?_;exact⟨j.upd,_,rfl,zQ (zEe f q (fun A=>by omega)).symm⟩
 have F33:(a.ln.length:Int)≠0:=by simpa using L
 refine zz 20<|zo 0 j<|zz 4<|zt 47 (p:=(a.ld.length:Int)>0) (fun F34=>?_) (fun F34=>?_);have q:¬(jG a.ln≠0∨jG a.ld≠0∨val a.ld=1∨(val a.ln=0∧(a.neg=true∨0<val a.ld))):=by intro A;rcases A with e | e | e | ⟨e,S⟩;exact(fun x=>absurd (by simpa using C:jG a.ln=0) x) e;exact(fun x=>absurd (by simpa using D:jG a.ld=0) x) e;exact(fun x=>absurd x (by simpa using z)) e;omega
 refine zz 4<|zo 0 j<|zz 1<|zo 0 j ?_;have J2_:=(Le3 C3 C7 J).trans C17;refine zc j (qBt _ _ _ _ (val a.ln) ((hNn.mono J2_).mono Le.x0) _ _ _ (val a.ld) ((T.mono J2_).mono Le.x0) (by first | assumption | omega) (by first | assumption | omega)) ?_
 rintro v36 w36 G36 C36 N36 ⟨u36,rfl,⟨ad36,len36,P36,rfl,hn36⟩⟩;have hN36:=hn36 _ j.lt;refine zz 10<|zc G36 (zDt _ _ G36.lt _ _ _ (Nat.gcd (val a.ln) (val a.ld)) hN36) ?_;rintro v38 w38 G38 C38 N38 rfl;refine zz 3<|zb 58 (b:=!(decide (Nat.gcd (val a.ln) (val a.ld)=1))) (fun O=>?_) (fun O=>?_);have F40:¬(Nat.gcd (val a.ln) (val a.ld)=1):=by simpa using O
 refine zz 8<|zr' (v:= .int .i64 2) ?_;exact⟨G38.upd,_,rfl,zQ (zWj f q ⟨by omega,by simpa using F40⟩).symm⟩
 have F41:Nat.gcd (val a.ln) (val a.ld)=1:=by simpa using O
 refine zz 9<|zr' (v:= .int .i64 0) ?_;exact⟨G38.upd,_,rfl,zQ (zEe f q (fun A=>A.2 (by simpa using F41))).symm⟩
 have q:¬(jG a.ln≠0∨jG a.ld≠0∨val a.ld=1∨(val a.ln=0∧(a.neg=true∨0<val a.ld))):=by intro A;rcases A with e | e | e | ⟨e,S⟩;exact(fun x=>absurd (by simpa using C:jG a.ln=0) x) e;exact(fun x=>absurd (by simpa using D:jG a.ld=0) x) e;exact(fun x=>absurd x (by simpa using z)) e;omega
 refine zz 9<|zr' (v:= .int .i64 0) ?_;exact⟨j.upd,_,rfl,zQ (zEe f q (fun A=>by omega)).symm⟩
section
variable (w:World)(X:Hid)(hX:∀k o,X k o→k<w.heap.size)
set_option maxHeartbeats 1000000
include hX in
theorem jCr(O:Option Addr)(J C T:Nat)(h₁:qD (rd w X) O J C T)(Q:Option Addr)(S R L:Nat)(k₁:qD (rd w X) Q S R L)(V:Bool)(G:T<jQ)(e:L<jQ)(z:Option Addr)(q j U:Nat)(h₂:qD (rd w X) z q j U)(A:Option Addr)(K D M:Nat)(k₂:qD (rd w X) A K D M)(N:Bool)(I:U<jQ)(f:M<jQ):Calls Tryz.prog 98 #[.agg #[.slice O J C,.slice Q S R,.bool V],.agg #[.slice z q j,.slice A K D,.bool N]] w (Ret E0 w fun w' v=>∃s m,zSz X w' v s m (L*M)∧m<4294967296^512∧sgn s m=sgn V T*M+sgn (!N) U*L):=by
 refine zen Tryz.func98 ?_;have G0:St E0 w X w X []:=St.start hX;have hb:∀{x:Nat},x<jQ→x<4294967296^512:=fun h=>z8 h qFv;have hbn1:=hb G;have hbn2:=hb I;have hbd1:=hb e;have hbd2:=hb f;obtain⟨hp1,hp12⟩:=kG G f I e;have hp2:=(kG I e G f).1;have hpd:=(kG e f e f).1;have hpn:=(kG G I e f).1;refine zz 2<|zn pn (.cells #[.slice O J C,.slice Q S R,.bool V] 132 (0,0)) G0 fun b3 w3 Y3 G3 C3 N3=>zn pn (.cells #[.slice z q j,.slice A K D,.bool N] 132 (0,0)) G3 fun b5 w5 Y5 G5 C5 N5=>zn pn (.cells #[.slice none 0 0,.slice none 0 0,.bool false] 132 (0,0)) G5 fun b7 w7 Y7 G7 C7 N7=>zz 5<|zo 1 G7<|zz 2<|zx 1 #[.slice z q j,.slice A K D,.bool (!N)] G7 fun w8 G8 C8=>zz 4 ?_;refine zo 2 G8<|zo 1 G8 ?_;have W:=(Le3 C3 C5 C7).trans C8;refine zc G8 (qJq _ _ G8.lt _ _ _ T (h₁.mono W) _ _ _ L (k₁.mono W) V (by assumption) (by assumption) _ _ _ U (h₂.mono W) _ _ _ M (k₂.mono W) (!N) (by assumption) (by assumption)) ?_
 rintro v10 w10 G10 C10 N10 ⟨sg10,m10,⟨ad10,Z,P10,ae10,le10,ce10,rfl,hN10,hD10⟩,hm10,he10⟩;have J2_:=W.trans C10;refine zx 0 #[.slice ad10 Z P10,.slice ae10 le10 ce10,.bool sg10] G10 fun w11 G11 C11=>zz 3<|zrS [.cell 4 132] (v:= .agg #[.slice ad10 Z P10,.slice ae10 le10 ce10,.bool sg10]) (Res.cM G11 0 Res.nil) ?_;exact⟨G11.upd,_,rfl,_,_,⟨_,_,_,_,_,_,rfl,(hN10.mono C11).mono G11.le,(hD10.mono C11).mono G11.le⟩,hm10,he10⟩
def OpC(f:Nat)(op:Rat→Rat→Rat):Prop:=∀(w:World)(X:Hid)(hX:∀k o,X k o→k<w.heap.size)(D:Option Addr)(A e O:Nat)(h₁:qD (rd w X) D A e O)(I:Option Addr)(M K q:Nat)(k₁:qD (rd w X) I M K q)(R:Bool)(V:O<jQ)(T:q<jQ)(G:Option Addr)(C j Q:Nat)(h₂:qD (rd w X) G C j Q)(J:Option Addr)(N L z:Nat)(k₂:qD (rd w X) J N L z)(S:Bool)(W:Q<jQ)(U:z<jQ)(Z:0<q)(hp₂:0<z),Calls Tryz.prog f #[.agg #[.slice D A e,.slice I M K,.bool R],.agg #[.slice G C j,.slice J N L,.bool S]] w (Ret E0 w fun w' v=>∃s m d,zSz X w' v s m d∧m<4294967296^512∧d<4294967296^512∧0<d∧mkRat (sgn s m) d=op (mkRat (sgn R O) q) (mkRat (sgn S Q) z))
theorem zFb{a b:Nat}(h:a<jQ)(e:b<jQ):a*b<4294967296^512:=qWb h e
theorem jCv:OpC 83 (·+·):=fun w X hX M A q I h₁ O Z R D k₁ K T f N C z J h₂ Q le₂ S G k₂ L U j V W=>
 (qJq w X hX M A q I h₁ O Z R D k₁ K T f N C z J h₂ Q le₂ S G k₂ L U j).mono (by
  rintro e w' ⟨hu,v,rfl,s,m,hv,hm,he⟩;refine⟨hu,_,rfl,s,m,_,hv,hm,zFb f j,uM V W,?_⟩;show _=mkRat (sgn K I) D+mkRat (sgn L J) G;rw[ui _ _ (by omega) (by omega),he])
theorem zVd:OpC 99 (· * ·):=fun w X hX M A q I h₁ O Z R D k₁ K T f N C z J h₂ Q le₂ S G k₂ L U j V W=>
 (zLk w X hX M A q I h₁ O Z R D k₁ K T f N C z J h₂ Q le₂ S G k₂ L U j).mono (by
  rintro e w' ⟨hu,v,rfl,s,m,hv,hm,he⟩;refine⟨hu,_,rfl,s,m,_,hv,hm,zFb f j,uM V W,?_⟩;show _=mkRat (sgn K I) D*mkRat (sgn L J) G;rw[Rat.mkRat_mul_mkRat,he])
theorem jCs:OpC 98 (· - ·):=fun w X hX M A q I h₁ O Z R D k₁ K T f N C z J h₂ Q le₂ S G k₂ L U j V W=>
 (jCr w X hX M A q I h₁ O Z R D k₁ K T f N C z J h₂ Q le₂ S G k₂ L U j).mono (by
  rintro e w' ⟨hu,v,rfl,s,m,hv,hm,he⟩;refine⟨hu,_,rfl,s,m,_,hv,hm,zFb f j,uM V W,?_⟩;show _=mkRat (sgn K I) D-mkRat (sgn L J) G;rw[Rat.sub_eq_add_neg,Rat.neg_mkRat,ui _ _ (by omega) (by omega),he,zOj])
include hX in
theorem zGt(ad:Option Addr)(q j x:Nat)(h:qD (rd w X) ad q j x)(f:Option Addr)(e A y:Nat)(D:qD (rd w X) f e A y)(C:Bool)(G:x<4294967296^512)(I:y<4294967296^512)(hd:0<y)(z:Rat)(J:mkRat (sgn C x) y=z):Calls Tryz.prog 163 #[.agg #[.slice ad q j,.slice f e A,.bool C]] w (Ret E0 w fun w' v=>zAi (old w) w' v z):=by
 subst J;exact qGl w X hX ad q j x h f e A y D C G I hd
theorem zDk(f:Nat)(op:Rat→Rat→Rat)(hcf:∀args w,(callFunc f args).run Tryz.prog w= .ok (.enter f args) w)(hop:OpC f op)(w:World)(X:Hid)(hX:∀k o,X k o→k<w.heap.size)(a:Raw)(D:Option Addr)(A e:Nat)(h₁:zN (rd w X) D A e a.ln)(I:Option Addr)(O K:Nat)(k₁:zN (rd w X) I O K a.ld)(b:Raw)(G:Option Addr)(C j:Nat)(h₂:zN (rd w X) G C j b.ln)(J:Option Addr)(Q L:Nat)(k₂:zN (rd w X) J Q L b.ld)(z:Rat)(hz:op a.rat b.rat=z):Calls Tryz.prog 84 #[.agg #[.bool a.neg,.slice D A e,.slice I O K],.agg #[.bool b.neg,.slice G C j,.slice J Q L],.func (.func f) #[] #[]] w (Ret E0 w fun w' v=>∃u,v= .tuple #[u,.int .i64 (opE a b z)]∧rU (old w) w' u (opR a b z)):=by
 refine zen Tryz.func84 ?_;have G0:St E0 w X w X []:=St.start hX;refine zz 2<|zn pn (.cells #[.bool a.neg,.slice D A e,.slice I O K] 28 (0,0)) G0 fun b3 w3 Y3 G3 C3 N3=>zn pn (.cells #[.bool b.neg,.slice G C j,.slice J Q L] 28 (0,0)) G3 fun b5 w5 Y5 G5 C5 N5=>zn pn (.cells #[.bool false,.slice none 0 0,.slice none 0 0] 28 (0,0)) G5 fun b7 w7 Y7 G7 C7 N7=>zz 5<|zdr G7<|gw 0 2<|gw 2 1 ?_;have J1_:=(Le2 C3 C5).trans C7;refine gC 1 (fun w8 Y8 _ G8 C8=>(wP _ _ G8.lt a _ _ _ (h₁.mono (J1_.trans C8)) _ _ _ (k₁.mono (J1_.trans C8)))) ?_;rintro v9 w8 Y9 w9 G8 C9 rfl;have J2_:=J1_.trans C9;refine gC 3 (fun w10 Y10 _ G10 C10=>(wP _ _ G10.lt b _ _ _ (h₂.mono (J2_.trans C10)) _ _ _ (k₂.mono (J2_.trans C10)))) ?_;rintro v11 w10 Y11 w11 G10 C11 rfl;refine gp1 (al 4 14 (fun b=> .slice (some ⟨b,0,none⟩) 2 2) (.cells #[.int .i64 a.chk,.int .i64 b.chk] 46 (0,0))) (fun b12=>?_);refine gC 5 (vs:=#[.slice (some ⟨b12,0,none⟩) 2 2]) (fun w13 Y13 _ G13 C13=>(qHy _ X0 (qA _) _ _ _ _ [a.chk,b.chk] rfl (by simp) (G13.at0 0 rfl rfl))) ?_
 rintro v14 w13 Y14 w14 G13 C14 rfl;refine gz [6] ?_;refine fM (fun w15 Y15 G15 C15=>?_);refine zz 7<|zb 17 (b:=((orL [a.chk,b.chk])!=0)) (fun J16=>?_) (fun J16=>?_);have F17:(orL [a.chk,b.chk])≠0:=by simpa using J16
 refine zz 5<|zx 1 #[.bool false,.slice none 0 0,.slice none 0 0] G15 fun w18 G18 C18=>zz 5<|zrS [.cell 6 28,.tmp 7] (v:= .tuple #[.agg #[.bool false,.slice none 0 0,.slice none 0 0],.int .i64 (orL [a.chk,b.chk])]) (Res.cM G18 1 (Res.tZ Res.nil)) ?_;obtain⟨M,N⟩:=zUs (z:=z) F17;exact⟨G18.upd,_,rfl,_,by rw[M],by rw[N];exact rZ⟩
 have F19:(orL [a.chk,b.chk])=0:=by simpa using J16
 obtain⟨hca,hcb⟩:=or2_zero ((zJd _ _).symm.trans (by simpa using F19))
 obtain⟨hla,hma,cna,cda,_,_,_⟩:=Raw.chk_ok hca;have bna:val a.ln<jQ:=(zW h₁.hlt cna 128).1 hla;have bda:a.d<jQ:=by unfold Raw.d;split;exact ym (by omega) (by omega);exact(zW k₁.hlt cda 128).1 hma
 have pda:=Raw.d_pos a;have hNna:=h₁.natR cna;have hNda:=k₁.natR cda;obtain⟨hlb,hmb,cnb,cdb,_,_,_⟩:=Raw.chk_ok hcb;have bnb:val b.ln<jQ:=(zW h₂.hlt cnb 128).1 hlb;have bdb:b.d<jQ:=by unfold Raw.d;split;exact ym (by omega) (by omega);exact(zW k₂.hlt cdb 128).1 hmb
 have pdb:=Raw.d_pos b;have hNnb:=h₂.natR cnb;have hNdb:=k₂.natR cdb;refine zz 4 ?_;refine qTw [0,1,2,3] G15<|gz [0]<|gw 1 3<|gw 3 2<|gp (al 7 9 pn (.cells #[.bool false,.slice none 0 0,.slice none 0 0] 28 (0,0))) ?_;have J3_:=((J2_.trans C11).trans C14).trans C15;refine gC 2 (fun w20 Y20 _ G20 C20=>(qAn _ _ G20.lt a.neg _ _ _ (val a.ln) (hNna.mono (J3_.trans C20)) _ _ _ (val a.ld) (hNda.mono (J3_.trans C20)))) ?_ (hPd:=kW.nil.k);rintro v21 w20 Y21 w21 G20 C21 ⟨ad21,len21,P21,ae21,le21,ce21,rfl,hN21,hD21⟩;have J4_:=J3_.trans C21;refine gC 4 (fun w22 Y22 _ G22 C22=>(qAn _ _ G22.lt b.neg _ _ _ (val b.ln) (hNnb.mono (J4_.trans C22)) _ _ _ (val b.ld) (hNdb.mono (J4_.trans C22)))) ?_ (hPd:=kW.nil.k);rintro v23 w22 Y23 w23 G22 C23 ⟨ad23,len23,P23,ae23,le23,ce23,rfl,hN23,hD23⟩;refine gC 5 (hcall:=(fun w=>hcf _ w)) (fun w24 Y24 _ G24 C24=>(hop _ _ G24.lt _ _ _ (val a.ln) (hN21.mono (Le2 C23 C24)) _ _ _ a.d (hD21.mono (Le2 C23 C24)) a.neg (by assumption) (by assumption) _ _ _ (val b.ln) (hN23.mono C24) _ _ _ b.d (hD23.mono C24) b.neg (by assumption) (by assumption) (by assumption) (by assumption))) ?_ (hPd:=kW.nil.k)
 rintro v25 w24 Y25 w25 G24 C25 ⟨sg25,m25,d25,⟨ad25,len25,P25,ae25,le25,ce25,rfl,hN25,hD25⟩,hm25,hd25,hp25,he25⟩;refine gC 6 (fun w26 Y26 _ S C26=>(zGt _ _ S.lt _ _ _ m25 (hN25.mono C26) _ _ _ d25 (hD25.mono C26) sg25 hm25 hd25 hp25 z (he25.trans hz))) ?_ (hPd:=kW.nil.k);rintro v27 w26 Y27 w27 S C27 ⟨U,q,P27,V,R,W,rfl,hN27,Z⟩;refine gs1 (fun b28=>?_) kW.nil.k;refine gX 8 0 #[.bool (decide (z.num<0)),.slice U q P27,.slice V R W] fun w29 Y29 C29=>?_;refine fM (fun w30 Y30 T C30=>?_);refine zz 5<|zo 0 T<|zz 3<|zt 31 (p:=(q:Int)>128) (fun F31=>?_) (fun F31=>?_);refine zz 11<|zx 2 #[.bool false,.slice none 0 0,.slice none 0 0] T fun w32 G32 C32=>zz 5<|zrS [.cell 6 28,.tmp 7] (v:= .tuple #[.agg #[.bool false,.slice none 0 0,.slice none 0 0],.int .i64 4]) (Res.cM G32 2 (Res.tZ Res.nil)) ?_;obtain⟨M,N⟩:=zFl (z:=z) F19 (fun hh=>absurd ((hN27.len_le 128).2 hh.1) (by omega))
 exact⟨G32.upd,_,rfl,_,by rw[M],by rw[N];exact rZ⟩
 refine zz 1<|zo 0 T<|zz 5<|zt 36 (p:=(R:Int)>128) (fun F33=>?_) (fun F33=>?_);refine zz 4<|zx 2 #[.bool false,.slice none 0 0,.slice none 0 0] T fun w34 G34 C34=>zz 5<|zrS [.cell 6 28,.tmp 7] (v:= .tuple #[.agg #[.bool false,.slice none 0 0,.slice none 0 0],.int .i64 4]) (Res.cM G34 2 (Res.tZ Res.nil)) ?_;obtain⟨M,N⟩:=zFl (z:=z) F19 (fun hh=>absurd ((Z.len_le 128).2 hh.2) (by omega))
 exact⟨G34.upd,_,rfl,_,by rw[M],by rw[N];exact rZ⟩
 refine zz 5<|zo 0 T<|zx 2 #[.bool (decide (z.num<0)),.slice U q P27,.slice V R W] T fun w35 G35 C35=>zz 4<|zrS [.cell 6 28,.tmp 7] (v:= .tuple #[.agg #[.bool (decide (z.num<0)),.slice U q P27,.slice V R W],.int .i64 0]) (Res.cM G35 2 (Res.tZ Res.nil)) ?_;obtain⟨M,N⟩:=zXv (z:=z) F19 ⟨(hN27.len_le 128).1 (by omega),(Z.len_le 128).1 (by omega)⟩
 exact⟨G35.upd,_,rfl,_,by rw[M],by rw[N];exact zAi.raw ⟨_,_,_,_,_,_,rfl,((hN27.mono (Le.own S.lt S.upd.size (Le3 C29 C30 C35))).mono Le.orr),((Z.mono (Le.own S.lt S.upd.size (Le3 C29 C30 C35))).mono Le.orr)⟩⟩
end
section
variable (w:World)(X:Hid)(hX:∀k o,X k o→k<w.heap.size)
set_option maxHeartbeats 1000000
include hX in
theorem jBt(a:Raw)(z:Option Addr)(j e:Nat)(U:zN (rd w X) z j e a.ln)(C:Option Addr)(J G:Nat)(W:zN (rd w X) C J G a.ld)(b:Raw)(A:Option Addr)(q f:Nat)(V:zN (rd w X) A q f b.ln)(D:Option Addr)(K I:Nat)(Z:zN (rd w X) D K I b.ld):Calls Tryz.prog 34 #[.agg #[.bool a.neg,.slice z j e,.slice C J G],.agg #[.bool b.neg,.slice A q f,.slice D K I]] w (Ret E0 w fun w' v=>∃u,v= .tuple #[u,.int .i64 (opE a b (a.rat+b.rat))]∧rU (old w) w' u (opR a b (a.rat+b.rat))):=by
 refine zen Tryz.func34 ?_;have G0:St E0 w X w X []:=St.start hX;refine zz 2<|zn pn (.cells #[.bool a.neg,.slice z j e,.slice C J G] 28 (0,0)) G0 fun b3 w3 Y3 G3 C3 N3=>zn pn (.cells #[.bool b.neg,.slice A q f,.slice D K I] 28 (0,0)) G3 fun b5 w5 Y5 G5 C5 N5=>zn pn (.cells #[.bool false,.slice none 0 0,.slice none 0 0] 28 (0,0)) G5 fun b7 w7 Y7 L C7 N7=>zz 5<|zo 2 L<|zo 1 L<|zc L (zDk 83 (·+·) (fun S w=>Tryz.call83 S w) jCv _ _ L.lt a _ _ _ (U.mono (Le3 C3 C5 C7)) _ _ _ (W.mono (Le3 C3 C5 C7)) b _ _ _ (V.mono (Le3 C3 C5 C7)) _ _ _ (Z.mono (Le3 C3 C5 C7)) (a.rat+b.rat) rfl) ?_;rintro v9 w9 G9 C9 N9 ⟨u9,rfl,⟨Q,M,P9,R,le9,T,rfl,hN9,hD9⟩⟩;refine zz 2<|zx 0 #[.bool ((opR a b (a.rat+b.rat)).neg),.slice Q M P9,.slice R le9 T] G9 fun w10 O N=>zz 4<|zrS [.cell 4 28,.tmp 5] (v:= .tuple #[.agg #[.bool ((opR a b (a.rat+b.rat)).neg),.slice Q M P9,.slice R le9 T],.int .i64 (opE a b (a.rat+b.rat))]) (Res.cM O 0 (Res.tZ Res.nil)) ?_;exact⟨O.upd,_,rfl,_,rfl,⟨_,_,_,_,_,_,rfl,((hN9.mono (Le.own L.lt L.upd.size N)).mono Le.orr),((hD9.mono (Le.own L.lt L.upd.size N)).mono Le.orr)⟩⟩
include hX in
theorem jBw(a:Raw)(z:Option Addr)(j e:Nat)(U:zN (rd w X) z j e a.ln)(C:Option Addr)(J G:Nat)(W:zN (rd w X) C J G a.ld)(b:Raw)(A:Option Addr)(q f:Nat)(V:zN (rd w X) A q f b.ln)(D:Option Addr)(K I:Nat)(Z:zN (rd w X) D K I b.ld):Calls Tryz.prog 49 #[.agg #[.bool a.neg,.slice z j e,.slice C J G],.agg #[.bool b.neg,.slice A q f,.slice D K I]] w (Ret E0 w fun w' v=>∃u,v= .tuple #[u,.int .i64 (opE a b (a.rat*b.rat))]∧rU (old w) w' u (opR a b (a.rat*b.rat))):=by
 refine zen Tryz.func49 ?_;have G0:St E0 w X w X []:=St.start hX;refine zz 2<|zn pn (.cells #[.bool a.neg,.slice z j e,.slice C J G] 28 (0,0)) G0 fun b3 w3 Y3 G3 C3 N3=>zn pn (.cells #[.bool b.neg,.slice A q f,.slice D K I] 28 (0,0)) G3 fun b5 w5 Y5 G5 C5 N5=>zn pn (.cells #[.bool false,.slice none 0 0,.slice none 0 0] 28 (0,0)) G5 fun b7 w7 Y7 L C7 N7=>zz 5<|zo 2 L<|zo 1 L<|zc L (zDk 99 (· * ·) (fun S w=>Tryz.call99 S w) zVd _ _ L.lt a _ _ _ (U.mono (Le3 C3 C5 C7)) _ _ _ (W.mono (Le3 C3 C5 C7)) b _ _ _ (V.mono (Le3 C3 C5 C7)) _ _ _ (Z.mono (Le3 C3 C5 C7)) (a.rat*b.rat) rfl) ?_;rintro v9 w9 G9 C9 N9 ⟨u9,rfl,⟨Q,M,P9,R,le9,T,rfl,hN9,hD9⟩⟩;refine zz 2<|zx 0 #[.bool ((opR a b (a.rat*b.rat)).neg),.slice Q M P9,.slice R le9 T] G9 fun w10 O N=>zz 4<|zrS [.cell 4 28,.tmp 5] (v:= .tuple #[.agg #[.bool ((opR a b (a.rat*b.rat)).neg),.slice Q M P9,.slice R le9 T],.int .i64 (opE a b (a.rat*b.rat))]) (Res.cM O 0 (Res.tZ Res.nil)) ?_;exact⟨O.upd,_,rfl,_,rfl,⟨_,_,_,_,_,_,rfl,((hN9.mono (Le.own L.lt L.upd.size N)).mono Le.orr),((hD9.mono (Le.own L.lt L.upd.size N)).mono Le.orr)⟩⟩
include hX in
theorem jBy(a:Raw)(z:Option Addr)(j e:Nat)(U:zN (rd w X) z j e a.ln)(C:Option Addr)(J G:Nat)(W:zN (rd w X) C J G a.ld)(b:Raw)(A:Option Addr)(q f:Nat)(V:zN (rd w X) A q f b.ln)(D:Option Addr)(K I:Nat)(Z:zN (rd w X) D K I b.ld):Calls Tryz.prog 48 #[.agg #[.bool a.neg,.slice z j e,.slice C J G],.agg #[.bool b.neg,.slice A q f,.slice D K I]] w (Ret E0 w fun w' v=>∃u,v= .tuple #[u,.int .i64 (opE a b (a.rat-b.rat))]∧rU (old w) w' u (opR a b (a.rat-b.rat))):=by
 refine zen Tryz.func48 ?_;have G0:St E0 w X w X []:=St.start hX;refine zz 2<|zn pn (.cells #[.bool a.neg,.slice z j e,.slice C J G] 28 (0,0)) G0 fun b3 w3 Y3 G3 C3 N3=>zn pn (.cells #[.bool b.neg,.slice A q f,.slice D K I] 28 (0,0)) G3 fun b5 w5 Y5 G5 C5 N5=>zn pn (.cells #[.bool false,.slice none 0 0,.slice none 0 0] 28 (0,0)) G5 fun b7 w7 Y7 L C7 N7=>zz 5<|zo 2 L<|zo 1 L<|zc L (zDk 98 (· - ·) (fun S w=>Tryz.call98 S w) jCs _ _ L.lt a _ _ _ (U.mono (Le3 C3 C5 C7)) _ _ _ (W.mono (Le3 C3 C5 C7)) b _ _ _ (V.mono (Le3 C3 C5 C7)) _ _ _ (Z.mono (Le3 C3 C5 C7)) (a.rat-b.rat) rfl) ?_;rintro v9 w9 G9 C9 N9 ⟨u9,rfl,⟨Q,M,P9,R,le9,T,rfl,hN9,hD9⟩⟩;refine zz 2<|zx 0 #[.bool ((opR a b (a.rat-b.rat)).neg),.slice Q M P9,.slice R le9 T] G9 fun w10 O N=>zz 4<|zrS [.cell 4 28,.tmp 5] (v:= .tuple #[.agg #[.bool ((opR a b (a.rat-b.rat)).neg),.slice Q M P9,.slice R le9 T],.int .i64 (opE a b (a.rat-b.rat))]) (Res.cM O 0 (Res.tZ Res.nil)) ?_;exact⟨O.upd,_,rfl,_,rfl,⟨_,_,_,_,_,_,rfl,((hN9.mono (Le.own L.lt L.upd.size N)).mono Le.orr),((hD9.mono (Le.own L.lt L.upd.size N)).mono Le.orr)⟩⟩
include hX in
theorem qPw(n:Int)(O: -9223372036854775808≤n)(Q:n≤9223372036854775807):Calls Tryz.prog 47 #[.int .i64 n] w (Ret E0 w fun w' v=>rU X w' v (.of (n:Rat))):=by
 refine zen Tryz.func47 ?_;have D:St E0 w X w X []:=St.start hX;refine zz 2<|zn pn (.cells #[.bool false,.slice none 0 0,.slice none 0 0] 28 (0,0)) D fun N S M z I K=>zz 7<|zc z (zDb _ _ z.lt n (by omega) (by omega)) ?_
 rintro R T G J L ⟨f,e,A,rfl,q⟩;refine zz 1<|zx 0 #[.bool (decide ((n)<0)),.slice f e A,.slice none 0 0] G fun U j C=>zz 3<|zrS [.cell 2 28] (v:= .agg #[.bool (decide ((n)<0)),.slice f e A,.slice none 0 0]) (Res.cM j 0 Res.nil) ?_;exact⟨j.upd,_,rfl,(qNk ((q.mono C).mono j.le)).raw⟩
include hX in
theorem jBu(a:Raw)(C:Option Addr)(z f:Nat)(R:zN (rd w X) C z f a.ln)(G:Option Addr)(L J:Nat)(T:zN (rd w X) G L J a.ld)(b:Raw)(D:Option Addr)(A j:Nat)(S:zN (rd w X) D A j b.ln)(I:Option Addr)(M K:Nat)(U:zN (rd w X) I M K b.ld):Calls Tryz.prog 33 #[.agg #[.bool a.neg,.slice C z f,.slice G L J],.agg #[.bool b.neg,.slice D A j,.slice I M K]] w (Ret E0 w fun w' v=>v= .tuple #[.int .i64 (yQ a b),.int .i64 (xB a b)]):=by
 refine zen Tryz.func33 ?_;have G0:St E0 w X w X []:=St.start hX;refine zz 2<|zn pn (.cells #[.bool a.neg,.slice C z f,.slice G L J] 28 (0,0)) G0 fun b3 w3 Y3 G3 C3 N3=>zn pn (.cells #[.bool b.neg,.slice D A j,.slice I M K] 28 (0,0)) G3 fun b5 w5 Y5 G5 C5 N5=>zz 6<|zdr G5<|gw 0 1<|gw 2 0<|gC 1 (fun w6 Y6 _ G6 C6=>(wP _ _ G6.lt a _ _ _ (R.mono (Le3 C3 C5 C6)) _ _ _ (T.mono (Le3 C3 C5 C6)))) ?_;rintro v7 w6 Y7 w7 G6 C7 rfl;have J1_:=(Le2 C3 C5).trans C7;refine gC 3 (fun w8 Y8 _ G8 C8=>(wP _ _ G8.lt b _ _ _ (S.mono (J1_.trans C8)) _ _ _ (U.mono (J1_.trans C8)))) ?_;rintro v9 w8 Y9 w9 G8 C9 rfl;refine gp1 (al 4 14 (fun b=> .slice (some ⟨b,0,none⟩) 2 2) (.cells #[.int .i64 a.chk,.int .i64 b.chk] 46 (0,0))) (fun b10=>?_);refine gC 5 (vs:=#[.slice (some ⟨b10,0,none⟩) 2 2]) (fun w11 Y11 _ G11 C11=>(qHy _ X0 (qA _) _ _ _ _ [a.chk,b.chk] rfl (by simp) (G11.at0 0 rfl rfl))) ?_
 rintro v12 w11 Y12 w12 G11 C12 rfl;refine gz [6] ?_;refine fM (fun w13 Y13 G13 C13=>?_);refine zz 7<|zb 17 (b:=((orL [a.chk,b.chk])!=0)) (fun J14=>?_) (fun J14=>?_);have F15:(orL [a.chk,b.chk])≠0:=by simpa using J14
 refine zz 10<|zr' (v:= .tuple #[.int .i64 0,.int .i64 (orL [a.chk,b.chk])]) ?_;exact⟨G13.upd,_,rfl,by rw[yQ,xB,←zJd,qm F15]⟩
 have W:(orL [a.chk,b.chk])=0:=by simpa using J14
 obtain⟨hca,hcb⟩:=or2_zero ((zJd _ _).symm.trans (by simpa using W))
 obtain⟨hla,hma,cna,cda,_,_,_⟩:=Raw.chk_ok hca;have bna:val a.ln<jQ:=(zW R.hlt cna 128).1 hla;have bda:a.d<jQ:=by unfold Raw.d;split;exact ym (by omega) (by omega);exact(zW T.hlt cda 128).1 hma
 have pda:=Raw.d_pos a;have hNna:=R.natR cna;have hNda:=T.natR cda;obtain⟨hlb,hmb,cnb,cdb,_,_,_⟩:=Raw.chk_ok hcb;have bnb:val b.ln<jQ:=(zW S.hlt cnb 128).1 hlb;have bdb:b.d<jQ:=by unfold Raw.d;split;exact ym (by omega) (by omega);exact(zW U.hlt cdb 128).1 hmb
 have pdb:=Raw.d_pos b;have hNnb:=S.natR cnb;have hNdb:=U.natR cdb;refine zz 4<|zdrs [0,1,2] G13<|gw 0 2<|gw 2 1<|gp (al 5 8 pn (.cells #[.slice none 0 0,.slice none 0 0,.bool false] 132 (0,0)))<|gp (al 4 7 pn (.cells #[.slice none 0 0,.slice none 0 0,.bool false] 132 (0,0))) ?_;have J2_:=((J1_.trans C9).trans C12).trans C13;refine gC 1 (fun w17 Y17 _ G17 C17=>(qAn _ _ G17.lt a.neg _ _ _ (val a.ln) (hNna.mono (J2_.trans C17)) _ _ _ (val a.ld) (hNda.mono (J2_.trans C17)))) ?_ (hPd:=kW.nil.k.k);rintro v18 w17 Y18 w18 G17 C18 ⟨ad18,len18,P18,ae18,le18,ce18,rfl,hN18,hD18⟩;have J3_:=J2_.trans C18;refine gC 3 (fun w19 Y19 _ G19 C19=>(qAn _ _ G19.lt b.neg _ _ _ (val b.ln) (hNnb.mono (J3_.trans C19)) _ _ _ (val b.ld) (hNdb.mono (J3_.trans C19)))) ?_ (hPd:=kW.nil.k.k);rintro v20 w19 Y20 w20 G19 C20 ⟨ad20,V,P20,ae20,le20,ce20,rfl,hN20,hD20⟩;refine ge (fun e21=>?_) kW.nil.k.k;refine gXs 6 0 [2,3,4] #[.slice ad18 len18 P18,.slice ae18 le18 ce18,.bool a.neg] fun w22 Y22 C22=>gXs 7 1 [2,3,4] #[.slice ad20 V P20,.slice ae20 le20 ce20,.bool b.neg] fun w23 Y23 C23=>?_;refine fM (fun w24 Y24 G24 C24=>?_);refine zz 4<|zo 1 G24<|zz 2<|zx 1 #[.slice ad20 V P20,.slice ae20 le20 ce20,.bool (!b.neg)] G24 fun w25 Z C25=>zz 5<|zo 0 Z<|zo 1 Z ?_;have J4_:=(Le4 C20 C22 C23 C24).trans C25;have J5_:=(Le3 C22 C23 C24).trans C25;refine zc Z (qJq _ _ Z.lt _ _ _ (val a.ln) (hN18.mono J4_) _ _ _ a.d (hD18.mono J4_) a.neg (by assumption) (by assumption) _ _ _ (val b.ln) (hN20.mono J5_) _ _ _ b.d (hD20.mono J5_) (!b.neg) (by assumption) (by assumption)) ?_
 rintro v27 w27 G27 C27 N27 ⟨N,m27,⟨ad27,q,P27,ae27,le27,ce27,rfl,hN27,hD27⟩,hm27,he27⟩;have J6_:=J4_.trans C27;have J7_:=J5_.trans C27;refine zn pn (.cells #[.slice none 0 0,.slice none 0 0,.bool false] 132 (0,0)) G27 fun b29 w29 Y29 G29 C29 N29=>zx 0 #[.slice ad27 q P27,.slice ae27 le27 ce27,.bool N] G29 fun w30 Q C30=>zz 7<|zo 0 Q<|zz 5<|zb 30 (b:=((q:Int)==0)) (fun J31=>?_) (fun J31=>?_);have F32:(q:Int)=0:=by simpa using J31
 have O:_=a.rat-b.rat:=zWm (he27.trans (by rw[zOj])) pda pdb
 have hm0:=hN27.len0.1 (by omega)
 refine zz 10<|zr' (v:= .tuple #[.int .i64 0,.int .i64 0]) ?_;exact⟨Q.upd,_,rfl,by have h0:=W;rw[yQ,xB,←zJd,qn (by simpa using h0),show orL [a.chk,b.chk]=0 by simpa using h0,zFz O hm0]⟩
 have F33:(q:Int)≠0:=by simpa using J31
 have O:_=a.rat-b.rat:=zWm (he27.trans (by rw[zOj])) pda pdb
 have hm0:m27≠0:=fun e=>absurd (hN27.len0.2 e) (by omega)
 refine zz 4<|zo 0 Q<|zz 3<|zb 36 (b:=N) (fun J34=>?_) (fun J34=>?_);have F35:N=true:=by simpa using J34
 rw[F35]at O;refine zz 10<|zr' (v:= .tuple #[.int .i64 (-1),.int .i64 0]) ?_;exact⟨Q.upd,_,rfl,by have h0:=W;rw[yQ,xB,←zJd,qn (by simpa using h0),show orL [a.chk,b.chk]=0 by simpa using h0,qLs O hm0 (qEc pda pdb)]⟩
 have F36:N=false:=by simpa using J34
 rw[F36]at O;refine zz 11<|zr' (v:= .tuple #[.int .i64 1,.int .i64 0]) ?_;exact⟨Q.upd,_,rfl,by have h0:=W;rw[yQ,xB,←zJd,qn (by simpa using h0),show orL [a.chk,b.chk]=0 by simpa using h0,qLt O hm0 (qEc pda pdb)]⟩
end
set_option maxHeartbeats 1000000
theorem jFa(w:World)(X:Hid)(hX:∀k o,X k o→k<w.heap.size)(p q:Int)(hp: -9223372036854775808≤p)(hp2:p≤9223372036854775807)(hq: -9223372036854775808≤q)(hq2:q≤9223372036854775807)(h0:q≠0):Calls Tryz.prog 126 #[.int .i64 p,.int .i64 q] w (Ret E0 w fun w' v=>∃u,v= .tuple #[u,.int .i64 0]∧rU X w' u (.of (mkRat (sgn (!(decide (p<0)==decide (q<0))) p.natAbs) q.natAbs))):=by
 have hB:(18446744073709551616:Nat)≤4294967296^512:=qx (by decide:18446744073709551616≤4294967296^2) (zOa 4294967296 2 512 (by decide) (by decide))
 refine zen Tryz.func126 ?_;have W:St E0 w X w X []:=St.start hX;refine zz 2<|zn pn (.cells #[.bool false,.slice none 0 0,.slice none 0 0] 28 (0,0)) W fun b3 w3 Y3 S C3 N3=>zz 10<|zb 7 (b:=((q)==0)) (fun O=>?_) (fun O=>?_);have F5:(q)=0:=by simpa using O
 exfalso;omega;have F6:(q)≠0:=by simpa using O
 refine zz 6<|zc S (zDb _ _ S.lt p (by omega) (by omega)) ?_
 rintro v8 w8 T C8 N8 ⟨ad8,zCz,P8,rfl,Q⟩;refine zz 1<|zc T (zDb _ _ T.lt q (by omega) (by omega)) ?_
 rintro v10 w10 f M Z ⟨U,R,P10,rfl,K⟩;refine zz 7<|zc f (zGt _ _ f.lt _ _ _ p.natAbs (Q.mono M) _ _ _ q.natAbs K (!((decide ((p)<0))==(decide ((q)<0)))) (by omega) (by omega) (by omega) (mkRat (sgn (!(decide (p<0)==decide (q<0))) p.natAbs) q.natAbs) rfl) ?_
 rintro v12 w12 N V N12 ⟨z,e,I,A,D,C,rfl,L,J⟩;refine zx 0 #[.bool (decide ((mkRat (sgn (!(decide (p<0)==decide (q<0))) p.natAbs) q.natAbs).num<0)),.slice z e I,.slice A D C] N fun w13 j G=>zz 4<|zrS [.cell 4 28,.tmp 5] (v:= .tuple #[.agg #[.bool (decide ((mkRat (sgn (!(decide (p<0)==decide (q<0))) p.natAbs) q.natAbs).num<0)),.slice z e I,.slice A D C],.int .i64 0]) (Res.cM j 0 (Res.tZ Res.nil)) ?_;exact⟨j.upd,_,rfl,_,rfl,zAi.raw ⟨_,_,_,_,_,_,rfl,((L.mono (Le.new f.lt)).mono G).mono j.le,((J.mono (Le.new f.lt)).mono G).mono j.le⟩⟩
section
variable (w:World)(X:Hid)(hX:∀k o,X k o→k<w.heap.size)
set_option maxHeartbeats 1000000
theorem zLq{α:Type}{l:List α}{k:Nat}{x:α}(h:l[k]?=some x):l.take (k+1)=l.take k++[x]:=by rw[List.take_add_one,h];rfl
theorem zBw{α:Type}{l e:List α}{k:Nat}{x:α}(h:l.take k=e.take k)(f:l[k]?=some x)(j:e[k]?=some x):l.take (k+1)=e.take (k+1):=by rw[zLq f,zLq j,h]
theorem dK{α:Type}{l e:List α}{k:Nat}(h:l.take k=e.take k)(j:l.length=e.length)(f:l.length≤k):l=e:=by
 rwa[jv f,jv (by omega)]at h
theorem jEr{α:Type}{l e:List α}{k:Nat}{x y:α}(f:l[k]?=some x)(j:e[k]?=some y)(h:x≠y):l≠e:=by
 rintro rfl;exact h (q8 (f.symm.trans j))
theorem getD_some{l:List Nat}{k:Nat}(h:k<l.length):l[k]?=some (l.getD k 0):=by
 rw[zp,jn h];rfl
theorem zDw{x y:Bool}(h:x=y):Value.bool x= .bool y:=h▸rfl
include hX in
theorem zLv(ad:Option Addr)(len cap:Nat)(l:List Nat)(h:zN (rd w X) ad len cap l)(C:Option Addr)(q K:Nat)(f:List Nat)(D:zN (rd w X) C q K f):Calls Tryz.prog 164 #[.slice ad len cap,.slice C q K] w (Ret E0 w fun _ v=>v= .bool (decide (l=f))):=by
 obtain rfl:=h.hlen;obtain rfl:=D.hlen;have hcap:=h.hcap;have hbig:=h.hbig;have R:=D.hcap;have Q:=D.hbig;refine zen Tryz.func164 ?_;have U:St E0 w X w X []:=St.start hX;refine zz 15<|zb 10 (b:=((l.length:Int)!=(f.length:Int))) (fun M=>?_) (fun M=>?_);have T:(l.length:Int)≠(f.length:Int):=by simpa using M
 refine zz 8<|zr' (v:= .bool false) ?_;exact⟨U.upd,_,rfl,zDw ((we (fun e=>by rw[e]at T;exact T rfl)).symm)⟩
 have F4:(l.length:Int)=(f.length:Int):=by simpa using M
 have G:l.length=f.length:=by omega
 refine zz 10<|zlp Tryz.f164 [] [1,1,0,1,0] (fun(k:Nat)=>[(0,.slice ad l.length cap),(1,.slice C f.length K),(5,.int .i64 (k:Int))]) (fun(k:Nat)w1=>∃(Z:Hid),St E0 w X w1 Z []∧Le (rd w X) (rd w1 Z)∧(l.take k=f.take k)∧(k≤l.length)) (fun(k:Nat)=>l.length-k) 0 ?_ ?_;refine⟨_,U,Le.refl _,rfl,qu _⟩;rintro k w5 K5 O ⟨Y5,V,L,j,S⟩;refine zz 9<|zt 14 (p:=(k:Int)<(l.length:Int)) (fun F6=>?_) (fun F6=>?_);obtain⟨b1,z,rfl,_⟩:=h.addr (by omega)
 have I:=getD_some (l:=l) (k:=k) (by omega)
 obtain⟨b2,A,rfl,_⟩:=D.addr (by omega)
 have J:=getD_some (l:=f) (k:=k) (by omega)
 refine zz 6<|zdr V<|gz [0,1]<|gi 2 (b:=b1) (off:=z) (len:=l.length) (cap:=cap) (kd:= .i64) (i:=(k:Int)) 1 (z+k)<|gl 3 ((h.cell (i:=k) (by omega)).mono L)<|gz [4,5]<|gi 6 (b:=b2) (off:=A) (len:=f.length) (cap:=K) (kd:= .i64) (i:=(k:Int)) 1 (A+k)<|gl 7 ((D.cell (i:=k) (by omega)).mono L)<|gz [8] ?_
 refine fM (fun w7 Y7 W C7=>?_);refine zz 1<|zb 25 (b:=(((l.getD k 0:Nat):Int)!=((f.getD k 0:Nat):Int))) (fun N=>?_) (fun N=>?_);have F9:((l.getD k 0:Nat):Int)≠((f.getD k 0:Nat):Int):=by simpa using N
 refine zz 12<|zr' (v:= .bool false) ?_;exact⟨W.upd,_,rfl,zDw ((we (jEr I J (fun e=>F9 (by rw[e])))).symm)⟩
 have F10:((l.getD k 0:Nat):Int)=((f.getD k 0:Nat):Int):=by simpa using N
 refine zz 7<|zw 16 (x:=(k:Int)+1)<|zz 2 ?_;refine kT (fun a h=>O (k+1) _ a h ⟨_,W,(Le2 L C7),zBw j I (by rw[show l.getD k 0=f.getD k 0 by omega];exact J),by omega⟩ ?_)
 first | omega | (simp<;>omega)
 refine zz 12<|zr' (v:= .bool true) ?_;exact⟨V.upd,_,rfl,zDw ((kn (dK j G (by omega))).symm)⟩
include hX in
theorem vN(ad:Option Addr)(q j:Nat)(l:List Nat)(h:zN (rd w X) ad q j l)(f:Option Addr)(e I:Nat)(D:List Nat)(z:zN (rd w X) f e I D):Calls Tryz.prog 85 #[.slice ad q j,.slice f e I] w (Ret E0 w fun _ v=>v= .bool (decide (l=D))):=by
 obtain rfl:=h.hlen;obtain rfl:=z.hlen;have K:=h.hcap;have J:=h.hbig;have C:=z.hcap;have A:=z.hbig;refine zen Tryz.func85 ?_;have G:St E0 w X w X []:=St.start hX;refine zz 9<|zc G (zLv _ _ G.lt _ _ _ _ h _ _ _ _ z) ?_;rintro O Q L M N rfl;refine zz 4<|zr' (v:= .bool (decide (l=D))) ?_;exact⟨L.upd,_,rfl,rfl⟩
theorem zOd{a b:Raw}:a=b↔a.neg=b.neg∧a.ln=b.ln∧a.ld=b.ld:=by cases a;cases b;simp
include hX in
theorem zSs(a:Raw)(z:Option Addr)(j e:Nat)(O:zN (rd w X) z j e a.ln)(C:Option Addr)(J G:Nat)(R:zN (rd w X) C J G a.ld)(b:Raw)(A:Option Addr)(q f:Nat)(Q:zN (rd w X) A q f b.ln)(D:Option Addr)(K I:Nat)(S:zN (rd w X) D K I b.ld):Calls Tryz.prog 37 #[.agg #[.bool a.neg,.slice z j e,.slice C J G],.agg #[.bool b.neg,.slice A q f,.slice D K I]] w (Ret E0 w fun _ v=>v= .bool (decide (a=b))):=by
 refine zen Tryz.func37 ?_;have G0:St E0 w X w X []:=St.start hX;refine zz 2<|zn pn (.cells #[.bool a.neg,.slice z j e,.slice C J G] 28 (0,0)) G0 fun b3 w3 Y3 G3 T N3=>zn pn (.cells #[.bool b.neg,.slice A q f,.slice D K I] 28 (0,0)) G3 fun b5 w5 Y5 L U N5=>zz 6<|zo 1 L<|zz 1<|zo 0 L<|zz 2<|zb 10 (b:=(a.neg==b.neg)) (fun W=>?_) (fun W=>?_);have F7:a.neg=b.neg:=by simpa using W
 refine zz 1<|zo 1 L<|zz 1<|zo 0 L<|zc L (vN _ _ L.lt _ _ _ _ (O.mono (Le2 T U)) _ _ _ _ (Q.mono (Le2 T U))) ?_;rintro v9 w9 N Z N9 rfl;refine zz 2<|zb 17 (b:=(decide (a.ln=b.ln))) (fun M=>?_) (fun M=>?_);have F11:a.ln=b.ln:=jc M;refine zz 1<|zo 1 N<|zz 1<|zo 0 N<|zc N (vN _ _ N.lt _ _ _ _ (R.mono (Le3 T U Z)) _ _ _ _ (S.mono (Le3 T U Z))) ?_;rintro v13 w13 V C13 N13 rfl;refine zz 5<|zr' (v:= .bool (decide (a.ld=b.ld))) ?_;refine⟨V.upd,_,rfl,zDw ?_⟩;refine j5.2 ?_;rw[show(decide (a=b)=true)↔_ from uq.trans zOd];simp_all;have F14:¬(a.ln=b.ln):=k7 M;refine zz 10<|zr' (v:= .bool false) ?_;refine⟨N.upd,_,rfl,zDw ?_⟩;refine j5.2 ?_;rw[show(decide (a=b)=true)↔_ from uq.trans zOd];simp_all;have F15:a.neg≠b.neg:=by simpa using W
 refine zz 17<|zr' (v:= .bool false) ?_;refine⟨L.upd,_,rfl,zDw ?_⟩;refine j5.2 ?_;rw[show(decide (a=b)=true)↔_ from uq.trans zOd];simp_all
end
section
variable (w:World)(X:Hid)(hX:∀k o,X k o→k<w.heap.size)
set_option maxHeartbeats 1000000
include hX in
theorem qWc(M:Option Addr)(L I T:Nat)(h₁:qD (rd w X) M L I T)(N:Option Addr)(Q O R:Nat)(k₁:qD (rd w X) N Q O R)(V:Bool)(J:T<jQ)(j:R<jQ)(G:Option Addr)(C A U:Nat)(h₂:qD (rd w X) G C A U)(e:Option Addr)(z f S:Nat)(k₂:qD (rd w X) e z f S)(D:Bool)(K:U<jQ)(q:S<jQ):Calls Tryz.prog 159 #[.agg #[.slice M L I,.slice N Q O,.bool V],.agg #[.slice G C A,.slice e z f,.bool D]] w (Ret E0 w fun w' v=>∃s m,zSz X w' v s m (R*U)∧m<4294967296^512∧sgn s m=sgn V T*sgn D S):=by
 refine zen Tryz.func159 ?_;have G0:St E0 w X w X []:=St.start hX;have hb:∀{x:Nat},x<jQ→x<4294967296^512:=fun h=>z8 h qFv;have hbn1:=hb J;have hbn2:=hb K;have hbd1:=hb j;have hbd2:=hb q;obtain⟨hp1,hp12⟩:=kG J q K j;have hp2:=(kG K j J q).1;have hpd:=(kG j q j q).1;have hpn:=(kG J K j q).1;refine zz 2<|zn pn (.cells #[.slice M L I,.slice N Q O,.bool V] 132 (0,0)) G0 fun b3 w3 Y3 G3 C3 N3=>zn pn (.cells #[.slice G C A,.slice e z f,.bool D] 132 (0,0)) G3 fun b5 w5 Y5 G5 C5 N5=>zn pn (.cells #[.slice none 0 0,.slice none 0 0,.bool false] 132 (0,0)) G5 fun b7 w7 Y7 G7 C7 N7=>zz 6<|zo 1 G7<|zz 2<|zo 1 G7<|zz 2 ?_;refine zx 1 #[.slice e z f,.slice e z f,.bool D] G7 fun w8 G8 C8=>zz 2<|zx 1 #[.slice e z f,.slice G C A,.bool D] G8 fun w9 G9 C9=>zz 4<|zo 2 G9<|zo 1 G9 ?_;have W:=(Le4 C3 C5 C7 C8).trans C9;refine zc G9 (zLk _ _ G9.lt _ _ _ T (h₁.mono W) _ _ _ R (k₁.mono W) V (by assumption) (by assumption) _ _ _ S (k₂.mono W) _ _ _ U (h₂.mono W) D (by assumption) (by assumption)) ?_
 rintro v11 w11 G11 C11 N11 ⟨sg11,m11,⟨ad11,Z,P11,ae11,le11,ce11,rfl,hN11,hD11⟩,hm11,he11⟩;have J2_:=W.trans C11;refine zx 0 #[.slice ad11 Z P11,.slice ae11 le11 ce11,.bool sg11] G11 fun w12 G12 C12=>zz 3<|zrS [.cell 4 132] (v:= .agg #[.slice ad11 Z P11,.slice ae11 le11 ce11,.bool sg11]) (Res.cM G12 0 Res.nil) ?_;exact⟨G12.upd,_,rfl,_,_,⟨_,_,_,_,_,_,rfl,(hN11.mono C12).mono G12.le,(hD11.mono C12).mono G12.le⟩,hm11,he11⟩
def OpD(f:Nat)(op:Rat→Rat→Rat):Prop:=∀(w:World)(X:Hid)(hX:∀k o,X k o→k<w.heap.size)(G:Option Addr)(A e Q:Nat)(h₁:qD (rd w X) G A e Q)(J:Option Addr)(N L q:Nat)(k₁:qD (rd w X) J N L q)(R:Bool)(V:Q<jQ)(T:q<jQ)(I:Option Addr)(C j D:Nat)(h₂:qD (rd w X) I C j D)(K:Option Addr)(O M z:Nat)(k₂:qD (rd w X) K O M z)(S:Bool)(W:D<jQ)(U:z<jQ)(Z:0<q)(hp₂:0<z)(hz:D≠0),Calls Tryz.prog f #[.agg #[.slice G A e,.slice J N L,.bool R],.agg #[.slice I C j,.slice K O M,.bool S]] w (Ret E0 w fun w' v=>∃s m d,zSz X w' v s m d∧m<4294967296^512∧d<4294967296^512∧0<d∧mkRat (sgn s m) d=op (mkRat (sgn R Q) q) (mkRat (sgn S D) z))
theorem qNl(s:Bool)(a b:Nat):(mkRat (sgn s a) b)⁻¹=mkRat (sgn s b) a:=by
 rw[←Rat.divInt_ofNat,Rat.inv_divInt,←Rat.divInt_ofNat];cases s
 ·rfl
 ·show Rat.divInt b (-(a:Int))=Rat.divInt (-(b:Int)) a;rw[←Rat.neg_divInt_neg,Int.neg_neg]
theorem qWd:OpD 159 (·/ ·):=fun w X hX M A q I h₁ O W R D k₁ K U f N C z J h₂ Q Z S G k₂ L j T V hp₂ hz=>
 (qWc w X hX M A q I h₁ O W R D k₁ K U f N C z J h₂ Q Z S G k₂ L j T).mono (by
  rintro e w' ⟨hu,v,rfl,s,m,hv,hm,he⟩;refine⟨hu,_,rfl,s,m,_,hv,hm,zFb f j,uM V (vd hz),?_⟩;show _=mkRat (sgn K I) D / mkRat (sgn L J) G;rw[Rat.div_def,qNl,Rat.mkRat_mul_mkRat,he])
theorem zUu(f:Nat)(op:Rat→Rat→Rat)(hcf:∀args w,(callFunc f args).run Tryz.prog w= .ok (.enter f args) w)(hop:OpD f op)(w:World)(X:Hid)(hX:∀k o,X k o→k<w.heap.size)(a:Raw)(D:Option Addr)(A e:Nat)(h₁:zN (rd w X) D A e a.ln)(I:Option Addr)(O K:Nat)(k₁:zN (rd w X) I O K a.ld)(b:Raw)(G:Option Addr)(C j:Nat)(h₂:zN (rd w X) G C j b.ln)(J:Option Addr)(Q L:Nat)(k₂:zN (rd w X) J Q L b.ld)(hb0:val b.ln≠0)(z:Rat)(hz:op a.rat b.rat=z):Calls Tryz.prog 84 #[.agg #[.bool a.neg,.slice D A e,.slice I O K],.agg #[.bool b.neg,.slice G C j,.slice J Q L],.func (.func f) #[] #[]] w (Ret E0 w fun w' v=>∃u,v= .tuple #[u,.int .i64 (opE a b z)]∧rU (old w) w' u (opR a b z)):=by
 refine zen Tryz.func84 ?_;have G0:St E0 w X w X []:=St.start hX;refine zz 2<|zn pn (.cells #[.bool a.neg,.slice D A e,.slice I O K] 28 (0,0)) G0 fun b3 w3 Y3 G3 C3 N3=>zn pn (.cells #[.bool b.neg,.slice G C j,.slice J Q L] 28 (0,0)) G3 fun b5 w5 Y5 G5 C5 N5=>zn pn (.cells #[.bool false,.slice none 0 0,.slice none 0 0] 28 (0,0)) G5 fun b7 w7 Y7 G7 C7 N7=>zz 5<|zdr G7<|gw 0 2<|gw 2 1 ?_;have J1_:=(Le2 C3 C5).trans C7;refine gC 1 (fun w8 Y8 _ G8 C8=>(wP _ _ G8.lt a _ _ _ (h₁.mono (J1_.trans C8)) _ _ _ (k₁.mono (J1_.trans C8)))) ?_;rintro v9 w8 Y9 w9 G8 C9 rfl;have J2_:=J1_.trans C9;refine gC 3 (fun w10 Y10 _ G10 C10=>(wP _ _ G10.lt b _ _ _ (h₂.mono (J2_.trans C10)) _ _ _ (k₂.mono (J2_.trans C10)))) ?_;rintro v11 w10 Y11 w11 G10 C11 rfl;refine gp1 (al 4 14 (fun b=> .slice (some ⟨b,0,none⟩) 2 2) (.cells #[.int .i64 a.chk,.int .i64 b.chk] 46 (0,0))) (fun b12=>?_);refine gC 5 (vs:=#[.slice (some ⟨b12,0,none⟩) 2 2]) (fun w13 Y13 _ G13 C13=>(qHy _ X0 (qA _) _ _ _ _ [a.chk,b.chk] rfl (by simp) (G13.at0 0 rfl rfl))) ?_
 rintro v14 w13 Y14 w14 G13 C14 rfl;refine gz [6] ?_;refine fM (fun w15 Y15 G15 C15=>?_);refine zz 7<|zb 17 (b:=((orL [a.chk,b.chk])!=0)) (fun J16=>?_) (fun J16=>?_);have F17:(orL [a.chk,b.chk])≠0:=by simpa using J16
 refine zz 5<|zx 1 #[.bool false,.slice none 0 0,.slice none 0 0] G15 fun w18 G18 C18=>zz 5<|zrS [.cell 6 28,.tmp 7] (v:= .tuple #[.agg #[.bool false,.slice none 0 0,.slice none 0 0],.int .i64 (orL [a.chk,b.chk])]) (Res.cM G18 1 (Res.tZ Res.nil)) ?_;obtain⟨M,N⟩:=zUs (z:=z) F17;exact⟨G18.upd,_,rfl,_,by rw[M],by rw[N];exact rZ⟩
 have F19:(orL [a.chk,b.chk])=0:=by simpa using J16
 obtain⟨hca,hcb⟩:=or2_zero ((zJd _ _).symm.trans (by simpa using F19))
 obtain⟨hla,hma,cna,cda,_,_,_⟩:=Raw.chk_ok hca;have bna:val a.ln<jQ:=(zW h₁.hlt cna 128).1 hla;have bda:a.d<jQ:=by unfold Raw.d;split;exact ym (by omega) (by omega);exact(zW k₁.hlt cda 128).1 hma
 have pda:=Raw.d_pos a;have hNna:=h₁.natR cna;have hNda:=k₁.natR cda;obtain⟨hlb,hmb,cnb,cdb,_,_,_⟩:=Raw.chk_ok hcb;have bnb:val b.ln<jQ:=(zW h₂.hlt cnb 128).1 hlb;have bdb:b.d<jQ:=by unfold Raw.d;split;exact ym (by omega) (by omega);exact(zW k₂.hlt cdb 128).1 hmb
 have pdb:=Raw.d_pos b;have hNnb:=h₂.natR cnb;have hNdb:=k₂.natR cdb;refine zz 4 ?_;refine qTw [0,1,2,3] G15<|gz [0]<|gw 1 3<|gw 3 2<|gp (al 7 9 pn (.cells #[.bool false,.slice none 0 0,.slice none 0 0] 28 (0,0))) ?_;have J3_:=((J2_.trans C11).trans C14).trans C15;refine gC 2 (fun w20 Y20 _ G20 C20=>(qAn _ _ G20.lt a.neg _ _ _ (val a.ln) (hNna.mono (J3_.trans C20)) _ _ _ (val a.ld) (hNda.mono (J3_.trans C20)))) ?_ (hPd:=kW.nil.k);rintro v21 w20 Y21 w21 G20 C21 ⟨ad21,len21,P21,ae21,le21,ce21,rfl,hN21,hD21⟩;have J4_:=J3_.trans C21;refine gC 4 (fun w22 Y22 _ G22 C22=>(qAn _ _ G22.lt b.neg _ _ _ (val b.ln) (hNnb.mono (J4_.trans C22)) _ _ _ (val b.ld) (hNdb.mono (J4_.trans C22)))) ?_ (hPd:=kW.nil.k);rintro v23 w22 Y23 w23 G22 C23 ⟨ad23,len23,P23,ae23,le23,ce23,rfl,hN23,hD23⟩;refine gC 5 (hcall:=(fun w=>hcf _ w)) (fun w24 Y24 _ G24 C24=>(hop _ _ G24.lt _ _ _ (val a.ln) (hN21.mono (Le2 C23 C24)) _ _ _ a.d (hD21.mono (Le2 C23 C24)) a.neg (by assumption) (by assumption) _ _ _ (val b.ln) (hN23.mono C24) _ _ _ b.d (hD23.mono C24) b.neg (by assumption) (by assumption) (by assumption) (by assumption) (by assumption))) ?_ (hPd:=kW.nil.k)
 rintro v25 w24 Y25 w25 G24 C25 ⟨sg25,m25,d25,⟨ad25,len25,P25,ae25,le25,ce25,rfl,hN25,hD25⟩,hm25,hd25,hp25,he25⟩;refine gC 6 (fun w26 Y26 _ S C26=>(zGt _ _ S.lt _ _ _ m25 (hN25.mono C26) _ _ _ d25 (hD25.mono C26) sg25 hm25 hd25 hp25 z (he25.trans hz))) ?_ (hPd:=kW.nil.k);rintro v27 w26 Y27 w27 S C27 ⟨U,q,P27,V,R,W,rfl,hN27,Z⟩;refine gs1 (fun b28=>?_) kW.nil.k;refine gX 8 0 #[.bool (decide (z.num<0)),.slice U q P27,.slice V R W] fun w29 Y29 C29=>?_;refine fM (fun w30 Y30 T C30=>?_);refine zz 5<|zo 0 T<|zz 3<|zt 31 (p:=(q:Int)>128) (fun F31=>?_) (fun F31=>?_);refine zz 11<|zx 2 #[.bool false,.slice none 0 0,.slice none 0 0] T fun w32 G32 C32=>zz 5<|zrS [.cell 6 28,.tmp 7] (v:= .tuple #[.agg #[.bool false,.slice none 0 0,.slice none 0 0],.int .i64 4]) (Res.cM G32 2 (Res.tZ Res.nil)) ?_;obtain⟨M,N⟩:=zFl (z:=z) F19 (fun hh=>absurd ((hN27.len_le 128).2 hh.1) (by omega))
 exact⟨G32.upd,_,rfl,_,by rw[M],by rw[N];exact rZ⟩
 refine zz 1<|zo 0 T<|zz 5<|zt 36 (p:=(R:Int)>128) (fun F33=>?_) (fun F33=>?_);refine zz 4<|zx 2 #[.bool false,.slice none 0 0,.slice none 0 0] T fun w34 G34 C34=>zz 5<|zrS [.cell 6 28,.tmp 7] (v:= .tuple #[.agg #[.bool false,.slice none 0 0,.slice none 0 0],.int .i64 4]) (Res.cM G34 2 (Res.tZ Res.nil)) ?_;obtain⟨M,N⟩:=zFl (z:=z) F19 (fun hh=>absurd ((Z.len_le 128).2 hh.2) (by omega))
 exact⟨G34.upd,_,rfl,_,by rw[M],by rw[N];exact rZ⟩
 refine zz 5<|zo 0 T<|zx 2 #[.bool (decide (z.num<0)),.slice U q P27,.slice V R W] T fun w35 G35 C35=>zz 4<|zrS [.cell 6 28,.tmp 7] (v:= .tuple #[.agg #[.bool (decide (z.num<0)),.slice U q P27,.slice V R W],.int .i64 0]) (Res.cM G35 2 (Res.tZ Res.nil)) ?_;obtain⟨M,N⟩:=zXv (z:=z) F19 ⟨(hN27.len_le 128).1 (by omega),(Z.len_le 128).1 (by omega)⟩
 exact⟨G35.upd,_,rfl,_,by rw[M],by rw[N];exact zAi.raw ⟨_,_,_,_,_,_,rfl,((hN27.mono (Le.own S.lt S.upd.size (Le3 C29 C30 C35))).mono Le.orr),((Z.mono (Le.own S.lt S.upd.size (Le3 C29 C30 C35))).mono Le.orr)⟩⟩
include hX in
theorem jBv(a:Raw)(C:Option Addr)(A j:Nat)(U:zN (rd w X) C A j a.ln)(G:Option Addr)(L J:Nat)(V:zN (rd w X) G L J a.ld)(b:Raw)(D:Option Addr)(e q:Nat)(N:zN (rd w X) D e q b.ln)(I:Option Addr)(M K:Nat)(W:zN (rd w X) I M K b.ld)(hb0:val b.ln≠0):Calls Tryz.prog 80 #[.agg #[.bool a.neg,.slice C A j,.slice G L J],.agg #[.bool b.neg,.slice D e q,.slice I M K]] w (Ret E0 w fun w' v=>∃u,v= .tuple #[u,.int .i64 (opE a b (a.rat / b.rat))]∧rU (old w) w' u (opR a b (a.rat / b.rat))):=by
 refine zen Tryz.func80 ?_;have G0:St E0 w X w X []:=St.start hX;refine zz 2<|zn pn (.cells #[.bool a.neg,.slice C A j,.slice G L J] 28 (0,0)) G0 fun b3 w3 Y3 G3 C3 N3=>zn pn (.cells #[.bool b.neg,.slice D e q,.slice I M K] 28 (0,0)) G3 fun b5 w5 Y5 G5 C5 N5=>zn pn (.cells #[.bool false,.slice none 0 0,.slice none 0 0] 28 (0,0)) G5 fun b7 w7 Y7 G7 C7 N7=>zz 5<|zdr G7<|gw 0 2<|gw 2 1 ?_;have J1_:=(Le2 C3 C5).trans C7;refine gC 1 (fun w8 Y8 _ G8 C8=>(wP _ _ G8.lt a _ _ _ (U.mono (J1_.trans C8)) _ _ _ (V.mono (J1_.trans C8)))) ?_;rintro v9 w8 Y9 w9 G8 C9 rfl;have J2_:=J1_.trans C9;refine gC 3 (fun w10 Y10 _ G10 C10=>(wP _ _ G10.lt b _ _ _ (N.mono (J2_.trans C10)) _ _ _ (W.mono (J2_.trans C10)))) ?_;rintro v11 w10 Y11 w11 G10 C11 rfl;refine gp1 (al 4 11 (fun b=> .slice (some ⟨b,0,none⟩) 2 2) (.cells #[.int .i64 a.chk,.int .i64 b.chk] 46 (0,0))) (fun b12=>?_);refine gC 5 (vs:=#[.slice (some ⟨b12,0,none⟩) 2 2]) (fun w13 Y13 _ G13 C13=>(qHy _ X0 (qA _) _ _ _ _ [a.chk,b.chk] rfl (by simp) (G13.at0 0 rfl rfl))) ?_
 rintro v14 w13 Y14 w14 G13 C14 rfl;refine gz [6] ?_;refine fM (fun w15 Y15 f C15=>?_);refine zz 7<|zb 14 (b:=((orL [a.chk,b.chk])!=0)) (fun J16=>?_) (fun J16=>?_);have F17:(orL [a.chk,b.chk])≠0:=by simpa using J16
 refine zz 5<|zx 1 #[.bool false,.slice none 0 0,.slice none 0 0] f fun w18 G18 C18=>zz 5<|zrS [.cell 4 28,.tmp 5] (v:= .tuple #[.agg #[.bool false,.slice none 0 0,.slice none 0 0],.int .i64 (orL [a.chk,b.chk])]) (Res.cM G18 1 (Res.tZ Res.nil)) ?_;obtain⟨he1,he2⟩:=zUs (z:=a.rat / b.rat) F17;exact⟨G18.upd,_,rfl,_,by rw[he1],by rw[he2];exact rZ⟩
 have F19:(orL [a.chk,b.chk])=0:=by simpa using J16
 refine zz 7<|zo 2 f<|zz 4<|zb 20 (b:=((e:Int)==0)) (fun J20=>?_) (fun J20=>?_);have F21:(e:Int)=0:=by simpa using J20
 exact absurd (by have:=N.hlen;have hl:b.ln=[]:=uJ.1 (by omega);rw[hl];rfl) hb0
 have F22:(e:Int)≠0:=by simpa using J20
 refine zz 5<|zo 3 f<|zo 2 f ?_;have Q:=((J2_.trans C11).trans C14).trans C15;refine zc f (zUu 159 (·/ ·) (fun args w=>Tryz.call159 args w) qWd _ _ f.lt a _ _ _ (U.mono Q) _ _ _ (V.mono Q) b _ _ _ (N.mono Q) _ _ _ (W.mono Q) hb0 (a.rat / b.rat) rfl) ?_;rintro v24 w24 G24 C24 N24 ⟨u24,rfl,⟨R,O,P24,S,Z,T,rfl,hN24,hD24⟩⟩;refine zz 2<|zx 1 #[.bool ((opR a b (a.rat / b.rat)).neg),.slice R O P24,.slice S Z T] G24 fun w25 G25 C25=>zz 4<|zrS [.cell 4 28,.tmp 5] (v:= .tuple #[.agg #[.bool ((opR a b (a.rat / b.rat)).neg),.slice R O P24,.slice S Z T],.int .i64 (opE a b (a.rat / b.rat))]) (Res.cM G25 1 (Res.tZ Res.nil)) ?_;exact⟨G25.upd,_,rfl,_,rfl,⟨_,_,_,_,_,_,rfl,((hN24.mono (Le.own f.lt f.upd.size C25)).mono Le.orr),((hD24.mono (Le.own f.lt f.upd.size C25)).mono Le.orr)⟩⟩
end
section
variable (w:World)(X:Hid)(hX:∀k o,X k o→k<w.heap.size)
set_option maxHeartbeats 1000000
include hX in
theorem zGb(ad:Option Addr)(len cap:Nat)(l:List Nat)(h:zN (rd w X) ad len cap l):
    Calls Tryz.prog 236 #[.slice ad len cap] w (Ret E0 w fun _ v=>v= .slice ad (qV l) cap):=by
 obtain rfl:=h.hlen;have hl:=h.hlen;have N:=h.hcap;have M:=h.hbig;refine zen Tryz.func236 ?_;have R:St E0 w X w X []:=St.start hX;refine zz 7<|zlp Tryz.f236 [] [1,0,0] (fun(k:Nat)=>[(0,.slice ad k cap)]) (fun(k:Nat)w1=>∃(L:Hid),St E0 w X w1 L []∧Le (rd w X) (rd w1 L)∧(k≤l.length)∧(kC l k=kC l l.length)) (fun(k:Nat)=>k) l.length ?_ ?_
 ·
  refine⟨_,R,Le.refl _,zq _,rfl⟩
 rintro k w2 S I ⟨W,D,K,A,C⟩;have hk:=A;have ht:=C;refine zz 7<|zt 6 (p:=(k:Int)>0) (fun Q=>?_) (fun Q=>?_)
 ·
  obtain⟨j,f,rfl,_⟩:=h.addr (by omega)
  have q:=(h.cell (i:=k-1) (by omega))
  refine zz 4<|zw 10 (x:=(k:Int)-1)<|zi (b:=j) (off:=f) (len:=k) (cap:=cap) (kd:= .i64) (i:=(k:Int)-1) 1 (f+(k-1)) ?_ (hoff:=(by first | omega | (simp;done) | (simp;omega)))
  refine zl ((q.mono K)).cells<|zz 4<|zb 14 (b:=(((l.getD (k-1) 0:Nat):Int)==0)) (fun G=>?_) (fun G=>?_)
  ·
   have V:((l.getD (k-1) 0:Nat):Int)=0:=by simpa using G
   have z:=zEl (l:=l) (k:=k) (by omega) (by omega)
   refine zz 9<|zw 18 (x:=(k:Int)-1)<|zop (at1 [S] Tryz.f236 [1,0,0,0,1,0]) 4 (fun Z _ T J=>zE (d:=19) (v:= .slice (some ⟨j,f,none⟩) (k-1) cap) T kr (zBs (t:=26) (e:=214) (ad:=(some ⟨j,f,none⟩)) (len:=k) (cap:=cap) (kd:= .i64) (i:=(k:Int)-1) (h':=(k-1)) (g:=false) (m:=1) rfl kr kr kr kr (by omega) (by omega) (by first | omega | (simp;done) | (simp;omega)) _) ?_)
   intro a9 U;refine J U<|zz 3 ?_;refine kT (fun a h=>I (k-1) _ a h ⟨_,D,K,by omega,by omega⟩ ?_)
   first | omega | (simp<;>omega)
  have O:((l.getD (k-1) 0:Nat):Int)≠0:=by simpa using G
  have z:=zEk (l:=l) (k:=k) (by omega) (by omega)
  refine zz 13<|zr' (v:= .slice (some ⟨j,f,none⟩) k cap) ?_;exact⟨D.upd,_,rfl,by unfold qV;first | rw[←ht,z] | rw[←ht];rfl⟩
 obtain rfl:k=0:=by omega
 refine zz 23<|zr' (v:= .slice ad 0 cap) ?_;exact⟨D.upd,_,rfl,by unfold qV;first | rw[←ht,z] | rw[←ht];rfl⟩
include hX in
theorem zPn(ad:Option Addr)(len cap:Nat)(l:List Nat)(h:zN (rd w X) ad len cap l):Calls Tryz.prog 149 #[.slice ad len cap] w (Ret E0 w fun _ v=>v= .int .i64 (jG l)):=by
 obtain rfl:=h.hlen;have A:=h.hcap;have z:=h.hbig;refine zen Tryz.func149 ?_;have f:St E0 w X w X []:=St.start hX;refine zz 13<|zt 5 (p:=(l.length:Int)>512) (fun C=>?_) (fun C=>?_);refine zz 8<|zr' (v:= .int .i64 4) ?_;exact⟨f.upd,_,rfl,zQ (by unfold jG;(repeat' split)<;>first | rfl | omega)⟩
 refine zz 10<|zt 9 (p:=(l.length:Int)>0) (fun D=>?_) (fun D=>?_);obtain⟨q,e,rfl,_⟩:=h.addr (by omega)
 refine zz 4<|zw 13 (x:=(l.length:Int)-1)<|zi (b:=q) (off:=e) (len:=l.length) (cap:=cap) (kd:= .i64) (i:=(l.length:Int)-1) 1 (e+(l.length-1)) ?_ (hoff:=(by first | omega | (simp;done) | (simp;omega)))
 refine zl ((h.cell (i:=(l.length-1)) (by omega)).mono (Le.refl _)).cells<|zz 4<|zb 17 (b:=(((l.getD (l.length-1) 0:Nat):Int)==0)) (fun j=>?_) (fun j=>?_)
 have G:((l.getD (l.length-1) 0:Nat):Int)=0:=by simpa using j
 refine zz 8<|zr' (v:= .int .i64 2) ?_;exact⟨f.upd,_,rfl,zQ (by unfold jG;(repeat' split)<;>first | rfl | omega)⟩
 have I:((l.getD (l.length-1) 0:Nat):Int)≠0:=by simpa using j
 refine zz 9<|zr' (v:= .int .i64 0) ?_;exact⟨f.upd,_,rfl,zQ (by unfold jG;(repeat' split)<;>first | rfl | omega)⟩
 refine zz 19<|zr' (v:= .int .i64 0) ?_;exact⟨f.upd,_,rfl,zQ (by unfold jG;(repeat' split)<;>first | rfl | omega)⟩
include hX in
theorem nL(ad:Option Addr)(len cap:Nat)(l:List Nat)(h:zN (rd w X) ad len cap l)(i:Nat):Calls Tryz.prog 262 #[.slice ad len cap,.int .i64 (i:Int)] w (Ret E0 w fun _ v=>v= .int .u64 ((l.getD i 0:Nat):Int)):=by
 obtain rfl:=h.hlen;have z:=h.hcap;have q:=h.hbig;have hlt:=h.getD_lt i;refine zen Tryz.func262 ?_;have j:St E0 w X w X []:=St.start hX;refine zz 14<|zt 8 (p:=(i:Int)<(l.length:Int)) (fun A=>?_) (fun A=>?_);obtain⟨f,e,rfl,_⟩:=h.addr (by omega)
 refine zz 5<|zi (b:=f) (off:=e) (len:=l.length) (cap:=cap) (kd:= .i64) (i:=(i:Int)) 1 (e+i)<|zl ((h.cell (i:=i) (by omega)).mono (Le.refl _)).cells<|zz 1<|zs 13 (v:= .int .u64 (IntKind.u64.wrap (((l.getD i 0:Nat):Int)))) (v':= .int .u64 ((l.getD i 0:Nat):Int)) (zQ (nX (by omega) (by omega)))<|zz 5<|zr' (v:= .int .u64 ((l.getD i 0:Nat):Int)) ?_
 exact⟨j.upd,_,rfl,zQ (by first | rfl | (rw[zp,qb (by omega)];rfl))⟩
 refine zz 9<|zr' (v:= .int .u64 0) ?_;exact⟨j.upd,_,rfl,zQ (by first | rfl | (rw[zp,qb (by omega)];rfl))⟩
end
set_option maxHeartbeats 1000000
theorem zIl{e:Nat}(l:List Nat)(h:e=l.length):qV l≤e:=by rw[h];exact rR l _
theorem mx1{l e:List Nat}{k c:Nat}(q:¬0<c)(f:¬k<l.length)(j:¬k<e.length){v:Nat}(h:v+c*4294967296^k=val (l.take k)+val (e.take k)):v=val l+val e:=by
 rw[jv (by omega),jv (by omega),show c=0 by omega]at h;omega
theorem zYv{ls:List Nat}{x:Nat}(h:∀y∈ls,y<4294967296)(f:x<4294967296):∀y∈ls++[x],y<4294967296:=fun y j=>by
 rcases wb.1 j with e | e
 ·exact h y e
 ·obtain rfl:=vA.1 e;exact f
theorem zAw{l:List Nat}{k:Nat}(h:l.length≤k):l.getD k 0=0:=by rw[zp,qb h];rfl
theorem qJp(w:World)(X:Hid)(hX:∀k o,X k o→k<w.heap.size)(ad:Option Addr)(len I:Nat)(l:List Nat)(h:zN (rd w X) ad len I l)(G:Option Addr)(D P2:Nat)(j:List Nat)(h2:zN (rd w X) G D P2 j)(hm:len≤1000000)(hm2:D≤1000000):Calls Tryz.prog 218 #[.slice ad len I,.slice G D P2] w (Ret E0 w fun w' v=>gP X w' v (val l+val j)):=by
 obtain rfl:=h.hlen;obtain rfl:=h2.hlen;have hcap:=h.hcap;have hbig:=h.hbig;have hcap2:=h2.hcap;have hbig2:=h2.hbig;refine zen Tryz.func218 ?_;have G0:St E0 w X w X []:=St.start hX;refine zz 22<|zlp Tryz.f218 [] [1,1,1,0,1,0] (fun((k,q,M,c):Nat×(Option Addr)×Nat×Nat)=>[(0,.slice ad l.length I),(1,.slice G j.length P2),(5,.slice q k M),(6,.int .u64 (c:Int)),(7,.int .i64 (k:Int))]) (fun((k,q,M,c):Nat×(Option Addr)×Nat×Nat)w1=>∃(Y1:Hid)(rb:List (Nat×Obj))(ls:List Nat),St E0 w X w1 Y1 (rb)∧Le (rd w X) (rd w1 Y1)∧(gT 214 1 rb q k M (U32 ls))∧(ls.length=k)∧(∀x∈ls,x<4294967296)∧(val ls+c*4294967296^k=val (l.take k)+val (j.take k))∧(c≤1)∧(k≤max l.length j.length+1)∧(k=max l.length j.length+1→c=0)) (fun((k,q,M,c):Nat×(Option Addr)×Nat×Nat)=>max l.length j.length+1-k) (0,none,0,0) ?_ ?_;refine⟨_,[],[],G0,Le.refl _,gT.nil _ _,rfl,fun _ h=>absurd h (by simp),by simp[val],by omega,qu _,fun _=>rfl⟩
 rintro⟨k,q,M,c⟩ w2 K2 hK2 ⟨Y2,rb,ls,G2,C2,Q,R,S,T,U,V,W⟩;have hrw:=Q;have Z:=R;have hrt:=S;have hv:=T;have hc:=U;have hk:=V;have hkc:=W;have hlt1:=h.getD_lt k;have hlt2:=h2.getD_lt k;refine zz 1 ?_;refine jFl (fun(f:Bool)=>[(0,.slice ad l.length I),(1,.slice G j.length P2),(5,.slice q k M),(6,.int .u64 (c:Int)),(7,.int .i64 (k:Int)),(22,.bool f)]) (fun f w1=>∃Y1:Hid,St E0 w X w1 Y1 (rb)∧Le (rd w2 Y2) (rd w1 Y1)∧(f=true↔(k<l.length∨k<j.length∨0<c))) ?_ ?_;rintro f w3 ⟨Y3,G3,C3,K⟩;refine zb 22 (b:=f) (fun J4=>?_) (fun J4=>?_);have F5:f=true:=by simpa using J4
 have hgo:=K.1 F5;refine zz 9<|zc G3 (nL _ X0 (qA _) _ _ _ l ((h.mono (Le2 C2 C3)).mono Le.x0) k) ?_;rintro v7 w7 G7 C7 N7 rfl;refine zz 2<|zc G7 (nL _ X0 (qA _) _ _ _ j ((h2.mono (Le3 C2 C3 C7)).mono Le.x0) k) ?_;rintro v9 w9 G9 C9 N9 rfl;refine zz 1<|zs 31 (v:= .int .u64 (IntKind.u64.wrap (((l.getD k 0:Nat):Int)+((j.getD k 0:Nat):Int)))) (v':= .int .u64 (((l.getD k 0:Nat):Int)+((j.getD k 0:Nat):Int))) (zQ (nX (by omega) (by omega)))<|zz 2<|zs 33 (v:= .int .u64 (IntKind.u64.wrap ((((l.getD k 0:Nat):Int)+((j.getD k 0:Nat):Int))+(c:Int)))) (v':= .int .u64 (((l.getD k 0+j.getD k 0+c):Nat):Int)) (zQ ((nX (by omega) (by omega)).trans (by omega)))<|zz 8<|zs 36 (v:= .int .u64 (Int.tmod ((((l.getD k 0+j.getD k 0+c):Nat):Int)) (4294967296))) (v':= .int .u64 (((l.getD k 0+j.getD k 0+c) % 4294967296:Nat):Int)) (zQ (by rfl))<|zz 1<|zs 37 (v:= .int .u32 (IntKind.u32.wrap ((((l.getD k 0+j.getD k 0+c) % 4294967296:Nat):Int)))) (v':= .int .u32 (((l.getD k 0+j.getD k 0+c) % 4294967296:Nat):Int)) (zQ (qKk (by omega) (by omega)))<|zn (fun b=> .slice (some ⟨b,0,none⟩) 1 1) (.cells #[.int .u32 (((l.getD k 0+j.getD k 0+c) % 4294967296:Nat):Int)] 214 (0,0)) G9 fun b11 w11 Y11 G11 C11 N11=>?_
 refine zop (at1 [K2] Tryz.f218 [1,1,1,0,1,0,0,1,0,0,1,0]) 5 (fun a12 _ Z12 hz12=>zRc (b:=4) (m:=1) (c:=1) (ad:=⟨b11,0,none⟩) (news:=[.int .u32 (((l.getD k 0+j.getD k 0+c) % 4294967296:Nat):Int)]) (i0:=Tryz.t214) (R1:=[]) 1 Z12 G11 rfl hrw (G11.cells 0 rfl rfl) (by omega) (by omega) ?_)
 intro L J P13 w13 Y13 D13 G13 C13 a14 Z14;have hrw13:gT 214 1 L J (k+1) P13 (U32 (ls++[(l.getD k 0+j.getD k 0+c) % 4294967296])):=by rw[←zPa];exact D13
 refine hz12 Z14<|zz 6<|zs 41 (v:= .int .u64 (IntKind.u64.wrap (Int.tdiv ((((l.getD k 0+j.getD k 0+c):Nat):Int)) (4294967296)))) (v':= .int .u64 (((l.getD k 0+j.getD k 0+c) / 4294967296:Nat):Int)) (zQ (zOr _ (by omega)))<|zz 7<|zw 24 (x:=(k:Int)+1)<|zz 2 ?_
 have J1_:=(Le5 C2 C3 C7 C9 C11).trans C13;refine kT (fun a h=>hK2 ((k+1,J,P13,(l.getD k 0+j.getD k 0+c) / 4294967296)) _ a h ⟨_,L,(ls++[(l.getD k 0+j.getD k 0+c) % 4294967296]),G13.tail,J1_,hrw13,by rw[qo,Z];rfl,zYv hrt (by omega),qQj _ _ _ _ _ Z hv,by omega,by omega,fun hk9=>by have e1:l.getD k 0=0:=zAw (by omega);have e2:j.getD k 0=0:=zAw (by omega);omega⟩ ?_)
 first | omega | (simp<;>omega)
 have F15:f=false:=by simpa using J4
 have O:¬(k<l.length∨k<j.length∨0<c):=fun e=>by rw[K.2 e]at F15;cases F15
 have hend:=mx1 (fun e=>O (.inr (.inr e))) (fun e=>O (.inl e)) (fun e=>O (.inr (.inl e))) hv;refine zz 9 ?_;obtain⟨Y17,N,C17,C⟩:=St.pubLimbs (A:=[]) (B:=[]) (fun rb=>(rb)) G3 (fun _=>by simp only[qt,x8,kB,jw]) hrw Z.symm hrt
 have G17:St E0 w X w3 Y17 []:=N;refine zc G17 (zGb _ _ G17.lt _ _ _ ls C) ?_;rintro v18 w18 G18 C18 N18 rfl;refine zz 4<|zr' (v:= .slice q (qV ls) M) ?_;exact⟨G18.upd,_,rfl,_,_,_,rfl,_,((C.sub (zIl _ C.hlen)).mono (Le.trans C18 G18.le)),qY _,by rw[show List.take (qV ls) ls=Go.Gv.trimmed ls from rfl,jK];exact hend⟩
 intro K19 z;refine zz 6<|zt 13 (p:=(k:Int)<(l.length:Int)) (fun F20=>?_) (fun F20=>?_);refine zz 10 ?_;exact kT (fun a h=>z true _ a h ⟨_,G2,(Le.refl _),by first | exact⟨fun _=>by omega,fun _=>rfl⟩ | exact⟨fun e=>by have:=jc e;omega,fun e=>kn (by omega)⟩⟩)
 refine zz 6<|zt 19 (p:=(k:Int)<(j.length:Int)) (fun F21=>?_) (fun F21=>?_);refine zz 4 ?_;exact kT (fun a h=>z true _ a h ⟨_,G2,(Le.refl _),by first | exact⟨fun _=>by omega,fun _=>rfl⟩ | exact⟨fun e=>by have:=jc e;omega,fun e=>kn (by omega)⟩⟩)
 refine zz 4 ?_;exact kT (fun a h=>z (decide ((c:Int)>0)) _ a h ⟨_,G2,(Le.refl _),by first | exact⟨fun _=>by omega,fun _=>rfl⟩ | exact⟨fun e=>by have:=jc e;omega,fun e=>kn (by omega)⟩⟩)
set_option maxHeartbeats 1000000
theorem zWl(w:World)(X:Hid)(hX:∀k o,X k o→k<w.heap.size)(ad:Option Addr)(T I:Nat)(l:List Nat)(h:zN (rd w X) ad T I l)(G:Option Addr)(C P2:Nat)(e:List Nat)(h2:zN (rd w X) G C P2 e)(hm:T≤1000000)(hll:e.length≤l.length)(hle:val e≤val l):Calls Tryz.prog 220 #[.slice ad T I,.slice G C P2] w (Ret E0 w fun w' v=>gP X w' v (val l-val e)):=by
 obtain rfl:=h.hlen;obtain rfl:=h2.hlen;have hcap:=h.hcap;have hbig:=h.hbig;have hcap2:=h2.hcap;have hbig2:=h2.hbig;refine zen Tryz.func220 ?_;have G0:St E0 w X w X []:=St.start hX;refine zz 22<|zlp Tryz.f220 [] [1,1,1,0,1,0] (fun((k,f,U,c):Nat×(Option Addr)×Nat×Nat)=>[(0,.slice ad l.length I),(1,.slice G e.length P2),(5,.slice f k U),(6,.int .u64 (c:Int)),(7,.int .i64 (k:Int))]) (fun((k,f,U,c):Nat×(Option Addr)×Nat×Nat)w1=>∃(Y1:Hid)(rb:List (Nat×Obj))(ls:List Nat),St E0 w X w1 Y1 (rb)∧Le (rd w X) (rd w1 Y1)∧(gT 214 1 rb f k U (U32 ls))∧(ls.length=k)∧(∀x∈ls,x<4294967296)∧(val ls+val (e.take k)=val (l.take k)+c*4294967296^k)∧(c≤1)∧(k≤l.length)) (fun((k,f,U,c):Nat×(Option Addr)×Nat×Nat)=>l.length-k) (0,none,0,0) ?_ ?_;refine⟨_,[],[],G0,Le.refl _,gT.nil _ _,rfl,fun _ h=>absurd h (by simp),by simp[val],by omega,qu _⟩
 rintro⟨k,f,U,c⟩ w2 K2 hK2 ⟨Y2,rb,ls,G2,C2,K,L,M,N,O,Q⟩;have hrw:=K;have q:=L;have R:=M;have hv:=N;have hc:=O;have hk:=Q;have hlt1:=h.getD_lt k;have hlt2:=h2.getD_lt k;refine zz 9<|zt 12 (p:=(k:Int)<(l.length:Int)) (fun F3=>?_) (fun F3=>?_);refine zz 9<|zc G2 (nL _ X0 (qA _) _ _ _ l ((h.mono C2).mono Le.x0) k) ?_;rintro v5 w5 G5 C5 N5 rfl;refine zz 1<|zs 18 (v:= .int .u64 (IntKind.u64.wrap ((4294967296:Int)+((l.getD k 0:Nat):Int)))) (v':= .int .u64 ((4294967296:Int)+((l.getD k 0:Nat):Int))) (zQ (nX (by omega) (by omega)))<|zz 2<|zc G5 (nL _ X0 (qA _) _ _ _ e ((h2.mono (Le2 C2 C5)).mono Le.x0) k) ?_
 rintro v7 w7 G7 C7 N7 rfl;refine zz 1<|zs 22 (v:= .int .u64 (IntKind.u64.wrap (((4294967296:Int)+((l.getD k 0:Nat):Int))-((e.getD k 0:Nat):Int)))) (v':= .int .u64 (((4294967296:Int)+((l.getD k 0:Nat):Int))-((e.getD k 0:Nat):Int))) (zQ (nX (by omega) (by omega)))<|zz 2<|zs 24 (v:= .int .u64 (IntKind.u64.wrap ((((4294967296:Int)+((l.getD k 0:Nat):Int))-((e.getD k 0:Nat):Int))-(c:Int)))) (v':= .int .u64 (((4294967296+l.getD k 0-e.getD k 0-c):Nat):Int)) (zQ ((nX (by omega) (by omega)).trans (by omega)))<|zz 8<|zs 27 (v:= .int .u64 (Int.tmod ((((4294967296+l.getD k 0-e.getD k 0-c):Nat):Int)) (4294967296))) (v':= .int .u64 (((4294967296+l.getD k 0-e.getD k 0-c) % 4294967296:Nat):Int)) (zQ (by rfl))<|zz 1<|zs 28 (v:= .int .u32 (IntKind.u32.wrap ((((4294967296+l.getD k 0-e.getD k 0-c) % 4294967296:Nat):Int)))) (v':= .int .u32 (((4294967296+l.getD k 0-e.getD k 0-c) % 4294967296:Nat):Int)) (zQ (qKk (by omega) (by omega)))<|zn (fun b=> .slice (some ⟨b,0,none⟩) 1 1) (.cells #[.int .u32 (((4294967296+l.getD k 0-e.getD k 0-c) % 4294967296:Nat):Int)] 214 (0,0)) G7 fun b9 w9 Y9 G9 C9 N9=>?_
 refine zop (at1 [K2] Tryz.f220 [1,1,1,0,1,0,0,1,0,0,1,0]) 5 (fun a10 _ Z10 hz10=>zRc (b:=4) (m:=1) (c:=1) (ad:=⟨b9,0,none⟩) (news:=[.int .u32 (((4294967296+l.getD k 0-e.getD k 0-c) % 4294967296:Nat):Int)]) (i0:=Tryz.t214) (R1:=[]) 1 Z10 G9 rfl hrw (G9.cells 0 rfl rfl) (by omega) (by omega) ?_)
 intro D z Z w11 Y11 D11 G11 C11 a12 Z12;have S:gT 214 1 D z (k+1) Z (U32 (ls++[(4294967296+l.getD k 0-e.getD k 0-c) % 4294967296])):=by rw[←zPa];exact D11
 refine hz10 Z12<|zz 6<|zs 32 (v:= .int .u64 (IntKind.u64.wrap (Int.tdiv ((((4294967296+l.getD k 0-e.getD k 0-c):Nat):Int)) (4294967296)))) (v':= .int .u64 (((4294967296+l.getD k 0-e.getD k 0-c) / 4294967296:Nat):Int)) (zQ (zOr _ (by omega)))<|zz 1<|zs 33 (v:= .int .u64 (IntKind.u64.wrap ((1:Int)-(((4294967296+l.getD k 0-e.getD k 0-c) / 4294967296:Nat):Int)))) (v':= .int .u64 ((1-(4294967296+l.getD k 0-e.getD k 0-c) / 4294967296:Nat):Int)) (zQ ((nX (by omega) (by omega)).trans (by omega)))<|zz 7<|zw 14 (x:=(k:Int)+1)<|zz 2 ?_
 have J1_:=(Le4 C2 C5 C7 C9).trans C11;refine kT (fun a h=>hK2 ((k+1,z,Z,(1-(4294967296+l.getD k 0-e.getD k 0-c) / 4294967296))) _ a h ⟨_,D,(ls++[(4294967296+l.getD k 0-e.getD k 0-c) % 4294967296]),G11.tail,J1_,S,by rw[qo,q];rfl,zYv R (by omega),qEe _ _ _ _ _ q hlt1 hlt2 hc hv,by omega,by omega⟩ ?_)
 first | omega | (simp<;>omega)
 have hend:=qEd q (by omega) R hll hle hc hv
 refine zz 9 ?_;obtain⟨Y14,J,C14,j⟩:=St.pubLimbs (A:=[]) (B:=[]) (fun rb=>(rb)) G2 (fun _=>by simp only[qt,x8,kB,jw]) hrw q.symm R
 have V:St E0 w X w2 Y14 []:=J;refine zc V (zGb _ _ V.lt _ _ _ ls j) ?_;rintro v15 w15 W C15 N15 rfl;refine zz 4<|zr' (v:= .slice f (qV ls) U) ?_;exact⟨W.upd,_,rfl,_,_,_,rfl,_,((j.sub (zIl _ j.hlen)).mono (Le.trans C15 W.le)),qY _,by rw[show List.take (qV ls) ls=Go.Gv.trimmed ls from rfl,jK];exact hend⟩
theorem zRh(w:World)(X:Hid)(hX:∀k o,X k o→k<w.heap.size)(ad:Option Addr)(G z:Nat)(l:List Nat)(h:zN (rd w X) ad G z l)(q:Option Addr)(f U:Nat)(e:List Nat)(A:zN (rd w X) q f U e)(hm:G≤1000000)(hm2:f≤1000000):Calls Tryz.prog 219 #[.slice ad G z,.slice q f U] w (Ret E0 w fun _ v=>v= .int .i64 (qO (val l) (val e))):=by
 obtain rfl:=h.hlen;obtain rfl:=A.hlen;have hcap:=h.hcap;have hbig:=h.hbig;have Z:=A.hcap;have W:=A.hbig;refine zen Tryz.func219 ?_;have G0:St E0 w X w X []:=St.start hX;refine zz 13<|zs 10 (v:= .int .i64 (if(e.length:Int)>(l.length:Int)then(e.length:Int)else(l.length:Int))) (v':= .int .i64 ((max l.length e.length:Nat):Int)) (zQ (by split<;>omega))<|zz 1<|zw 11 (x:=((max l.length e.length:Nat):Int)-1)<|zz 4<|zlp Tryz.f219 [] [1,0,1,0] (fun(k:Nat)=>[(0,.slice ad l.length z),(1,.slice q e.length U),(5,.int .i64 ((k:Int)-1))]) (fun(k:Nat)w1=>∃(Y1:Hid),St E0 w X w1 Y1 []∧Le (rd w X) (rd w1 Y1)∧(k≤max l.length e.length)∧(∀j,k≤j→l.getD j 0=e.getD j 0)) (fun(k:Nat)=>k) (max l.length e.length) ?_ ?_
 refine⟨_,G0,Le.refl _,zq _,fun j hj=>(zAw (by omega)).trans (zAw (by omega)).symm⟩
 rintro k w2 K2 V ⟨Y2,G2,L,C,D⟩;have hk:=C;have he:=D;have hlt1:=h.getD_lt (k-1);have hlt2:=A.getD_lt (k-1);refine zz 7<|zt 13 (p:=((k:Int)-1)≥0) (fun F3=>?_) (fun F3=>?_);refine zz 10<|zs 17 (v:= .int .i64 ((k:Int)-1)) (v':= .int .i64 ((k-1:Nat):Int)) (zQ (by omega))<|zc G2 (nL _ X0 (qA _) _ _ _ l ((h.mono L).mono Le.x0) (k-1)) ?_
 rintro v5 w5 G5 Q N5 rfl;refine zz 2<|zs 20 (v:= .int .i64 ((k:Int)-1)) (v':= .int .i64 ((k-1:Nat):Int)) (zQ (by omega))<|zc G5 (nL _ X0 (qA _) _ _ _ e ((A.mono (Le2 L Q)).mono Le.x0) (k-1)) ?_
 rintro v7 w7 G7 C7 N7 rfl;refine zz 3<|zt 22 (p:=((l.getD (k-1) 0:Nat):Int)<((e.getD (k-1) 0:Nat):Int)) (fun F8=>?_) (fun F8=>?_);refine zz 13<|zr' (v:= .int .i64 (-1)) ?_;exact⟨G7.upd,_,rfl,zQ (Eq.symm (by have M:=qHz h.hlt (k:=k-1) (fun j hj=>he j (by omega)) (by omega);unfold qO;rw[qn (by omega)]))⟩
 refine zz 7<|zs 24 (v:= .int .i64 ((k:Int)-1)) (v':= .int .i64 ((k-1:Nat):Int)) (zQ (by omega))<|zc G7 (nL _ X0 (qA _) _ _ _ l ((h.mono (Le3 L Q C7)).mono Le.x0) (k-1)) ?_
 rintro v10 w10 S N N10 rfl;refine zz 2<|zs 27 (v:= .int .i64 ((k:Int)-1)) (v':= .int .i64 ((k-1:Nat):Int)) (zQ (by omega)) ?_
 have J:=(Le3 L Q C7).trans N;refine zc S (nL _ X0 (qA _) _ _ _ e ((A.mono J).mono Le.x0) (k-1)) ?_;rintro v12 w12 I O N12 rfl;refine zz 3<|zt 29 (p:=((l.getD (k-1) 0:Nat):Int)>((e.getD (k-1) 0:Nat):Int)) (fun R=>?_) (fun R=>?_);refine zz 12<|zr' (v:= .int .i64 1) ?_;exact⟨I.upd,_,rfl,zQ (Eq.symm (by have M:=qHz A.hlt (k:=k-1) (fun j hj=>(he j (by omega)).symm) (by omega);unfold qO;rw[qm (by omega),qn (by omega)]))⟩
 refine zz 7<|zs 15 (v:= .int .i64 (i64.wrap (((k:Int)-1)-1))) (v':= .int .i64 (((k-1:Nat):Int)-1)) (zQ ((zAf (by omega) (by omega)).trans (by omega)))<|zz 2 ?_
 have T:=J.trans O;refine kT (fun a h=>V (k-1) _ a h ⟨_,I,T,by omega,fun j hj=>by rcases qg j k with M | M;obtain rfl:j=k-1:=(by omega);omega;exact he j M⟩ ?_)
 first | omega | (simp<;>omega)
 have K:=zCb l e (fun j=>he j (by omega))
 refine zz 12<|zr' (v:= .int .i64 0) ?_;exact⟨G2.upd,_,rfl,zQ (Eq.symm (by unfold qO;rw[K,qm (dp _),qm (dp _)]))⟩
set_option maxHeartbeats 1000000
theorem zWt(w:World)(X:Hid)(hX:∀k o,X k o→k<w.heap.size)(x:Nat)(L:x<18446744073709551616):Calls Tryz.prog 176 #[.int .u64 (x:Int)] w (Ret E0 w fun w' v=>gP X w' v x):=by
 refine zen Tryz.func176 ?_;have z:St E0 w X w X []:=St.start hX;refine zz 9<|zs 4 (v:= .int .u64 (Int.tmod ((x:Int)) (4294967296))) (v':= .int .u64 ((x % 4294967296:Nat):Int)) (zQ (by rfl))<|zz 1<|zs 5 (v:= .int .u32 (IntKind.u32.wrap (((x % 4294967296:Nat):Int)))) (v':= .int .u32 ((x % 4294967296:Nat):Int)) (zQ (qKk (by omega) (by omega)))<|zz 2<|zs 7 (v:= .int .u64 (IntKind.u64.wrap (Int.tdiv ((x:Int)) (4294967296)))) (v':= .int .u64 ((x / 4294967296:Nat):Int)) (zQ (zOr _ (by omega)))<|zz 1<|zs 8 (v:= .int .u32 (IntKind.u32.wrap (((x / 4294967296:Nat):Int)))) (v':= .int .u32 ((x / 4294967296:Nat):Int)) (zQ (qKk (by omega) (by omega)))<|zn (fun b=> .slice (some ⟨b,0,none⟩) 2 2) (.cells #[.int .u32 ((x % 4294967296:Nat):Int),.int .u32 ((x / 4294967296:Nat):Int)] 214 (0,0)) z fun q N K j D I=>?_
 have f:zY 2 2 #[.int .u32 ((x % 4294967296:Nat):Int),.int .u32 ((x / 4294967296:Nat):Int)] [x % 4294967296,x / 4294967296]:=zY.of [x % 4294967296,x / 4294967296] (by intro y C;simp at C;omega) (by simp[maxLen]) (by simp[U32]) (by simp)
 refine zc j (zGb _ X0 (qA _) _ _ _ ([x % 4294967296,x / 4294967296]) (zY.limbs (Y:=X0) f (j.get 0 rfl) (fun _ h=>h.elim))) ?_ (vs:=#[.slice (some ⟨q,0,none⟩) 2 2]);rintro M O e G J rfl;refine zz 4<|zr' (v:= .slice (some ⟨q,0,none⟩) (qV ([x % 4294967296,x / 4294967296])) 2) ?_;exact⟨e.upd,_,rfl,_,_,_,rfl,_,zY.limbs (f.trimmed) (e.get 0 rfl) (fun o A=>km.2 (e.own_ge 0 rfl) (hX _ _ A)),qY _,by rw[jK];simp only[val];omega⟩
set_option maxHeartbeats 1000000
theorem qMa(w:World)(X:Hid)(hX:∀k o,X k o→k<w.heap.size)(ad:Option Addr)(z C:Nat)(l:List Nat)(h:zN (rd w X) ad z C l)(A:Option Addr)(f O:Nat)(j:List Nat)(G:zN (rd w X) A f O j)(hm:z≤100000)(hm2:f≤100000)(V:zX l)(W:zX j)(hd:0<val j)(L:l.length<j.length):Calls Tryz.prog 175 #[.slice ad z C,.slice A f O] w (Ret E0 w fun w' v=>∃u S,v= .tuple #[u,S]∧gP X w' u (val l / val j)∧gP X w' S (val l % val j)):=by
 obtain rfl:=h.hlen;obtain rfl:=G.hlen;have R:=h.hcap;have Q:=h.hbig;have K:=G.hcap;have J:=G.hbig;have q:=jEn h.hlt W L;refine zen Tryz.func175 ?_;have U:St E0 w X w X []:=St.start hX;refine zz 13<|zw 14 (x:=(l.length:Int)-(j.length:Int))<|zz 1<|zs 15 (v:= .int .i64 (i64.wrap (((l.length:Int)-(j.length:Int))+1))) (v':= .int .i64 ((l.length:Int)-(j.length:Int)+1)) (zQ (zAf (by omega) (by omega)))<|zz 10<|zt 17 (p:=((l.length:Int)-(j.length:Int)+1)≤0) (fun T=>?_) (fun T=>?_)
 refine zz 4<|zop (at1 [] Tryz.f175 [1,1,0,1,0,0]) 1 (fun a3 _ Z3 M=>zNt (e:=214) (i0:=Tryz.t214) Z3 U h (by first | omega | (simp;omega)) ?_)
 intro D Z w4 N C4 I a5 Z5;refine M Z5<|zz 6<|zr' (v:= .tuple #[.slice none 0 0,.slice D l.length Z]) ?_;exact⟨N.upd,_,rfl,_,_,rfl,⟨_,_,_,rfl,[],zN.nil none (by omega),.inl rfl,(ww q).symm⟩,⟨_,_,_,rfl,l,(I).mono N.le,V,(ki q).symm⟩⟩
 omega
theorem qLz(w:World)(X:Hid)(hX:∀k o,X k o→k<w.heap.size)(ad:Option Addr)(len cap:Nat)(l:List Nat)(h:zN (rd w X) ad len cap l)(ad2:Option Addr)(len2 P2:Nat)(K:List Nat)(h2:zN (rd w X) ad2 len2 P2 K)(hm:len≤100000)(hm2:len2≤100000)(J1:zX l)(J2:zX K)(hd:0<val K)(N:Nat)(hN:l.length+1=N+K.length)(h0:0<N):Calls Tryz.prog 175 #[.slice ad len cap,.slice ad2 len2 P2] w (Ret E0 w fun w' v=>∃u u2,v= .tuple #[u,u2]∧gP X w' u (val l / val K)∧gP X w' u2 (val l % val K)):=by
 obtain rfl:=h.hlen;obtain rfl:=h2.hlen;have hcap:=h.hcap;have hbig:=h.hbig;have hcap2:=h2.hcap;have hbig2:=h2.hbig;have hl2:=qPp hd;refine zen Tryz.func175 ?_;have G0:St E0 w X w X []:=St.start hX;refine zz 13<|zw 14 (x:=(l.length:Int)-(K.length:Int))<|zz 1<|zs 15 (v:= .int .i64 (i64.wrap (((l.length:Int)-(K.length:Int))+1))) (v':= .int .i64 (N:Int)) (zQ ((zAf (by omega) (by omega)).trans (by omega)))<|zz 10<|zt 17 (p:=(N:Int)≤0) (fun F2=>?_) (fun F2=>?_)
 omega;refine zz 6<|zop (at1 [] Tryz.f175 [1,1,1,0]) 1 (fun a3 _ Z3 hz3=>zBj (l:=(N:Int)) (e:=214) (z:= .int .u32 0) (i0:=Tryz.t214) N 4 Z3 G0 ?_);intro b4 w4 Y4 G4 C4 N4 a5 Z5;have D4:=zY.zeros N (by simp only[maxLen];omega)
 refine hz3 Z5<|zz 7<|zop (at1 [] Tryz.f175 [1,1,1,1,0]) 2 (fun a6 _ Z6 hz6=>zE (d:=24) (v:= .slice (adF ad cap N) (l.length-N) (cap-N)) Z6 kr (zJi (t:=26) (e:=214) (ad:=ad) (len:=l.length) (cap:=cap) (k:=N) (kd:= .i64) (g:=false) rfl kr kr kr kr (by omega) _) ?_)
 intro a7 Z7;refine hz6 Z7<|zop (at1 [] Tryz.f175 [1,1,1,1,0]) 3 (fun a8 _ Z8 hz8=>zNt (e:=214) (i0:=Tryz.t214) Z8 G4 ((h.drop (k:=N) (by omega)).mono C4) (by first | omega | (simp;omega)) ?_)
 intro ad9 P9 w9 G9 C9 hL9 a10 Z10;refine hz8 Z10<|zc G9 (zGb _ _ G9.lt _ _ _ (l.drop N) hL9) ?_;rintro v12 w12 G12 C12 N12 rfl;have hT13:=((hL9.mono C12)).sub (zIl _ ((hL9.mono C12)).hlen);refine zz 8<|zw 28 (x:=(32:Int)*(N:Int))<|zz 1<|zs 29 (v:= .int .i64 (i64.wrap (((32:Int)*(N:Int))-1))) (v':= .int .i64 (((32*N:Nat):Int)-1)) (zQ ((zAf (by omega) (by omega)).trans (by omega)))<|zz 4<|zlp Tryz.f175 [] [1,1,1,1,1,0,1,0] (fun((k,adr,L,A):Nat×(Option Addr)×Nat×Nat)=>[(0,.slice ad l.length cap),(1,.slice ad2 K.length P2),(7,.slice (some ⟨b4,0,none⟩) N N),(8,.slice adr L A),(9,.int .i64 ((k:Int)-1))]) (fun((k,adr,L,A):Nat×(Option Addr)×Nat×Nat)w1=>∃(Y1:Hid)(C:Array Value)(lq:List Nat)(lr:List Nat)(q:Nat),St E0 w X w1 Y1 [(b4,.cells C 214 (0,0))]∧Le (rd w12 Y4) (rd w1 Y1)∧(zY N N C lq)∧(zN (rd w1 Y1) adr L A lr)∧(zX lr)∧(val lq=2^k*q)∧(val l / 2^k=q*val K+val lr)∧(val lr<val K)∧(k≤32*N)) (fun((k,adr,L,A):Nat×(Option Addr)×Nat×Nat)=>k) ((32*N),ad9,qV (l.drop N),P9) ?_ ?_
 refine⟨_,(List.replicate N (Value.int .u32 0)).toArray,(List.replicate N 0),(Go.Gv.trimmed (l.drop N)),0,G12,Le.refl _,D4,hT13,qY _,by rw[vM];simp,by rw[yp,ql,jK];exact qKc l h.hlt N (by omega),by rw[jK];exact qMd h.hlt J2 hd hN,zq _⟩
 rintro⟨k,adr,L,A⟩ w14 K14 T ⟨Y14,C,lq,lr,q,G14,C14,hp14_0,hp14_1,hp14_2,hp14_3,hp14_4,hp14_5,hp14_6⟩;have f:=hp14_0;have hr:=hp14_1;have hcanr:=hp14_2;have S:=hp14_3;have J:=hp14_4;have hlt:=hp14_5;have hkN:=hp14_6;have hrlen:=hr.hlen;have hrl:=qB h2.hlt hcanr (uB hlt);obtain rfl:=hrlen;refine zz 7<|zt 31 (p:=((k:Int)-1)≥0) (fun F15=>?_) (fun F15=>?_);obtain⟨i,rfl⟩:∃i,k=i+1:=⟨k-1,by omega⟩
 obtain⟨b1,off1,rfl,_⟩:=h.addr (by omega)
 refine zz 9<|zc G14 (qJp _ _ G14.lt _ _ _ lr hr _ _ _ lr hr (by first | omega | (simp;done) | (simp;omega)) (by first | omega | (simp;done) | (simp;omega))) ?_
 rintro v17 w17 G17 C17 N17 ⟨ad17,len17,P17,rfl,M,D,U,hval17⟩;have hlen17:=D.hlen;have hdl17:=zJy U h2.hlt hlt (by omega)
 refine zz 8<|zs 38 (v:= .int .i64 (((i+1:Nat):Int)-1)) (v':= .int .i64 (i:Int)) (zQ (by omega))<|zz 1<|zs 39 (v:= .int .i64 (i64.wrap (Int.tdiv ((i:Int)) (32)))) (v':= .int .i64 ((i / 32:Nat):Int)) (zQ (dL _ (by omega)))<|zi (b:=b1) (off:=off1) (len:=l.length) (cap:=cap) (kd:= .i64) (i:=((i / 32:Nat):Int)) 1 (off1+i / 32) ?_
 have J1_:=(Le4 C4 C9 C12 C14).trans C17;refine zl ((h.cell (i:=i / 32) (by omega)).mono J1_).cells<|zz 1<|zs 42 (v:= .int .i64 (((i+1:Nat):Int)-1)) (v':= .int .i64 (i:Int)) (zQ (by omega))<|zz 1<|zs 43 (v:= .int .i64 (Int.tmod ((i:Int)) (32))) (v':= .int .i64 ((i % 32:Nat):Int)) (zQ (zDs _))<|zz 1<|zs 44 (v:= .int .u64 (IntKind.u64.wrap (((i % 32:Nat):Int)))) (v':= .int .u64 ((i % 32:Nat):Int)) (zQ (nX (by omega) (by omega)))<|zop (at1 [K14] Tryz.f175 [1,1,1,1,1,0,1,0,0,1,0,0,1,0,0]) 8 (fun a18 _ Z18 hz18=>zE (d:=45) (v:= .int .u32 ((l.getD (i / 32) 0 / 2^(i % 32):Nat):Int)) Z18 kr (qJc rfl rfl rfl (by omega)) ?_)
 intro a19 Z19;refine hz18 Z19<|zz 1<|zs 46 (v:= .int .u32 (Int.tmod (((l.getD (i / 32) 0 / 2^(i % 32):Nat):Int)) (2))) (v':= .int .u32 (((val l / 2^i % 2):Nat):Int)) (zQ (by rw[←zGd l h.hlt i (by omega)];rfl))<|zz 3<|zb 47 (b:=((((val l / 2^i % 2):Nat):Int)==1)) (fun J20=>?_) (fun J20=>?_)
 have F21:(((val l / 2^i % 2):Nat):Int)=1:=by simpa using J20
 have j:val l / 2^i % 2=1:=Int.ofNat_inj.1 F21;refine zz 3<|zn (fun b=> .slice (some ⟨b,0,none⟩) 1 1) (.cells #[.int .u32 1] 214 (0,0)) G17 fun b23 w23 Y23 G23 C23 N23=>?_;obtain⟨hSx25,C25,hat25⟩:=St.publish G23 (G23.own_ge 0 rfl);have G25:St E0 w X w23 (zYp b23 Y23) [(b4,.cells C 214 (0,0))]:=hSx25;have hL25:=jAt (x:=1) hat25 (by omega)
 refine zc G25 (qJp _ _ G25.lt _ _ _ M (D.mono (Le2 C23 C25)) _ _ _ ([1]) hL25 (by first | omega | (simp;done) | (simp;omega)) (by first | omega | (simp;done) | (simp;omega))) ?_
 rintro v26 w26 G26 C26 N26 ⟨ad26,len26,P26,rfl,W,G,V,hval26⟩;have hlen26:=G.hlen;have hv126:val [1]=1:=rfl;have hdl26:=zJy V h2.hlt hlt (by omega)
 refine zz 7 ?_;have J2_:=((J1_.trans C23).trans C25).trans C26;refine zc G26 (zRh _ _ G26.lt _ _ _ W G _ _ _ K (h2.mono J2_) (by first | omega | (simp;done) | (simp;omega)) (by first | omega | (simp;done) | (simp;omega))) ?_
 rintro v28 w28 G28 Z N28 rfl;refine zz 3<|zt 54 (p:=(qO (val W) (val K))≥0) (fun F29=>?_) (fun F29=>?_);have I:=zAp F29;obtain⟨O,Q,R⟩:=zOi lq f.lt i q (by rw[f.len];omega) S
 refine zz 5 ?_;have J3_:=J2_.trans Z;refine zc G28 (zWl _ _ G28.lt _ _ _ W (G.mono Z) _ _ _ K (h2.mono J3_) (by first | omega | (simp;done) | (simp;omega)) (qB ((G.mono Z)).hlt J2 I) (by omega)) ?_
 rintro v31 w31 G31 C31 N31 ⟨ad31,len31,P31,rfl,ls31,hL31,hcan31,hval31⟩;have hlen31:=hL31.hlen;refine zz 6<|zs 59 (v:= .int .i64 (((i+1:Nat):Int)-1)) (v':= .int .i64 (i:Int)) (zQ (by omega))<|zz 1<|zs 60 (v:= .int .i64 (i64.wrap (Int.tdiv ((i:Int)) (32)))) (v':= .int .i64 ((i / 32:Nat):Int)) (zQ (dL _ (by omega)))<|zz 2<|zs 62 (v:= .int .i64 (((i+1:Nat):Int)-1)) (v':= .int .i64 (i:Int)) (zQ (by omega))<|zz 1<|zs 63 (v:= .int .i64 (i64.wrap (Int.tdiv ((i:Int)) (32)))) (v':= .int .i64 ((i / 32:Nat):Int)) (zQ (dL _ (by omega)))<|zi (b:=b4) (off:=0) (len:=N) (cap:=N) (kd:= .i64) (i:=((i / 32:Nat):Int)) 1 (i / 32) ?_
 refine zl (ad:=⟨b4,i / 32,none⟩) (G31.rowCells 0 rfl f (by have:=f.len;(try simp only[q9]at *);omega))<|zz 1<|zs 66 (v:= .int .i64 (((i+1:Nat):Int)-1)) (v':= .int .i64 (i:Int)) (zQ (by omega))<|zz 1<|zs 67 (v:= .int .i64 (Int.tmod ((i:Int)) (32))) (v':= .int .i64 ((i % 32:Nat):Int)) (zQ (zDs _))<|zz 1<|zs 68 (v:= .int .u64 (IntKind.u64.wrap (((i % 32:Nat):Int)))) (v':= .int .u64 ((i % 32:Nat):Int)) (zQ (nX (by omega) (by omega)))<|zop (at1 [K14] Tryz.f175 [1,1,1,1,1,0,1,0,0,1,0,0,1,1,1,0,1]) 11 (fun a32 _ Z32 hz32=>zE (d:=69) (v:= .int .u32 ((2^(i % 32):Nat):Int)) Z32 kr (zLm rfl rfl rfl (by omega)) ?_)
 intro a33 Z33;refine hz32 Z33<|zz 1<|zs 70 (v:= .int .u32 (rV ((lq.getD (i / 32) 0:Nat):Int) ((2^(i % 32):Nat):Int))) (v':= .int .u32 ((lq.getD (i / 32) 0+2^(i % 32):Nat):Int)) (zQ O)<|zi (b:=b4) (off:=0) (len:=N) (cap:=N) (kd:= .i64) (i:=((i / 32:Nat):Int)) 1 (i / 32)<|zop (at1 [K14] Tryz.f175 [1,1,1,1,1,0,1,0,0,1,0,0,1,1,1,0,1]) 14 (fun a34 _ Z34 hz34=>vU (y:=(lq.getD (i / 32) 0+2^(i % 32))) (k:=i / 32) (e:=((lq.getD (i / 32) 0+2^(i % 32):Nat):Int)) 0 Z34 G31 (rfl) rfl f (by have:=f.len;(try simp only[q9]at *);omega) (Q) ?_)
 intro Q35 w35 D35 G35 C35;refine hz34 Z34<|zz 6<|zs 33 (v:= .int .i64 (i64.wrap ((((i+1:Nat):Int)-1)-1))) (v':= .int .i64 ((i:Int)-1)) (zQ ((zAf (by omega) (by omega)).trans (by omega)))<|zz 2 ?_
 have J4_:=(Le7 C14 C17 C23 C25 C26 Z C31).trans C35;refine kT (fun a h=>T ((i,ad31,len31,P31)) _ a h ⟨_,Q35,(lq.set (i / 32) (lq.getD (i / 32) 0+2^(i % 32))),ls31,(2*q+1),G35,J4_,D35,(hL31.mono C35),hcan31,by rw[R,S,jd,yc,yz];congr 1;ac_rfl,qMb J (by rw[j];omega) (by rw[j];omega),by omega,by omega⟩ ?_)
 first | omega | (simp<;>omega)
 have I:=fE F29;refine zz 7<|zs 33 (v:= .int .i64 (i64.wrap ((((i+1:Nat):Int)-1)-1))) (v':= .int .i64 ((i:Int)-1)) (zQ ((zAf (by omega) (by omega)).trans (by omega)))<|zz 2 ?_
 have J5_:=(Le5 C14 C17 C23 C25 C26).trans Z;refine kT (fun a h=>T ((i,ad26,len26,P26)) _ a h ⟨_,C,lq,W,(2*q),G28,J5_,f,(G.mono Z),V,by rw[S,jd];ac_rfl,qEh J (by rw[j];omega),by omega,by omega⟩ ?_)
 first | omega | (simp<;>omega)
 have F36:(((val l / 2^i % 2):Nat):Int)≠1:=by simpa using J20
 have j:val l / 2^i % 2=0:=(Nat.mod_two_eq_zero_or_one _).resolve_right (fun e=>F36 (ju (fun x:Nat=>(x:Int)) e));refine zz 7<|zc G17 (zRh _ _ G17.lt _ _ _ M D _ _ _ K (h2.mono J1_) (by first | omega | (simp;done) | (simp;omega)) (by first | omega | (simp;done) | (simp;omega))) ?_
 rintro v38 w38 G38 C38 N38 rfl;refine zz 3<|zt 54 (p:=(qO (val M) (val K))≥0) (fun F39=>?_) (fun F39=>?_);have I:=zAp F39;obtain⟨O,Q,R⟩:=zOi lq f.lt i q (by rw[f.len];omega) S
 refine zz 5 ?_;have J6_:=J1_.trans C38;refine zc G38 (zWl _ _ G38.lt _ _ _ M (D.mono C38) _ _ _ K (h2.mono J6_) (by first | omega | (simp;done) | (simp;omega)) (qB ((D.mono C38)).hlt J2 I) (by omega)) ?_
 rintro v41 w41 G41 C41 N41 ⟨ad41,len41,P41,rfl,ls41,hL41,hcan41,hval41⟩;have hlen41:=hL41.hlen;refine zz 6<|zs 59 (v:= .int .i64 (((i+1:Nat):Int)-1)) (v':= .int .i64 (i:Int)) (zQ (by omega))<|zz 1<|zs 60 (v:= .int .i64 (i64.wrap (Int.tdiv ((i:Int)) (32)))) (v':= .int .i64 ((i / 32:Nat):Int)) (zQ (dL _ (by omega)))<|zz 2<|zs 62 (v:= .int .i64 (((i+1:Nat):Int)-1)) (v':= .int .i64 (i:Int)) (zQ (by omega))<|zz 1<|zs 63 (v:= .int .i64 (i64.wrap (Int.tdiv ((i:Int)) (32)))) (v':= .int .i64 ((i / 32:Nat):Int)) (zQ (dL _ (by omega)))<|zi (b:=b4) (off:=0) (len:=N) (cap:=N) (kd:= .i64) (i:=((i / 32:Nat):Int)) 1 (i / 32) ?_
 refine zl (ad:=⟨b4,i / 32,none⟩) (G41.rowCells 0 rfl f (by have:=f.len;(try simp only[q9]at *);omega))<|zz 1<|zs 66 (v:= .int .i64 (((i+1:Nat):Int)-1)) (v':= .int .i64 (i:Int)) (zQ (by omega))<|zz 1<|zs 67 (v:= .int .i64 (Int.tmod ((i:Int)) (32))) (v':= .int .i64 ((i % 32:Nat):Int)) (zQ (zDs _))<|zz 1<|zs 68 (v:= .int .u64 (IntKind.u64.wrap (((i % 32:Nat):Int)))) (v':= .int .u64 ((i % 32:Nat):Int)) (zQ (nX (by omega) (by omega)))<|zop (at1 [K14] Tryz.f175 [1,1,1,1,1,0,1,0,0,1,0,0,1,1,1,0,1]) 11 (fun a42 _ Z42 hz42=>zE (d:=69) (v:= .int .u32 ((2^(i % 32):Nat):Int)) Z42 kr (zLm rfl rfl rfl (by omega)) ?_)
 intro a43 Z43;refine hz42 Z43<|zz 1<|zs 70 (v:= .int .u32 (rV ((lq.getD (i / 32) 0:Nat):Int) ((2^(i % 32):Nat):Int))) (v':= .int .u32 ((lq.getD (i / 32) 0+2^(i % 32):Nat):Int)) (zQ O)<|zi (b:=b4) (off:=0) (len:=N) (cap:=N) (kd:= .i64) (i:=((i / 32:Nat):Int)) 1 (i / 32)<|zop (at1 [K14] Tryz.f175 [1,1,1,1,1,0,1,0,0,1,0,0,1,1,1,0,1]) 14 (fun a44 _ Z44 hz44=>vU (y:=(lq.getD (i / 32) 0+2^(i % 32))) (k:=i / 32) (e:=((lq.getD (i / 32) 0+2^(i % 32):Nat):Int)) 0 Z44 G41 (rfl) rfl f (by have:=f.len;(try simp only[q9]at *);omega) (Q) ?_)
 intro Q45 w45 D45 G45 C45;refine hz44 Z44<|zz 6<|zs 33 (v:= .int .i64 (i64.wrap ((((i+1:Nat):Int)-1)-1))) (v':= .int .i64 ((i:Int)-1)) (zQ ((zAf (by omega) (by omega)).trans (by omega)))<|zz 2 ?_
 have J7_:=(Le4 C14 C17 C38 C41).trans C45;refine kT (fun a h=>T ((i,ad41,len41,P41)) _ a h ⟨_,Q45,(lq.set (i / 32) (lq.getD (i / 32) 0+2^(i % 32))),ls41,(2*q+1),G45,J7_,D45,(hL41.mono C45),hcan41,by rw[R,S,jd,yc,yz];congr 1;ac_rfl,qMb J (by rw[j];omega) (by rw[j];omega),by omega,by omega⟩ ?_)
 first | omega | (simp<;>omega)
 have I:=fE F39;refine zz 7<|zs 33 (v:= .int .i64 (i64.wrap ((((i+1:Nat):Int)-1)-1))) (v':= .int .i64 ((i:Int)-1)) (zQ ((zAf (by omega) (by omega)).trans (by omega)))<|zz 2 ?_
 refine kT (fun a h=>T ((i,ad17,len17,P17)) _ a h ⟨_,C,lq,M,(2*q),G38,(Le3 C14 C17 C38),f,(D.mono C38),U,by rw[S,jd];ac_rfl,qEh J (by rw[j];omega),by omega,by omega⟩ ?_)
 first | omega | (simp<;>omega)
 obtain rfl:k=0:=by omega
 obtain⟨he1,he2⟩:=zTq J hlt S;refine zz 9<|zc G14 (zGb _ X0 (qA _) _ _ _ lq (zY.limbs (Y:=X0) f (G14.get 0 rfl) (fun _ h=>h.elim))) ?_ (vs:=#[.slice (some ⟨b4,0,none⟩) N N]);rintro v47 w47 G47 C47 N47 rfl;refine zz 6<|zr' (v:= .tuple #[.slice (some ⟨b4,0,none⟩) (qV lq) N,.slice adr lr.length A]) ?_;exact⟨G47.upd,_,rfl,_,_,rfl,⟨_,_,_,rfl,_,zY.limbs (f.trimmed) (G47.get 0 rfl) (fun o h9=>km.2 (G47.own_ge 0 rfl) (hX _ _ h9)),qY _,by rw[jK];exact he1⟩,⟨_,_,_,rfl,lr,((hr.mono C47)).mono G47.le,hcanr,he2⟩⟩
set_option maxHeartbeats 1000000
theorem zTp(w:World)(X:Hid)(hX:∀k o,X k o→k<w.heap.size)(ad:Option Addr)(f q:Nat)(l:List Nat)(h:zN (rd w X) ad f q l)(j:Option Addr)(e C:Nat)(z:List Nat)(I:zN (rd w X) j e C z)(hm:f≤100000)(A:e≤100000)(D:zX l)(G:zX z)(hd:0<val z):Calls Tryz.prog 175 #[.slice ad f q,.slice j e C] w (Ret E0 w fun w' v=>∃u K,v= .tuple #[u,K]∧gP X w' u (val l / val z)∧gP X w' K (val l % val z)):=by
 rcases qg l.length z.length with J | J
 ·exact qMa w X hX ad f q l h j e C z I hm A D G hd J
 ·exact qLz w X hX ad f q l h j e C z I hm A D G hd (l.length+1-z.length) (by omega) (by omega)
theorem zZt{x f e:List Nat}(z:zX f)(q:∀y∈e,y<4294967296)(j:0<val e)(h:val f=val x % val e):f.length≤e.length:=qB q z (by rw[h];exact uB (ub _ j))
theorem rJ{l:List Nat}(e:zX l)(h:0<l.length):0<val l:=by
 have:=xF e;omega
theorem zUa(w:World)(X:Hid)(hX:∀k o,X k o→k<w.heap.size)(ad:Option Addr)(T J:Nat)(l:List Nat)(h:zN (rd w X) ad T J l)(I:Option Addr)(G P2:Nat)(l2:List Nat)(h2:zN (rd w X) I G P2 l2)(hm:T≤100000)(hm2:G≤100000)(J1:zX l)(J2:zX l2):Calls Tryz.prog 150 #[.slice ad T J,.slice I G P2] w (Ret E0 w fun w' v=>gP X w' v (Nat.gcd (val l) (val l2))):=by
 obtain rfl:=h.hlen;obtain rfl:=h2.hlen;have hcap:=h.hcap;have hbig:=h.hbig;have hcap2:=h2.hcap;have hbig2:=h2.hbig;refine zen Tryz.func150 ?_;have G0:St E0 w X w X []:=St.start hX;refine zz 7<|zlp Tryz.f150 [] [1,0,0] (fun((f,z,q,V,j,U):List Nat×(Option Addr)×(List Nat)×Nat×(Option Addr)×Nat)=>[(0,.slice z q.length V),(1,.slice j f.length U)]) (fun((f,z,q,V,j,U):List Nat×(Option Addr)×(List Nat)×Nat×(Option Addr)×Nat)w1=>∃(Y1:Hid),St E0 w X w1 Y1 []∧Le (rd w X) (rd w1 Y1)∧(zN (rd w1 Y1) z q.length V q)∧(zN (rd w1 Y1) j f.length U f)∧(zX q)∧(zX f)∧(q.length≤100000)∧(f.length≤100000)∧(Nat.gcd (val q) (val f)=Nat.gcd (val l) (val l2))) (fun((f,z,q,V,j,U):List Nat×(Option Addr)×(List Nat)×Nat×(Option Addr)×Nat)=>val f) (l2,ad,l,J,I,P2) ?_ ?_;refine⟨_,G0,Le.refl _,h,h2,J1,J2,hm,hm2,rfl⟩;rintro⟨f,z,q,V,j,U⟩ w2 K2 hK2 ⟨Y2,G2,C2,L,M,N,O,Q,R,S⟩;have ha:=L;have hb:=M;have Z:=N;have K:=O;have hla:=Q;have hlb:=R;have hg:=S;refine zz 8<|zt 9 (p:=(f.length:Int)>0) (fun F3=>?_) (fun F3=>?_);have C:=rJ K (by omega)
 refine zz 8<|zc G2 (zTp _ _ G2.lt _ _ _ q ha _ _ _ f hb (by first | omega | (simp;done) | (simp;omega)) (by first | omega | (simp;done) | (simp;omega)) Z K C) ?_
 rintro v5 w5 G5 C5 N5 ⟨_,_,rfl,⟨ad5,len5,P5,rfl,ls5,hL5,hcan5,hval5⟩,⟨ae5,le5,ce5,rfl,lr5,W,A,D⟩⟩;obtain rfl:=hL5.hlen;obtain rfl:=W.hlen;refine zz 14 ?_;have hmod:=zZt A hb.hlt C D;have hml:=ub (val q) C;refine kT (fun a h=>hK2 ((lr5,j,f,U,ae5,ce5)) _ a h ⟨_,G5,(Le2 C2 C5),(hb.mono C5),W,K,A,hlb,by omega,by rw[D,←hg];exact(wa _ _).trans ((Nat.gcd_rec (val f) (val q)).symm.trans (wa _ _))⟩ ?_)
 first | omega | (simp<;>omega)
 have hz:val f=0:=by rw[qT (l:=f) (by omega)];rfl
 rw[hz,um]at hg;refine zz 9<|zop (at1 [K2] Tryz.f150 [1,1,0]) 1 (fun a6 _ Z6 hz6=>zNt (e:=214) (i0:=Tryz.t214) Z6 G2 ha (by first | omega | (simp;omega)) ?_)
 intro ad7 P7 w7 G7 C7 hL7 a8 Z8;refine hz6 Z8<|zz 4<|zr' (v:= .slice ad7 q.length P7) ?_;exact⟨G7.upd,_,rfl,_,_,_,rfl,_,(hL7).mono G7.le,Z,hg⟩
set_option maxHeartbeats 1000000
theorem zDj(w:World)(X:Hid)(hX:∀k o,X k o→k<w.heap.size):Calls Tryz.prog 104 #[] w (Ret E0 w fun w' v=>∃ad e,v= .slice ad 1 e∧zN (rd w' X) ad 1 e [1]):=by
 refine zen Tryz.func104 ?_;have q:St E0 w X w X []:=St.start hX;refine zz 7<|zn (fun b=> .slice (some ⟨b,0,none⟩) 1 1) (.cells #[.int .u32 1] 214 (0,0)) q fun z I G f C D=>zz 4<|zr' (v:= .slice (some ⟨z,0,none⟩) 1 1) ?_;have j:zY 1 1 #[.int .u32 1] [1]:=zY.of [1] (by simp) (by simp[maxLen]) (by simp[U32]) (by simp)
 exact⟨f.upd,_,rfl,_,_,rfl,zY.limbs j (f.get 0 rfl) (fun o A=>km.2 (f.own_ge 0 rfl) (hX _ _ A))⟩
theorem zKa:zX [1]:= .inr (by decide)
set_option maxHeartbeats 1000000
theorem tN{l:List Nat}(f:∀x∈l,x<4294967296)(e:zX l):l=[1]↔val l=1:=
 ⟨fun h=>by rw[h];rfl,fun h=>zJz f (by intro x j;simp at j;omega) e zKa (h.trans rfl)⟩
theorem jEq(w:World)(X:Hid)(hX:∀k o,X k o→k<w.heap.size)(ad:Option Addr)(Z cap:Nat)(l:List Nat)(h:zN (rd w X) ad Z cap l)(ad2:Option Addr)(L P2:Nat)(l2:List Nat)(U:zN (rd w X) ad2 L P2 l2)(sg:Bool)(hm:Z≤100000)(hm2:L≤100000)(J1:zX l)(J2:zX l2)(hd:0<val l2):Calls Tryz.prog 102 #[.bool sg,.slice ad Z cap,.slice ad2 L P2] w (Ret E0 w fun w' v=>zAi X w' v (mkRat (sgn sg (val l)) (val l2))):=by
 obtain rfl:=h.hlen;obtain rfl:=U.hlen;have hcap:=h.hcap;have hbig:=h.hbig;have hcap2:=U.hcap;have hbig2:=U.hbig;refine zen Tryz.func102 ?_;have G0:St E0 w X w X []:=St.start hX;refine zz 2<|zn pn (.cells #[.bool false,.slice none 0 0,.slice none 0 0] 28 (0,0)) G0 fun b3 w3 Y3 G3 C3 N3=>zz 10<|zb 10 (b:=((l.length:Int)==0)) (fun J4=>?_) (fun J4=>?_);have F5:(l.length:Int)=0:=by simpa using J4
 refine zz 4<|zx 0 #[.bool false,.slice none 0 0,.slice none 0 0] G3 fun w6 G6 C6=>zz 4<|zrS [.cell 6 28] (v:= .agg #[.bool false,.slice none 0 0,.slice none 0 0]) (Res.cM G6 0 Res.nil) ?_;exact⟨G6.upd,_,rfl,by rw[(xF J1).1 (by omega)];exact zSq _⟩
 have F7:(l.length:Int)≠0:=by simpa using J4
 refine zz 7<|zc G3 (zUa _ _ G3.lt _ _ _ l (h.mono C3) _ _ _ l2 (U.mono C3) (by first | omega | (simp;done) | (simp;omega)) (by first | omega | (simp;done) | (simp;omega)) J1 J2) ?_
 rintro v9 w9 G9 C9 N9 ⟨ad9,len9,P9,rfl,ls9,V,I,f⟩;obtain rfl:=V.hlen;have hgp:0<val ls9:=by rw[f];exact wx _ hd
 have hgl:=qB U.hlt I (by rw[f];exact Nat.gcd_le_right _ hd)
 refine zz 7<|zc G9 (zTp _ _ G9.lt _ _ _ l (h.mono (Le2 C3 C9)) _ _ _ ls9 V (by first | omega | (simp;done) | (simp;omega)) (by first | omega | (simp;done) | (simp;omega)) J1 I hgp) ?_
 rintro v11 w11 G11 C11 N11 ⟨_,_,rfl,⟨J,len11,O,rfl,q,K,A,C⟩,⟨ae11,le11,ce11,rfl,lr11,hM11,hcam11,hvam11⟩⟩;obtain rfl:=K.hlen;obtain rfl:=hM11.hlen;have hql11:=rO A (k:=100000) (jq (C▸vg _ _) ((zW h.hlt J1 100000).1 (by omega)))
 refine zz 10<|zc G11 (zTp _ _ G11.lt _ _ _ l2 (U.mono (Le3 C3 C9 C11)) _ _ _ ls9 (V.mono C11) (by first | omega | (simp;done) | (simp;omega)) (by first | omega | (simp;done) | (simp;omega)) J2 I hgp) ?_
 rintro v13 w13 G13 C13 N13 ⟨_,_,rfl,⟨Q,len13,P13,rfl,z,G,j,D⟩,⟨ae13,le13,ce13,rfl,lr13,hM13,hcam13,hvam13⟩⟩;obtain rfl:=G.hlen;obtain rfl:=hM13.hlen;have hql13:=rO j (k:=100000) (jq (D▸vg _ _) ((zW U.hlt J2 100000).1 (by omega)))
 refine zz 10<|zc G13 (zDj _ _ G13.lt) ?_;rintro v15 w15 G15 M N15 ⟨ad15,P15,rfl,hL15⟩;refine zc G15 (vN _ _ G15.lt _ _ _ _ (G.mono M) _ _ _ _ hL15) ?_;rintro v17 w17 G17 R N17 rfl;refine zz 2<|zb 29 (b:=(decide (z=[1]))) (fun T=>?_) (fun T=>?_);have F19:z=[1]:=jc T;refine zz 11<|zx 0 #[.bool sg,.slice J q.length O,.slice none 0 0] G17 fun w20 S C20=>zz 3<|zrS [.cell 6 28] (v:= .agg #[.bool sg,.slice J q.length O,.slice none 0 0]) (Res.cM S 0 Res.nil) ?_;have W:val l≠0:=fun e=>F7 (by have:=(xF J1).2 e;omega)
 have J1_:=(Le3 C13 M R).trans C20;exact⟨S.upd,_,rfl,bM W hd ⟨q,((K.mono J1_)).mono S.le,A,by rw[←f];exact C⟩ (by rw[←f,←D,(tN G.hlt j).1 (by simpa using F19)];exact qD.nil none (by omega))⟩
 have F21:¬(z=[1]):=k7 T;refine zz 9<|zx 0 #[.bool sg,.slice J q.length O,.slice Q z.length P13] G17 fun w22 N C22=>zz 3<|zrS [.cell 6 28] (v:= .agg #[.bool sg,.slice J q.length O,.slice Q z.length P13]) (Res.cM N 0 Res.nil) ?_;have W:val l≠0:=fun e=>F7 (by have:=(xF J1).2 e;omega)
 have J2_:=(Le3 C13 M R).trans C22;exact⟨N.upd,_,rfl,bM W hd ⟨q,((K.mono J2_)).mono N.le,A,by rw[←f];exact C⟩ (by rw[←f,←D,rW,qm (fun e=>by have:=(tN G.hlt j).2 e;simp[this]at F21)];exact⟨z,((G.mono (Le3 M R C22))).mono N.le,j,rfl⟩)⟩
set_option maxHeartbeats 1000000
theorem qBc(w:World)(X:Hid)(hX:∀k o,X k o→k<w.heap.size)(a:Raw)(ad:Option Addr)(len cap:Nat)(h:zN (rd w X) ad len cap a.ln)(Z:Option Addr)(O P2:Nat)(L:zN (rd w X) Z O P2 a.ld):Calls Tryz.prog 73 #[.agg #[.bool a.neg,.slice ad len cap,.slice Z O P2]] w (Ret E0 w fun _ v=>v= .int .i64 a.chk):=by
 obtain rfl:=h.hlen;obtain rfl:=L.hlen;have hcap:=h.hcap;have hbig:=h.hbig;have hcap2:=L.hcap;have hbig2:=L.hbig;refine zen Tryz.func73 ?_;have G0:St E0 w X w X []:=St.start hX;refine zz 2<|zn pn (.cells #[.bool a.neg,.slice ad a.ln.length cap,.slice Z a.ld.length P2] 28 (0,0)) G0 fun b3 w3 Y3 G3 C3 N3=>zz 7<|zo 0 G3<|zz 3<|zt 7 (p:=(a.ln.length:Int)>128) (fun F4=>?_) (fun F4=>?_);refine zz 15<|zr' (v:= .int .i64 4) ?_;exact⟨G3.upd,_,rfl,zQ (zWi (by omega)).symm⟩
 refine zz 1<|zo 0 G3<|zz 5<|zt 12 (p:=(a.ld.length:Int)>128) (fun F5=>?_) (fun F5=>?_);refine zz 8<|zr' (v:= .int .i64 4) ?_;exact⟨G3.upd,_,rfl,zQ (zWi (by omega)).symm⟩
 have f:¬(128<a.ln.length∨128<a.ld.length):=by omega
 refine zz 7<|zo 0 G3<|zc G3 (zPn _ X0 (qA _) _ _ _ a.ln ((h.mono C3).mono Le.x0)) ?_;rintro v7 w7 G7 C7 N7 rfl;refine zz 2<|zb 17 (b:=((jG a.ln)!=0)) (fun J8=>?_) (fun J8=>?_);have F9:(jG a.ln)≠0:=by simpa using J8
 refine zz 15<|zr' (v:= .int .i64 2) ?_;exact⟨G7.upd,_,rfl,zQ (fC f (.inl (by simpa using F9))).symm⟩
 have F10:(jG a.ln)=0:=by simpa using J8
 have cn:jG a.ln=0:=by simpa using F10
 have hcn:=(pY cn).2;have hzn:=xF hcn;refine zz 1<|zo 0 G7<|zc G7 (zPn _ X0 (qA _) _ _ _ a.ld ((L.mono (Le2 C3 C7)).mono Le.x0)) ?_;rintro v12 w12 G12 C12 N12 rfl;refine zz 4<|zb 22 (b:=((jG a.ld)!=0)) (fun Q=>?_) (fun Q=>?_);have F14:(jG a.ld)≠0:=by simpa using Q
 refine zz 8<|zr' (v:= .int .i64 2) ?_;exact⟨G12.upd,_,rfl,zQ (fC f (.inr (.inl (by simpa using F14)))).symm⟩
 have F15:(jG a.ld)=0:=by simpa using Q
 have cd:jG a.ld=0:=by simpa using F15
 have z:=(pY cd).2;have hzd:=xF z;refine zz 5<|zdr G12<|gz [0]<|gw 1 0<|gz [2,3,4]<|gb 27 (b:=((a.ln.length:Int)==0)) (fun R=>?_) (fun R=>?_);have F17:(a.ln.length:Int)=0:=by simpa using R
 refine gz [5]<|gw 6 0<|gz [7]<|gb 30 (b:=a.neg) (fun S=>?_) (fun S=>?_);have F19:a.neg=true:=by simpa using S
 have un:a.neg=true:=by simpa using F19
 refine gz [8,9,10,11,12,13,14,15,16,17,18,19] ?_;refine fM (fun w20 Y20 G20 C20=>?_);refine zz 9<|zr' (v:= .int .i64 2) ?_;exact⟨G20.upd,_,rfl,zQ (fC f (.inr (.inr (.inr ⟨by omega,.inl un⟩)))).symm⟩
 have F21:a.neg=false:=by simpa using S
 have un:a.neg=false:=by simpa using F21
 refine gz [8]<|gw 9 0<|gz [10,11,12,13,14]<|gt 37 (p:=(a.ld.length:Int)>0) (fun F22=>?_) (fun F22=>?_);refine gz [15,16,17,18,19] ?_;refine fM (fun w23 Y23 G23 C23=>?_);refine zz 9<|zr' (v:= .int .i64 2) ?_;exact⟨G23.upd,_,rfl,zQ (fC f (.inr (.inr (.inr ⟨by omega,.inr (by omega)⟩)))).symm⟩
 refine gz [15]<|gw 16 0<|gC 17 (fun w24 Y24 _ G24 C24=>(zDj _ _ G24.lt)) ?_;rintro v25 w24 Y25 w25 G24 C25 ⟨ad25,P25,rfl,hL25⟩;have J1_:=(Le3 C3 C7 C12).trans C25;refine gC 18 (fun w26 Y26 _ G26 C26=>(vN _ _ G26.lt _ _ _ _ (L.mono (J1_.trans C26)) _ _ _ _ (hL25.mono C26))) ?_;rintro v27 w26 Y27 w27 G26 C27 rfl;refine gz [19] ?_;refine fM (fun w28 Y28 j C28=>?_);refine zz 1<|zb 42 (b:=(decide (a.ld=[1]))) (fun T=>?_) (fun T=>?_);have F30:a.ld=[1]:=jc T;have u1:val a.ld=1:=(tN L.hlt z).1 (by simpa using F30)
 refine zz 8<|zr' (v:= .int .i64 2) ?_;exact⟨j.upd,_,rfl,zQ (fC f (.inr (.inr (.inl u1)))).symm⟩;have F31:¬(a.ld=[1]):=k7 T;have u1:val a.ld≠1:=fun e=>absurd ((tN L.hlt z).2 e) (by simpa using F31)
 have A:¬(jG a.ln≠0∨jG a.ld≠0∨val a.ld=1∨(val a.ln=0∧(a.neg=true∨0<val a.ld))):=by rintro(e | e | e | ⟨e,e2 | e2⟩);exact e cn;exact e cd;exact u1 e;(first | omega | (rw[un]at e2;cases e2));omega
 refine zz 7<|zo 0 j<|zz 3<|zt 47 (p:=(a.ld.length:Int)>0) (fun F32=>?_) (fun F32=>?_);have hdp:0<val a.ld:=by omega
 refine zz 1<|zo 0 j<|zz 1<|zo 0 j ?_;have J2_:=(J1_.trans C27).trans C28;refine zc j (zUa _ _ j.lt _ _ _ a.ln (h.mono J2_) _ _ _ a.ld (L.mono J2_) (by first | omega | (simp;done) | (simp;omega)) (by first | omega | (simp;done) | (simp;omega)) hcn z) ?_
 rintro v34 w34 G34 C34 N34 ⟨ad34,len34,P34,rfl,M,C,G,J⟩;obtain rfl:=C.hlen;refine zc G34 (zDj _ _ G34.lt) ?_;rintro v36 w36 G36 C36 N36 ⟨ad36,P36,rfl,hL36⟩;refine zc G36 (vN _ _ G36.lt _ _ _ _ (C.mono C36) _ _ _ _ hL36) ?_;rintro v38 w38 G38 C38 N38 rfl;refine zz 4<|zb 56 (b:=!(decide (M=[1]))) (fun U=>?_) (fun U=>?_);have F40:¬(M=[1]):=by simpa using U
 have ug:Nat.gcd (val a.ln) (val a.ld)≠1:=by rw[←J];exact fun e=>absurd ((tN C.hlt G).2 e) (by simpa using F40)
 refine zz 8<|zr' (v:= .int .i64 2) ?_;exact⟨G38.upd,_,rfl,zQ (zWj f A ⟨by omega,ug⟩).symm⟩
 have F41:M=[1]:=by simpa using U
 have ug:Nat.gcd (val a.ln) (val a.ld)=1:=by rw[←J];exact(tN C.hlt G).1 (by simpa using F41)
 refine zz 9<|zr' (v:= .int .i64 0) ?_;exact⟨G38.upd,_,rfl,zQ (zEe f A (fun hh=>hh.2 ug)).symm⟩;refine zz 20<|zr' (v:= .int .i64 0) ?_;exact⟨j.upd,_,rfl,zQ (zEe f A (fun hh=>by omega)).symm⟩
 have F42:(a.ln.length:Int)≠0:=by simpa using R
 refine gz [5,6,7,8,9,10,11,12,13,14,15]<|gw 16 0<|gC 17 (fun w43 Y43 _ G43 C43=>(zDj _ _ G43.lt)) ?_;rintro v44 w43 Y44 w44 G43 C44 ⟨ad44,P44,rfl,hL44⟩;have J3_:=(Le3 C3 C7 C12).trans C44;refine gC 18 (fun w45 Y45 _ G45 C45=>(vN _ _ G45.lt _ _ _ _ (L.mono (J3_.trans C45)) _ _ _ _ (hL44.mono C45))) ?_;rintro v46 w45 Y46 w46 G45 C46 rfl;refine gz [19] ?_;refine fM (fun w47 Y47 q C47=>?_);refine zz 1<|zb 42 (b:=(decide (a.ld=[1]))) (fun V=>?_) (fun V=>?_);have F49:a.ld=[1]:=jc V;have u1:val a.ld=1:=(tN L.hlt z).1 (by simpa using F49)
 refine zz 8<|zr' (v:= .int .i64 2) ?_;exact⟨q.upd,_,rfl,zQ (fC f (.inr (.inr (.inl u1)))).symm⟩;have F50:¬(a.ld=[1]):=k7 V;have u1:val a.ld≠1:=fun e=>absurd ((tN L.hlt z).2 e) (by simpa using F50)
 have A:¬(jG a.ln≠0∨jG a.ld≠0∨val a.ld=1∨(val a.ln=0∧(a.neg=true∨0<val a.ld))):=by rintro(e | e | e | ⟨e,e2 | e2⟩);exact e cn;exact e cd;exact u1 e;(first | omega | (rw[un]at e2;cases e2));omega
 refine zz 7<|zo 0 q<|zz 3<|zt 47 (p:=(a.ld.length:Int)>0) (fun F51=>?_) (fun F51=>?_);have hdp:0<val a.ld:=by omega
 refine zz 1<|zo 0 q<|zz 1<|zo 0 q ?_;have J4_:=(J3_.trans C46).trans C47;refine zc q (zUa _ _ q.lt _ _ _ a.ln (h.mono J4_) _ _ _ a.ld (L.mono J4_) (by first | omega | (simp;done) | (simp;omega)) (by first | omega | (simp;done) | (simp;omega)) hcn z) ?_
 rintro v53 w53 G53 C53 N53 ⟨ad53,len53,P53,rfl,N,D,I,K⟩;obtain rfl:=D.hlen;refine zc G53 (zDj _ _ G53.lt) ?_;rintro v55 w55 G55 C55 N55 ⟨ad55,P55,rfl,hL55⟩;refine zc G55 (vN _ _ G55.lt _ _ _ _ (D.mono C55) _ _ _ _ hL55) ?_;rintro v57 w57 G57 C57 N57 rfl;refine zz 4<|zb 56 (b:=!(decide (N=[1]))) (fun W=>?_) (fun W=>?_);have F59:¬(N=[1]):=by simpa using W
 have ug:Nat.gcd (val a.ln) (val a.ld)≠1:=by rw[←K];exact fun e=>absurd ((tN D.hlt I).2 e) (by simpa using F59)
 refine zz 8<|zr' (v:= .int .i64 2) ?_;exact⟨G57.upd,_,rfl,zQ (zWj f A ⟨by omega,ug⟩).symm⟩
 have F60:N=[1]:=by simpa using W
 have ug:Nat.gcd (val a.ln) (val a.ld)=1:=by rw[←K];exact(tN D.hlt I).1 (by simpa using F60)
 refine zz 9<|zr' (v:= .int .i64 0) ?_;exact⟨G57.upd,_,rfl,zQ (zEe f A (fun hh=>hh.2 ug)).symm⟩;refine zz 20<|zr' (v:= .int .i64 0) ?_;exact⟨q.upd,_,rfl,zQ (zEe f A (fun hh=>by omega)).symm⟩
set_option maxHeartbeats 1000000
theorem qSq(w:World)(X:Hid)(hX:∀k o,X k o→k<w.heap.size)(ad:Option Addr)(f q:Nat)(l:List Nat)(h:zN (rd w X) ad f q l)(j:Option Addr)(e C:Nat)(A:List Nat)(K:zN (rd w X) j e C A)(G:Bool)(hm:f≤100000)(D:e≤100000)(I:zX l)(J:zX A)(hd:0<val A)(z:Rat)(L:mkRat (sgn G (val l)) (val A)=z):Calls Tryz.prog 102 #[.bool G,.slice ad f q,.slice j e C] w (Ret E0 w fun w' v=>zAi X w' v z):=by
 subst L;exact jEq w X hX ad f q l h j e C A K G hm D I J hd
end Go.Proofs.YtdfmdiakjdggbaaGreatDoor
namespace Go.Proofs.YtdfmdiakjdggbaaGreatDoor
open Go Go.Gv Go.RowKit IntKind
set_option maxRecDepth 100000
set_option maxHeartbeats 1000000
section
variable {r x y:Raw}{xs ys:List Raw}{k:Nat}
end
theorem int6(n:Int):mkRat (sgn (decide (n<0)) n.natAbs) 1=(n:Rat):=by rw[zYo];first | exact Rat.mkRat_one _ | simp[Rat.mkRat_one] | (rw[Rat.mkRat_eq_div];simp)
theorem zUn(w:World)(X:Hid)(hX:∀k o,X k o→k<w.heap.size)(n:Int)(Q: -9223372036854775808≤n)(R:n≤9223372036854775807):Calls Tryz.prog 103 #[.int .i64 n] w (Ret E0 w fun w' v=>gP X w' v n.natAbs):=by
 refine zen Tryz.func103 ?_;have j:St E0 w X w X []:=St.start hX;refine zz 12<|zt 4 (p:=(n)<0) (fun I=>?_) (fun I=>?_);refine zz 5<|zs 6 (v:= .int .u64 (IntKind.u64.wrap (n))) (v':= .int .u64 (n+18446744073709551616)) (zQ (by rw[lH];omega))<|zz 1<|zs 7 (v:= .int .u64 (IntKind.u64.wrap ((0:Int)-(n+18446744073709551616)))) (v':= .int .u64 ((n.natAbs:Nat):Int)) (zQ (by rw[lH];omega))<|zc j (zWt _ _ j.lt n.natAbs (by omega)) ?_
 rintro S U D L N ⟨q,e,J,rfl,A⟩;refine zz 5<|zr' (v:= .slice q e J) ?_;exact⟨D.upd,_,rfl,D.lastN A⟩;refine zz 7<|zs 10 (v:= .int .u64 (IntKind.u64.wrap (n))) (v':= .int .u64 ((n.natAbs:Nat):Int)) (zQ (by rw[lH];omega))<|zc j (zWt _ _ j.lt n.natAbs (by omega)) ?_
 rintro T V G M O ⟨z,f,K,rfl,C⟩;refine zz 4<|zr' (v:= .slice z f K) ?_;exact⟨G.upd,_,rfl,G.lastN C⟩
theorem qIy(w:World)(X:Hid)(hX:∀k o,X k o→k<w.heap.size)(n:Int)(h1: -9223372036854775808≤n)(h2:n≤9223372036854775807):Calls Tryz.prog 51 #[.int .i64 n] w (Ret E0 w fun w' v=>rU X w' v (.of (n:Rat))):=by
 refine zen Tryz.func51 ?_;have V:St E0 w X w X []:=St.start hX;refine zz 2<|zn pn (.cells #[.bool false,.slice none 0 0,.slice none 0 0] 28 (0,0)) V fun b3 w3 Y3 N C3 N3=>zz 7<|zc N (zUn _ _ N.lt n (by omega) (by omega)) ?_
 rintro v5 w5 O C5 N5 ⟨Z,T,P5,rfl,J,G,e,f⟩;obtain rfl:=G.hlen;have S:J.length≤100000:=by have:=rO e (k:=3) (by rw[f];exact z8 (show _<18446744073709551616 by omega) (by decide));omega
 refine zc O (zDj _ _ O.lt) ?_;rintro v7 w7 Q U N7 ⟨ad7,P7,rfl,L⟩;refine zc Q (qSq _ _ Q.lt _ _ _ J (G.mono U) _ _ _ ([1]) L _ (by omega) (by simp) e zKa (by decide) (n:Rat) (by rw[f];exact int6 n)) ?_
 rintro v9 w9 W C9 N9 ⟨A,q,R,C,I,D,rfl,M,K⟩;refine zx 0 #[.bool (decide ((n:Rat).num<0)),.slice A q R,.slice C I D] W fun w10 j z=>zz 3<|zrS [.cell 2 28] (v:= .agg #[.bool (decide ((n:Rat).num<0)),.slice A q R,.slice C I D]) (Res.cM j 0 Res.nil) ?_;exact⟨j.upd,_,rfl,zAi.raw ⟨_,_,_,_,_,_,rfl,M.mono (Le.trans z j.le),K.mono (Le.trans z j.le)⟩⟩
theorem jBx(w:World)(X:Hid)(hX:∀k o,X k o→k<w.heap.size)(p q:Int)(h1: -9223372036854775808≤p)(h2:p≤9223372036854775807)(h3: -9223372036854775808≤q)(h4:q≤9223372036854775807)(hq:q≠0):Calls Tryz.prog 53 #[.int .i64 p,.int .i64 q] w (Ret E0 w fun w' v=>∃u,v= .tuple #[u,.int .i64 0]∧rU X w' u (.of (mkRat (sgn (decide (p<0)!=decide (q<0)) p.natAbs) q.natAbs))):=by
 refine zen Tryz.func53 ?_;have G0:St E0 w X w X []:=St.start hX;refine zz 2<|zn pn (.cells #[.bool false,.slice none 0 0,.slice none 0 0] 28 (0,0)) G0 fun b3 w3 Y3 G3 C3 N3=>zz 10<|zb 7 (b:=((q)==0)) (fun W=>?_) (fun W=>?_);have F5:(q)=0:=by simpa using W
 omega;have F6:(q)≠0:=by simpa using W
 refine zz 11<|zc G3 (zUn _ _ G3.lt p (by omega) (by omega)) ?_
 rintro v8 w8 G8 C8 N8 ⟨ad8,zCz,P8,rfl,T,R,j,z⟩;obtain rfl:=R.hlen;have hsh8:T.length≤100000:=by have:=rO j (k:=3) (by rw[z];exact z8 (show _<18446744073709551616 by omega) (by decide));omega
 refine zz 1<|zc G8 (zUn _ _ G8.lt q (by omega) (by omega)) ?_
 rintro v10 w10 N U N10 ⟨ad10,len10,P10,rfl,L,J,f,e⟩;obtain rfl:=J.hlen;have Z:L.length≤100000:=by have:=rO f (k:=3) (by rw[e];exact z8 (show _<18446744073709551616 by omega) (by decide));omega
 refine zc N (qSq _ _ N.lt _ _ _ T (R.mono U) _ _ _ L J _ (by omega) (by omega) j f (by rw[e];omega) (mkRat (sgn (decide (p<0)!=decide (q<0)) p.natAbs) q.natAbs) (by rw[z,e])) ?_
 rintro v12 w12 V C12 N12 ⟨D,A,O,G,K,I,rfl,S,Q⟩;refine zx 0 #[.bool (decide ((mkRat (sgn (decide (p<0)!=decide (q<0)) p.natAbs) q.natAbs).num<0)),.slice D A O,.slice G K I] V fun w13 C M=>zz 4<|zrS [.cell 4 28,.tmp 5] (v:= .tuple #[.agg #[.bool (decide ((mkRat (sgn (decide (p<0)!=decide (q<0)) p.natAbs) q.natAbs).num<0)),.slice D A O,.slice G K I],.int .i64 0]) (Res.cM C 0 (Res.tZ Res.nil)) ?_;exact⟨C.upd,_,rfl,_,rfl,zAi.raw ⟨_,_,_,_,_,_,rfl,S.mono (Le.trans M C.le),Q.mono (Le.trans M C.le)⟩⟩
end Go.Proofs.YtdfmdiakjdggbaaGreatDoor
namespace Go.Ev
open Go Go.Gv IntKind
noncomputable section
inductive Ty where
  | lim
  | int (k:IntKind)
  | bool
  | str
  | list (A:Ty)
  | prod (A B:Ty)
@[reducible] def Ty.den : Ty → Type
  | .lim => Nat
  | .int _ => Int
  | .bool => Bool
  | .str => ByteArray
  | .list A => List A.den
  | .prod A B => A.den × B.den
def Ty.size:Ty→Nat
 | .prod A B=>A.size+B.size
 | _=>1
def Ty.zero:(A:Ty)→A.den
 | .lim=>(0:Nat)
 | .int _=>(0:Int)
 | .bool=>false
 | .str=>⟨#[]⟩
 | .list _=>[]
 | .prod A B=>(A.zero,B.zero)
inductive Tg where
  | a | n | o
def Tg.isN:Tg→Bool
 | .n=>true
 | _=>false
def Tg.isA:Tg→Bool
 | .a=>true
 | _=>false
def Tg.le:Tg→Tg→Bool
 | .a,_=>true
 | .n,.n=>true
 | .o,.o=>true
 | _,_=>false
inductive T where
  | u
  | v (x:Value)
  | sl (cs:List T) (n:Nat)
  | sn (cs:List T) (n:Nat)
  | st (cs:List T) (n:Nat)
  | fp (cs:List T)
  | os (i o n c:Nat)
  | og (i o n:Nat)
  | op (i o:Nat)
  | ag (cs:List T)
  | tu (cs:List T)
  | fn (f:Nat) (cs:List T)
  | fb (f:Nat) (bs:List T)
  | om (i:Nat)
  | yl (i:Nat)
  | ls (g:Tg) (A:Ty) (l:List A.den)
  | hv (A:Ty) (l:List A.den)
inductive Cs where
  | l (cs:List T)
  | d (g:Tg) (A:Ty) (x:List A.den)
structure MD where
 g:Tg
 K:Ty
 V:Ty
 l:List (K.den×V.den)
inductive TO where
  | row (cs:List T) (e:TypeId)
  | gro (cs:Cs) (e:TypeId)
  | fz (cs:List T)
  | map (l:List (Value×T))
  | mapd (d:MD)
  | loop (L:List T) (ps:List Nat) (a b:Code) (ready:Bool) (pend:Option Code)
  | gone
structure S where
 L:List T
 H:List TO
inductive Ex where
  | n | x (id:Nat) | r | p (t:T)
def nth{α:Type}(d:α)(l:List α):Nat→α:=List.rec (fun _=>d) (fun x _ e n=>Nat.rec x (fun m _=>e m) n) l
def put{α:Type}(x:α)(l:List α):Nat→List α:=List.rec (fun _=>[]) (fun y l e n=>Nat.rec (x::l) (fun m _=>y::e m) n) l
def ln{α:Type}:List α→Nat
 | []=>0
 | _::l=>Nat.succ (ln l)
def sc:Value→Bool
 | .int .. | .bool _ | .string _ | .slice none 0 0 | .pointer none | .map none | .nilFunc | .nilIface | .iface _ (.int ..)=>true
 | _=>false
def ofV(x:Value):T:=bif sc x then .v x else .u
def ofC:Value→T
 | .agg e=> .ag (e.toList.map ofV)
 | .tuple e=> .tu (e.toList.map ofV)
 | .func (.func f) ⟨[]⟩ ⟨[]⟩=> .fn f []
 | x=>ofV x
def qE(g:Tg):(A:Ty)→A.den→List T
 | .lim,a=>[.v (.int .u32 (.ofNat a))]
 | .int k,a=>[.v (.int k a)]
 | .bool,b=>[.v (.bool b)]
 | .str,s=>[.v (.string s)]
 | .list A,l=>[.ls g A l]
 | .prod A B,x=>qE g A x.1++qE g B x.2
def zCg:(A:Ty)→A.den→List T
 | .lim,_=>[.u]
 | .int _,_=>[.u]
 | .bool,b=>[.v (.bool b)]
 | .str,s=>[.v (.string s)]
 | .list A,l=>[.hv A l]
 | .prod A B,x=>zCg A x.1++zCg B x.2
def yA(g:Tg)(A:Ty):List A.den→List T
 | []=>[]
 | x::l=>qE g A x++yA g A l
def qP(g:Tg)(A:Ty):List A.den→List T
 | []=>[]
 | x::l=>qP g A l++qE g A x
def kind:IntKind→Nat
 | .i8=>0 | .i16=>1 | .i32=>2 | .i64=>3 | .u8=>4 | .u16=>5 | .u32=>6 | .u64=>7
def Cs.list:Cs→List T
 | .l e=>e
 | .d g A x=>qP g A x
def Ty.beq:Ty→Ty→Bool
 | .lim,.lim=>true
 | .int j,.int k=>Nat.beq (kind j) (kind k)
 | .bool,.bool=>true
 | .str,.str=>true
 | .list A,.list B=>A.beq B
 | .prod A B,.prod C D=>A.beq C&&B.beq D
 | _,_=>false
theorem Ty.beq_eq:∀{A B:Ty},A.beq B=true→A=B
 | .lim,.lim,_=>rfl
 | .int j,.int k,h=>by have:=qp h;cases j<;>cases k<;>first | rfl | cases this
 | .bool,.bool,_=>rfl
 | .str,.str,_=>rfl
 | .list A,.list B,h=>by rw[Ty.beq_eq (A:=A) (B:=B) h]
 | .prod A B,.prod C D,h=>by
  simp only[Ty.beq,zd]at h;rw[Ty.beq_eq h.1,Ty.beq_eq h.2]
def tY(A B:Ty)(l:List A.den):Option (List B.den):=if h:A.beq B=true then some (Ty.beq_eq h▸l)else none
def dJ:Nat→List T→Option (List T)
 | 0,_=>some []
 | _+1,[]=>none
 | n+1,x::l=>match dJ n l with
  | some r=>some (x::r)
  | none=>none
def gG:List T→Nat→List T
 | [],_=>[]
 | x::l,n=>match n with
  | 0=>x::l
  | n+1=>gG l n
def qDn:List T→Option Nat
 | [.v (.int k (.ofNat a))]=>bif Nat.beq (kind k) 6 then some a else none
 | _=>none
def qDm(k:IntKind):List T→Option Int
 | [.v (.int e a)]=>bif Nat.beq (kind k) (kind e)then some a else none
 | _=>none
def qDl:List T→Option Bool
 | [.v (.bool b)]=>some b
 | _=>none
def qDp:List T→Option ByteArray
 | [.v (.string s)]=>some s
 | _=>none
def qDo(g:Tg)(A:Ty):List T→Option (List A.den)
 | [.v (.slice none 0 0)]=>some []
 | [.ls f e l]=>bif g.le f then tY e A l else none
 | _=>none
def mI(g:Tg):(A:Ty)→List T→Option A.den
 | .lim,e=>qDn e
 | .int k,e=>qDm k e
 | .bool,e=>qDl e
 | .str,e=>qDp e
 | .list A,e=>qDo g A e
 | .prod A B,e=>match dJ A.size e with
  | some u=>(match mI g A u,mI g B (gG e A.size)with
   | some x,some y=>some (x,y)
   | _,_=>none)
  | none=>none
def Cs.app:Cs→List T→Cs
 | .l e,b=> .l (e++b)
 | .d g A x,b=>match mI g A b with
  | some y=> .d g A (y::x)
  | none=> .l (qP g A x++b)
def Cs.apL(b:List T)(g:Tg)(A:Ty)(z:List A.den):Cs→Cs
 | .l []=> .d g A z.reverse
 | .l (c::j)=> .l ((c::j)++b)
 | .d f e x=>match tY A e z with
  | some u=>bif f.le g then .d f e (u.reverse++x)else .l (qP f e x++b)
  | none=> .l (qP f e x++b)
def Cs.apY(c:Cs)(y:T)(b:List T):Cs:=match y with
 | .ls g A z=>c.apL b g A z
 | _=>c.app b
def dn:T→T
 | .sn e n=> .sl e n
 | t=>t
def unN:Nat→T→T
 | 0,_=> .u
 | k+1,t=>match t with
  | .sn e n=> .sl (e.map (unN k)) n
  | .ls _ A l=> .ls .a A l
  | .hv _ _=> .u
  | .sl e n=> .sl (e.map (unN k)) n
  | .st e n=> .st (e.map (unN k)) n
  | .fp e=> .fp (e.map (unN k))
  | .ag e=> .ag (e.map (unN k))
  | .tu e=> .tu (e.map (unN k))
  | .fn f e=> .fn f (e.map (unN k))
  | .fb f e=> .fb f (e.map (unN k))
  | t=>t
def mkN:Nat→T→T
 | 0,t=>t
 | k+1,t=>match t with
  | .sl e n=> .sn (e.map (mkN k)) n
  | .ls _ A l=> .ls .n A l
  | .ag e=> .ag (e.map (mkN k))
  | .tu e=> .tu (e.map (mkN k))
  | .fn f e=> .fn f (e.map (mkN k))
  | t=>t
def evO(L:List T):Operand→T
 | .tmp t=>nth .u L t
 | .const x=>ofC x
 | .func f=> .fn f []
 | .global _=> .u
def qNd:IntKind→Nat
 | .i8=>128 | .i16=>32768 | .i32=>2147483648 | .i64=>9223372036854775808 | .u8=>256 | .u16=>65536 | .u32=>4294967296 | .u64=>18446744073709551616
def wr(k:IntKind):Int→Int
 | .ofNat n=>bif Nat.blt n (qNd k)then .ofNat n else k.wrap (.ofNat n)
 | .negSucc n=>k.wrap (.negSucc n)
def ieq:Int→Int→Bool
 | .ofNat a,.ofNat b=>Nat.beq a b
 | .negSucc a,.negSucc b=>Nat.beq a b
 | _,_=>false
def ilt:Int→Int→Bool
 | .ofNat a,.ofNat b=>Nat.blt a b
 | .negSucc a,.negSucc b=>Nat.blt b a
 | .negSucc _,.ofNat _=>true
 | .ofNat _,.negSucc _=>false
def zZq(op:BinOp)(k:IntKind)(a b:Int):Option Value:=match op with
 | .add=>some (.int k (wr k (Int.add a b)))
 | .sub=>some (.int k (wr k (Int.sub a b)))
 | .mul=>some (.int k (wr k (Int.mul a b)))
 | .eql=>some (.bool (ieq a b))
 | .neq=>some (.bool (!ieq a b))
 | .lss=>some (.bool (ilt a b))
 | .leq=>some (.bool (!ilt b a))
 | .gtr=>some (.bool (ilt b a))
 | .geq=>some (.bool (!ilt a b))
 | _=>none
def zZp(a b:Bool):Bool:=match a with | true=>b | false=>!b
def bin(op:BinOp)(x y:Value):Option Value:=match x,y with
 | .int k a,.int e b=>bif Nat.beq (kind k) (kind e)then zZq op k a b else none
 | _,_=>none
def zer(P:Program)(t:TypeId):Option (List T):=match(P.info? t)with
 | some i=>(match i.zero with | some v=>some (v.cells.toList.map ofV) | none=>none)
 | none=>none
def qAb(P:Program)(s f:Nat):Option (Nat×Nat):=match P.underlying s with
 | some (.struct e)=>(match e[f]? with | some x=>some (x.offset,x.type) | none=>none)
 | _=>none
def elT(P:Program)(t:TypeId):Option TypeId:=match P.underlying t with
 | some (.slice e)=>some e
 | _=>none
def jJ:List T→Nat→List T
 | [],_=>[]
 | x::l,n=>match n with
  | 0=>x::l
  | n+1=>jJ l n
def jR:Nat→List T→Option (List T)
 | 0,_=>some []
 | _+1,[]=>none
 | n+1,x::l=>match jR n l with
  | some r=>some (x::r)
  | none=>none
def cellsOf:T→List T
 | .ag e=>e
 | t=>[t]
def mW:TO→Option (List T)
 | .row e _=>some e
 | .gro e _=>some e.list
 | .fz e=>some e
 | _=>none
def pQ:TO→Option (List T)
 | .row e _=>some e
 | .gro e _=>some e.list
 | _=>none
def aF(H:List TO):T→Option (List T)
 | .op i o=>(match mW (nth .gone H i)with | some e=>some (jJ e o) | none=>none)
 | .fp e=>some e
 | _=>none
def mkT(g:Bool)(e:List T):T:=bif g then .ag e else(match e with | x::_=>x | []=> .u)
def rX:T→Option Nat
 | .v (.int _ (.ofNat i))=>some i
 | _=>none
def jW(e:List T)(o:Nat):List T→List T
 | []=>e
 | x::l=>jW (put x e o) (o+1) l
def isU:T→Bool
 | .u=>true
 | _=>false
def one:T→Bool
 | .u | .ag _ | .tu _=>false
 | _=>true
def vT:List T→Bool
 | []=>true
 | t::l=>one t&&vT l
def zEg(f:Nat→Option (Nat×Nat))(e:List T):List (Nat×T)→Option (List T)
 | []=>some e
 | (i,t)::l=>match f i with
  | none=>none
  | some (o,s)=>bif !isU t&&(Nat.beq (ln (cellsOf t)) s&&Nat.ble (o+s) (ln e))then zEg f (jW e o (cellsOf t)) l else none
def reps(z:List T):Nat→List T
 | 0=>[]
 | n+1=>z++reps z n
def evP(ρ:Operand→T)(e:Array (Nat×Operand)):List (Nat×T):=e.toList.map fun p=>(p.1,ρ p.2)
def nV(x:T)(e f:Nat)(j:Nat):Option T:=match x with
 | .sl q n=>bif Nat.ble e f&&Nat.ble f n then some (bif Nat.beq e f then .sl [] 0 else .sl (jJ q (e*j)) (f-e))else none
 | .os i o n c=>bif Nat.ble e f&&Nat.ble f c then(bif Nat.beq e c then some (.os i o (f-e) (c-e))else some (.os i (o+e*j) (f-e) (c-e)))else none
 | .og i o n=>bif Nat.ble e f&&(Nat.ble f n&&(Nat.blt e n&&Nat.blt 0 j))then some (.og i (o+e*j) (f-e))else(bif Nat.beq e 0&&Nat.beq f 0 then some (.og i o 0)else(bif Nat.beq e f&&Nat.ble f n then some (.sl [] 0)else none))
 | .st q n=>bif Nat.ble e f&&Nat.beq f n then some (bif Nat.beq e f then .st [] 0 else .st (jJ q (e*j)) (f-e))else none
 | .v (.slice none 0 0)=>bif Nat.beq f 0&&Nat.beq e 0 then some x else none
 | .ls g A l=>bif Nat.beq j A.size&&(Nat.ble e f&&Nat.ble f l.length)then some (.ls g A ((l.drop e).take (f-e)))else none
 | _=>none
def gB(x:T)(e f j:Nat)(q:Nat):Option T:=match x with
 | .os i o n c=>bif Nat.ble e f&&(Nat.ble f j&&Nat.ble j c)then some (.os i (bif Nat.beq e j then o else o+e*q) (f-e) (j-e))else none
 | .og i o n=>bif Nat.ble e f&&(Nat.ble f j&&Nat.ble j n)then some (.os i (bif Nat.beq e j then o else o+e*q) (f-e) (j-e))else none
 | .sl z n=>bif Nat.ble e f&&(Nat.beq f j&&Nat.ble j n)then some (bif Nat.beq e f then .st [] 0 else .st (jJ z (e*q)) (f-e))else none
 | .st z n=>bif Nat.ble e f&&(Nat.beq f j&&Nat.ble j n)then some (bif Nat.beq e f then .st [] 0 else .st (jJ z (e*q)) (f-e))else none
 | .v (.slice none 0 0)=>bif Nat.beq f 0&&(Nat.beq e 0&&Nat.beq j 0)then some x else none
 | .ls _ _ l=>bif(Nat.beq e f&&Nat.beq f j)&&Nat.ble j l.length then some (.st [] 0)else none
 | _=>none
def jH:T→Option Nat
 | .sl _ n=>some n
 | .sn _ n=>some n
 | .st _ n=>some n
 | .os _ _ n _=>some n
 | .og _ _ n=>some n
 | .v (.slice none 0 0)=>some 0
 | .ls _ _ l=>some l.length
 | .hv _ l=>some l.length
 | _=>none
def qJ(H:List TO)(f:Nat):T→Option (List T)
 | .sl e n=>jR (n*f) e
 | .sn e n=>jR (n*f) e
 | .st e n=>jR (n*f) e
 | .os i o n _=>(match mW (nth .gone H i)with | some e=>jR (n*f) (jJ e o) | none=>none)
 | .og i o n=>(match mW (nth .gone H i)with | some e=>jR (n*f) (jJ e o) | none=>none)
 | .v (.slice none 0 0)=>some []
 | .ls g A l=>bif Nat.beq f A.size then some (yA g A l)else none
 | _=>none
abbrev R1:=Option (T×Option TO)
def zHc(P:Program)(op:BinOp)(t:TypeId):R1:=match elT P t with
 | some _=>(match op with
  | .eql=>some (.v (.bool false),none)
  | .neq=>some (.v (.bool true),none)
  | _=>none)
 | none=>none
def val(t:T):R1:=some (t,none)
def qBl:Option T→R1
 | some t=>some (t,none)
 | none=>none
def zLi(c a b:T):R1:=match c with
 | .v (.bool c)=>val (bif c then a else b)
 | _=>none
def zUx(P:Program)(k:Nat)(e:TypeId):R1:=match zer P e with
 | some f=>some (.op k 0,some (.row f e))
 | none=>none
def jBh(k:Nat)(e:TypeId)(x:T):R1:=bif isU x then none else some (.op k 0,some (.row (cellsOf x) e))
def zVb(P:Program):List Field→Option (List (Nat×Nat))
 | []=>some []
 | f::l=>match ldT P f.type,zVb P l with
  | some (_,s),some r=>some ((f.offset,s)::r)
  | _,_=>none
def qIs(P:Program)(t:TypeId):Option (Nat→Option (Nat×Nat)):=match P.underlying t with
 | some (.struct f)=>(match zVb P f.toList with
  | some l=>some fun i=>l[i]?
  | none=>none)
 | some (.array _ e)=>(match ldT P e with
  | some (_,s)=>some fun i=>some (i*s,s)
  | none=>none)
 | _=>none
def zUy(P:Program)(t:TypeId)(j:List (Nat×T)):R1:=match zer P t,qIs P t with
 | some z,some f=>(match zEg f z j with | some e=>val (.ag e) | none=>none)
 | _,_=>none
def dB(P:Program)(k:Nat)(t:TypeId)(n:Nat)(j:List (Nat×T)):R1:=match elT P t with
 | some e=>(match zer P e,ldT P e with
  | some z,some (_,s)=>bif Nat.ble (n*s) 16777216&&(Nat.beq (ln z) s&&Nat.blt 0 s)then(match zEg (fun i=>some (i*s,s)) (reps z n) j with | some f=>some (.os k 0 n n,some (.row f e)) | none=>none)else none
  | _,_=>none)
 | none=>none
def zBn(P:Program)(H:List TO)(t:TypeId)(a:T):R1:=match ldT P t with
 | some (g,s)=>(match aF H a with
  | some e=>(match jR s e with | some e=>bif g||Nat.beq s 1 then val (mkT g e)else none | none=>none)
  | none=>none)
 | none=>none
def qPm(x:T):R1:=match x with
 | .op i o=>val (.op i o)
 | .fp e=>val (.fp e)
 | .fn f e=>val (.fn f e)
 | .yl i=>val (.yl i)
 | _=>none
def qFr(P:Program)(k:IntKind)(o:Nat)(f:Field):Bool:=match P.underlying f.type with
 | some (.int e)=>Nat.beq (kind k) (kind e)&&(Nat.beq f.offset o&&!(f.name== "_"))
 | _=>false
def wU(P:Program)(t:TypeId):Ty→Bool
 | .int k=>(match P.underlying t with | some (.int z)=>Nat.beq (kind k) (kind z) | _=>false)
 | .str=>(match P.underlying t with | some .string=>true | _=>false)
 | .prod (.int i) (.prod (.int j) (.int k))=>(match P.underlying t with
  | some (.struct ⟨[e,f,q]⟩)=>!P.stoodInHeld t&&(qFr P i 0 e&&(qFr P j 1 f&&qFr P k 2 q))
  | _=>false)
 | _=>false
def eq3(P:Program)(op:BinOp)(t:TypeId)(xs ys:List T):R1:=match xs,ys with
 | [.v (.int i a),.v (.int j b),.v (.int k c)],[.v (.int z e),.v (.int A f),.v (.int C q)]=>bif wU P t (.prod (.int i) (.prod (.int j) (.int k)))&&(!P.eqGuardType P.depth t&&(Nat.beq (kind i) (kind z)&&(Nat.beq (kind j) (kind A)&&Nat.beq (kind k) (kind C))))then(match op with
  | .eql=>val (.v (.bool (ieq a e&&(ieq b f&&ieq c q))))
  | .neq=>val (.v (.bool (!(ieq a e&&(ieq b f&&ieq c q)))))
  | _=>none)else none
 | _,_=>none
def qAx(P:Program)(op:BinOp)(t:TypeId)(x y:T):R1:=match x,y with
 | .v a,.v b=>(match bin op a b with | some c=>val (.v c) | none=>none)
 | .os ..,.v (.slice none 0 0)=>zHc P op t
 | .og ..,.v (.slice none 0 0)=>zHc P op t
 | .sl (_::_) _,.v (.slice none 0 0)=>zHc P op t
 | .st (_::_) _,.v (.slice none 0 0)=>zHc P op t
 | .ag xs,.ag ys=>eq3 P op t xs ys
 | _,_=>none
def qIl(P:Program)(k:Nat)(t:TypeId)(l c:T):R1:=match elT P t,rX l,rX c with
 | some e,some l,some c=>(match zer P e,ldT P e,P.info? e with
  | some z,some (_,s),some i=>bif(Nat.ble l c&&Nat.ble c 1000000)&&(Nat.ble i.bytes 1000000&&(Nat.beq (ln z) s&&Nat.blt 0 s))then some (.os k 0 l c,some (.row (reps z c) e))else none
  | _,_,_=>none)
 | _,_,_=>none
def opt(ρ:Operand→T)(d:Nat):Option Operand→Option Nat
 | some x=>rX (ρ x)
 | none=>some d
def tQ(ρ:Operand→T)(x:T)(s j f:Nat)(e:Option Operand):Option Operand→R1
 | none=>qBl (nV x j f s)
 | some m=>(match e with
  | some _=>(match rX (ρ m)with
   | some m=>qBl (gB x j f m s)
   | none=>none)
  | none=>none)
def nR(P:Program)(t:TypeId)(x:T)(ρ:Operand→T)(j f q:Option Operand):R1:=match elT P t with
 | some e=>(match ldT P e,jH x with
  | some (_,s),some n=>(match opt ρ 0 j,opt ρ n f with
   | some l,some h=>tQ ρ x s l h f q
   | _,_=>none)
  | _,_=>none)
 | none=>none
def lU(P:Program)(s:TypeId)(x:T)(f:Nat):R1:=match qAb P s f with
 | some (o,t)=>(match ldT P t with
  | some (_,z)=>bif Nat.beq z 0 then none else(match x with
   | .op i j=>val (.op i (j+o))
   | .fp e=>val (.fp (jJ e o))
   | _=>none)
  | none=>none)
 | none=>none
def zNv(P:Program)(s:TypeId)(x:T)(f:Nat):R1:=match qAb P s f with
 | some (o,t)=>(match x with
  | .ag e=>(match ldT P t with
   | some (g,s)=>(match jR s (jJ e o)with | some e=>bif g||Nat.beq s 1 then val (mkT g e)else none | none=>none)
   | none=>none)
  | _=>none)
 | none=>none
def sK(P:Program)(t:TypeId)(x i:T):R1:=match rX i with
 | some i=>(match P.underlying t with
  | some (.slice e)=>(match ldT P e with
   | some (_,s)=>(match x with
    | .sl f n=>bif Nat.blt i n then val (.fp (jJ f (i*s)))else none
    | .st f n=>bif Nat.blt i n then val (.fp (jJ f (i*s)))else none
    | .os j o n _=>bif Nat.blt i n then val (.op j (o+i*s))else none
    | .og j o n=>bif Nat.blt i n then val (.op j (o+i*s))else none
    | .ls g A l=>bif Nat.beq s A.size&&Nat.blt i l.length then val (.fp (qE g A (nth A.zero l i)))else none
    | .hv A l=>bif Nat.beq s A.size&&Nat.blt i l.length then val (.fp (zCg A (nth A.zero l i)))else none
    | _=>none)
   | none=>none)
  | some (.array n e)=>(match ldT P e with
   | some (_,s)=>(match x with
    | .op j o=>bif Nat.blt i n then val (.op j (o+i*s))else none
    | .fp f=>bif Nat.blt i n then val (.fp (jJ f (i*s)))else none
    | _=>none)
   | none=>none)
  | _=>none)
 | none=>none
def qPj(P:Program)(t:TypeId)(x i:T):R1:=match rX i with
 | some i=>(match P.underlying t with
  | some (.array n e)=>(match ldT P e with
   | some (g,s)=>(match x with
    | .ag f=>bif Nat.blt i n&&(g||Nat.beq s 1)then(match jR s (jJ f (i*s))with | some f=>val (mkT g f) | none=>none)else none
    | _=>none)
   | none=>none)
  | _=>none)
 | none=>none
def zBm(x:T)(i:Nat):R1:=match x with
 | .tu e=>(match e[i]? with | some t=>val t | none=>none)
 | _=>none
def jBi(x:T):R1:=match jH x with
 | some n=>val (.v (.int .i64 (.ofNat n)))
 | none=>none
def pMkF(fn:Fn)(first e:List T):R1:=match fn,first with
 | .func f,[]=>val (.fn f e)
 | .func f,j=>(match e with | []=>val (.fb f j) | _=>none)
 | _,_=>none
def zJh{α:Type}(P:Program):Sem α→Option α
 | .pure a=>some a
 | .program k=>zJh P (k P)
 | _=>none
def vOf:T→Option Value
 | .v x=>some x
 | _=>none
def zVo:List T→Option (List Value)
 | []=>some []
 | t::l=>match vOf t,zVo l with
  | some x,some r=>some (x::r)
  | _,_=>none
def sOf:T→Option Value
 | .v x=>some x
 | .ag e=>(match zVo e with | some l=>some (.agg l.toArray) | none=>none)
 | _=>none
def zMz(d:TypeDesc)(k:Value):List (Value×T)→Nat→Option (Option Nat)
 | [],_=>some none
 | e::es,i=>match Instr.sameNow d k e.1 with
  | some true=>some (some i)
  | some false=>zMz d k es (i+1)
  | none=>none
def qFx(P:Program)(t:TypeId)(k:Value):List (Value×T)→Nat→Option (Option Nat)
 | [],_=>some none
 | e::es,i=>match zJh P (Op.equal t k e.1)with
  | some true=>some (some i)
  | some false=>qFx P t k es (i+1)
  | none=>none
def zKq(P:Program)(t:TypeId)(k:Value)(l:List (Value×T)):Option (Option Nat):=match P.underlying t with
 | some d=>(match zMz d k l 0 with
  | some r=>some r
  | none=>qFx P t k l 0)
 | none=>none
def kOk(P:Program)(e:Bool)(t:TypeId)(k:Value):Bool:=match zJh P (Instr.checkKey e 10000 t k)with
 | some _=>true
 | none=>false
def emp{α:Type}:List α→Bool
 | []=>true
 | _=>false
def zGw(P:Program)(t:TypeId):Option (TypeId×TypeId):=match P.underlying t with
 | some (.map k v)=>some (k,v)
 | _=>none
def qQu(P:Program)(e:TypeId):Option T:=match P.info? e with
 | some i=>(match i.zero with | some v=>some (ofC v) | none=>none)
 | none=>none
def zKh(H:List TO):T→Option (List (Value×T))
 | .v (.map none)=>some []
 | .om i=>(match nth .gone H i with
  | .map l=>some l
  | _=>none)
 | _=>none
def okT(ok:Bool)(t:T)(b:Bool):T:=bif ok then .tu [t,.v (.bool b)]else t
def jAi(l:List (Value×T))(i:Nat):Option T:=match l[i]? with
 | some e=>some e.2
 | none=>none
def zMg:(A:Ty)→A.den→List Value
 | .int k,a=>[.int k a]
 | .str,s=>[.string s]
 | .prod A B,x=>zMg A x.1++zMg B x.2
 | _,_=>[]
def vG:(K:Ty)→K.den→Value
 | .int k,a=> .int k a
 | .str,s=> .string s
 | .prod A B,x=> .agg (zMg (.prod A B) x).toArray
 | _,_=> .nilIface
def unT(g:Tg)(V:Ty)(x:V.den):T:=match qE g V x with
 | [t]=>t
 | l=> .ag l
def MD.ents(d:MD):List (Value×T):=d.l.map fun e=>(vG d.K e.1,unT d.g d.V e.2)
def keq:(K:Ty)→K.den→K.den→Bool
 | .int _,a,b=>ieq a b
 | .str,a,b=>decide (a=b)
 | .prod A B,a,b=>keq A a.1 b.1&&keq B a.2 b.2
 | _,_,_=>false
def zUb(K:Ty){α:Type}(k:K.den):List (K.den×α)→Bool
 | []=>false
 | e::l=>keq K k e.1||zUb K k l
def rE(K:Ty){α:Type}(z:α)(k:K.den):List (K.den×α)→α
 | []=>z
 | e::l=>bif keq K k e.1 then e.2 else rE K z k l
def aA(K:Ty){α:Type}(k:K.den)(x:α):List (K.den×α)→List (K.den×α)
 | []=>[(k,x)]
 | e::l=>bif keq K k e.1 then(k,x)::l else e::aA K k x l
def zKb(g:Tg)(A:Ty):T→Option A.den
 | .ag e=>bif Nat.blt 1 A.size then mI g A e else none
 | t=>bif Nat.beq A.size 1 then mI g A [t]else none
def dOf(H:List TO):T→Option MD
 | .om i=>(match nth .gone H i with
  | .mapd d=>some d
  | _=>none)
 | _=>none
def lkD(P:Program)(f j:TypeId)(d:MD)(k:T)(ok:Bool):R1:=match zKb .a d.K k,qQu P j with
 | some e,some z=>(match zKb d.g d.V z with
  | some z0=>bif wU P f d.K then val (okT ok (unT d.g d.V (rE d.K z0 e d.l)) (zUb d.K e d.l))else none
  | none=>none)
 | _,_=>none
def zHo(P:Program)(H:List TO)(t:TypeId)(m k:T)(ok:Bool):R1:=match zGw P t,zKh H m,sOf k with
 | some (e,j),some l,some f=>bif kOk P (emp l) e f then(match zKq P e f l with
  | some (some i)=>(match jAi l i with | some x=>val (okT ok x true) | none=>none)
  | some none=>(match qQu P j with | some z=>val (okT ok z false) | none=>none)
  | none=>none)else none
 | _,_,_=>none
def zNw(P:Program)(H:List TO)(t:TypeId)(m k:T)(ok:Bool):R1:=match dOf H m with
 | some d=>(match zGw P t with
  | some (e,f)=>lkD P e f d k ok
  | none=>none)
 | none=>zHo P H t m k ok
def qIi(H:List TO)(m:T):R1:=match dOf H m with
 | some d=>val (.v (.int .i64 (.ofNat d.l.length)))
 | none=>(match zKh H m with
  | some l=>val (.v (.int .i64 (.ofNat (ln l))))
  | none=>none)
def zEi(P:Program)(H:List TO)(ρ:Operand→T)(c:Call):R1:=match c.callee,c.args.toList,c.argTypes.toList with
 | .builtin .len,[x],[t]=>(match elT P t with
  | some _=>jBi (ρ x)
  | none=>(match zGw P t with
   | some _=>qIi H (ρ x)
   | none=>none))
 | _,_,_=>none
def xC(P:Program)(H:List TO)(k:Nat)(ρ:Operand→T)(op:Op):R1:=match op with
 | .move x=>val (ρ x)
 | .assign x=>val (ρ x)
 | .pick c a b=>zLi (ρ c) (ρ a) (ρ b)
 | .alloc e=>zUx P k e
 | .box e x=>jBh k e (ρ x)
 | .build t j=>zUy P t (evP ρ j)
 | .buildSlice t n j=>dB P k t n (evP ρ j)
 | .load t a=>zBn P H t (ρ a)
 | .nilCheck x=>qPm (ρ x)
 | .binOp op t x y _=>qAx P op t (dn (ρ x)) (dn (ρ y))
 | .makeFunc fn first q=>pMkF fn (first.toList.map ρ) (q.toList.map ρ)
 | .makeSlice t l c=>qIl P k t (ρ l) (ρ c)
 | .slice t x A z C=>nR P t (dn (ρ x)) (fun y=>dn (ρ y)) A z C
 | .fieldAddr s x f=>lU P s (ρ x) f
 | .field s x f=>zNv P s (ρ x) f
 | .indexAddr t x i=>sK P t (dn (ρ x)) (dn (ρ i))
 | .index t x i=>qPj P t (dn (ρ x)) (dn (ρ i))
 | .extract x i=>zBm (ρ x) i
 | .call c=>zEi P H (fun y=>dn (ρ y)) c
 | .makeMap _ none=>some (.om k,some (.map []))
 | .lookup t m x ok=>zNw P H t (ρ m) (ρ x) ok
 | _=>none
def qBf(H:List TO)(i o:Nat)(j:List T):Option (List TO):=match nth .gone H i with
 | .row f e=>bif Nat.ble (o+ln j) (ln f)then some (put (.row (jW f o j) e) H i)else none
 | .gro f e=>bif Nat.ble (o+ln j) (ln f.list)then some (put (.gro (.l (jW f.list o j)) e) H i)else none
 | _=>none
def qVc(H:List TO)(e:TypeId)(y:T)(a b:List T)(n m:Nat):T×List TO:=(.og (ln H) 0 (n+m),H++[.gro ((Cs.l a).apY y b) e])
def qLd(H:List TO)(x:T):Option (T×List TO):=match x with
 | .v _=>some (x,H)
 | .og .. =>some (x,H)
 | .os _ _ n c=>bif Nat.ble n c then some (x,H)else none
 | .st .. =>some (x,H)
 | _=>none
def qVb(H:List TO)(e:TypeId)(s:Nat)(y:T)(a b:List T)(i o n m:Nat):TO→Option (T×List TO)
 | .gro f j=>bif Nat.beq o 0&&(Nat.beq (ln f.list) (n*s)&&Nat.beq e j)then some (.og (ln H) 0 (n+m),put .gone H i++[.gro (f.apY y b) e])else none
 | _=>none
def qLf(H:List TO)(e:TypeId)(s:Nat)(y:T)(a b:List T)(n m:Nat)(x:T):Option (T×List TO):=match x with
 | .v _=>some (qVc H e y a b n m)
 | .st .. =>some (qVc H e y a b n m)
 | .os _ _ f c=>bif Nat.beq f c then some (qVc H e y a b n m)else none
 | .og i o n=>qVb H e s y a b i o n m (nth .gone H i)
 | _=>none
def apM(b:Nat):Nat:=(281474976710656 / b-192)*4 / 5
def zAj(P:Program)(e:TypeId)(s N:Nat):Bool:=match P.info? e,zer P e with
 | some i,some z=>Nat.beq (ln z) s&&(Nat.ble N (apM i.bytes)&&Nat.blt 0 s)
 | _,_=>false
def zTb(P:Program)(H:List TO)(t:TypeId)(x y:T):Option (T×List TO):=match elT P t with
 | none=>none
 | some e=>match ldT P e with
  | none=>none
  | some (_,s)=>match qJ H s x,qJ H s y,jH x,jH y with
   | some a,some b,some n,some m=>bif Nat.beq m 0 then qLd H x else bif zAj P e s (n+m)&&vT b then qLf H e s y a b n m x else none
   | _,_,_,_=>none
def qQh(P:Program)(H:List TO)(t:TypeId)(a x:T):Option (List TO):=match ldT P t,a with
 | some (_,m),.op i o=>bif vT (cellsOf x)&&Nat.beq (ln (cellsOf x)) m then qBf H i o (cellsOf x)else none
 | _,_=>none
def jDc(P:Program)(j:TypeId)(f:Value)(x:T)(l:List (Value×T)):Option (List (Value×T)):=bif kOk P false j f then(match zKq P j f l with
 | some (some i)=>(match l[i]? with
  | some e=>bif Instr.sameBits 10000 e.1 f then some (put (f,x) l i)else none
  | none=>none)
 | some none=>some (l++[(f,x)])
 | none=>none)else none
def jDb(P:Program)(f:TypeId)(d:MD)(k x:T):Option MD:=match zKb .a d.K k,zKb d.g d.V x with
 | some e,some y=>bif wU P f d.K then some ⟨d.g,d.K,d.V,aA d.K e y d.l⟩else none
 | _,_=>none
def qQo(P:Program)(H:List TO)(t:TypeId)(m k x:T):Option (List TO):=match m with
 | .om i=>(match nth .gone H i with
  | .map l=>(match zGw P t,sOf k with
   | some (e,_),some f=>(match jDc P e f x l with
    | some l=>some (put (.map l) H i)
    | none=>none)
   | _,_=>none)
  | .mapd d=>(match zGw P t with
   | some (e,_)=>(match jDb P e d k x with
    | some d=>some (put (.mapd d) H i)
    | none=>none)
   | none=>none)
  | _=>none)
 | _=>none
def qLv(P:Program)(H:List TO)(t:TypeId)(x y:T):Option (T×List TO):=match x with
 | .os i o n _=>(match elT P t with
  | some e=>(match ldT P e with
   | some (_,s)=>(match qJ H s y,jH y with
    | some b,some m=>(match jR (Nat.min m n*s) b with
     | some us=>bif vT us&&Nat.blt 0 (Nat.min m n*s)then(match qBf H i o us with | some f=>some (.v (.int .i64 (.ofNat (Nat.min m n))),f) | none=>none)else none
     | none=>none)
    | _,_=>none)
   | none=>none)
  | none=>none)
 | _=>none
def zCj(P:Program)(H:List TO)(ρ:Operand→T)(op:Op):Option (Option T×List TO):=match op with
 | .store t a x=>(match qQh P H t (ρ a) (ρ x)with | some H=>some (none,H) | none=>none)
 | .mapUpdate t m k x=>(match qQo P H t (ρ m) (ρ k) (ρ x)with | some H=>some (none,H) | none=>none)
 | .call c=>(match c.callee,c.args.toList,c.argTypes.toList with
  | .builtin .append,[x,y],[t,e]=>bif Nat.beq t e then(match zTb P H t (ρ x) (ρ y)with | some (v,H)=>some (some v,H) | none=>none)else none
  | .builtin .copy,[x,y],[t,_]=>(match qLv P H t (ρ x) (ρ y)with | some (v,H)=>some (some v,H) | none=>none)
  | _,_,_=>none)
 | _=>none
def zSc(ρ:Operand→T):List Operand→Bool
 | []=>true
 | x::l=>(match sOf (ρ x)with | some _=>zSc ρ l | none=>false)
def sAt(ρ:Operand→T)(x:Operand):Value:=match sOf (ρ x)with
 | some v=>v
 | none=>undef
def qGs:Option Next→Option T
 | some (.value v)=>some (ofC v)
 | _=>none
def zBg(P:Program)(ρ:Operand→T)(o:Oper):Option T:=bif zQw o.op&&zSc ρ o.op.operands.toList then qGs (zJh P (execOp (sAt ρ) o))else none
def kR(ops:Array Oper)(L:List T)(o:Oper):Option Bool:=match o.guard with
 | none=>some true
 | some (j,b)=>match(match ops[j]? with | some p=>p.dst | none=>none)with
  | some t=>(match nth .u L t with
   | .v (.bool c)=>some (zZp c b)
   | .v (.int .u8 _)=>none
   | .tu []=>some false
   | _=>none)
  | none=>none
def dst(d:Option Nat)(t:T)(L:List T):List T:=match d with
 | some d=>put t L d
 | none=>L
abbrev Cl:=Nat→List T→List TO→Option (T×List TO)
abbrev Po:=Nat→List T→Option (T×Bool)
abbrev Oo:=List TO→Nat→List T→Option T
abbrev Rn:=Code→S→Option (Ex×S)
def zPw(d:Option Nat)(L:List T)(H:List TO)(r:T×Option TO):Option S:=match r.2 with
 | none=>some ⟨dst d r.1 L,H⟩
 | some e=>some ⟨dst d r.1 L,H++[e]⟩
def zPx(d:Option Nat)(L:List T)(r:Option T×List TO):Option S:=match r.1 with
 | some t=>some ⟨dst d t L,r.2⟩
 | none=>(match d with
  | none=>some ⟨L,r.2⟩
  | some _=>none)
def zCn(d:Option Nat)(L:List T):Option (T×List TO)→Option S
 | some (t,H)=>some ⟨dst d t L,H⟩
 | none=>none
def jX(P:Program)(f:Nat):Bool:=match P.funcs[f]? with
 | some fn=>bif fn.name== "runtime.NumGoroutine" then false else fn.body.isSome
 | none=>false
def zEc(P:Program)(j A:Cl)(d:Option Nat)(L:List T)(H:List TO)(e:List T):T→Option S
 | .fn f z=>bif jX P f then zCn d L (j f (e++z) H)else none
 | .fb f q=>bif jX P f then zCn d L (j f (q++e) H)else none
 | .yl l=>zCn d L (A l e H)
 | _=>none
def opC(P:Program)(e j:Cl)(d:Option Nat)(L:List T)(H:List TO):Op→Option S
 | .call c=>(match c.callee with
  | .value f=>zEc P e j d L H (c.args.toList.map (evO L)) (evO L f)
  | _=>none)
 | _=>none
def qHj(P:Program)(o:Oper)(L:List T)(H:List TO):Option S:=match zBg P (evO L) o with
 | some t=>some ⟨dst o.dst t L,H⟩
 | none=>none
def zRb(P:Program)(e f:Cl)(o:Oper)(L:List T)(H:List TO):Option S:=match zCj P H (evO L) o.op with
 | some r=>zPx o.dst L r
 | none=>match opC P e f o.dst L H o.op with
  | some s=>some s
  | none=>qHj P o L H
def fZ(P:Program)(e f:Cl)(o:Oper)(L:List T)(H:List TO):Option S:=match xC P H (ln H) (evO L) o.op with
 | some r=>zPw o.dst L H r
 | none=>zRb P e f o L H
def opE(P:Program)(cl yd:Cl)(ops:Array Oper)(o:Oper)(s:S):Option S:=match kR ops s.L o with
 | none=>none
 | some false=>some ⟨dst o.dst (.tu []) s.L,s.H⟩
 | some true=>fZ P cl yd o s.L s.H
def zRg(P:Program)(e f:Cl)(ops:Array Oper):List Oper→S→Option S
 | [],s=>some s
 | o::l,s=>match opE P e f ops o s with
  | some s=>zRg P e f ops l s
  | none=>none
def kZ:Op→Bool
 | .defer _=>false
 | _=>true
def jBl(L:List T):Op→Option T
 | .panic x=>(match evO L x with
  | .v (.iface t (.int k n))=>some (.v (.iface t (.int k n)))
  | _=>none)
 | _=>none
def qVo(P:Program)(e:Cl)(s:S):Op→Option (T×List TO)
 | .call c=>(match c.callee with
  | .value f=>(match evO s.L f with
   | .fn f q=>bif jX P f then e f (c.args.toList.map (evO s.L)++q) s.H else none
   | .fb f j=>bif jX P f then e f (j++c.args.toList.map (evO s.L)) s.H else none
   | _=>none)
  | _=>none)
 | _=>none
def qXp(L:List T):Option (T×List TO)→Option (Ex×S)
 | some (t,H)=>some (.p t,⟨L,H⟩)
 | none=>none
def opP(P:Program)(e:Cl)(ops:Array Oper)(o:Oper)(s:S):Option (Ex×S):=match kR ops s.L o with
 | some true=>(match jBl s.L o.op with
  | some t=>some (.p t,s)
  | none=>qXp s.L (qVo P e s o.op))
 | _=>none
def qHu(P:Program)(e j f:Cl)(ops:Array Oper):List Oper→S→Option (Ex×S)
 | [],s=>some (.n,s)
 | o::l,s=>match opE P e j ops o s with
  | some s=>qHu P e j f ops l s
  | none=>opP P f ops o s
def qAs(P:Program)(e j:Cl)(ops:Array Oper):List Oper→S→Option (T×S)
 | [],_=>none
 | o::l,s=>bif kZ o.op then(match opE P e j ops o s with
  | some s=>qAs P e j ops l s
  | none=>none)else(match l,o.op,o.guard,o.dst with
   | [],.defer c,none,none=>(match c.callee,c.args.toList with
    | .value f,[]=>(match evO s.L f with
     | .fn f q=>bif jX P f then some (.fn f q,s)else none
     | _=>none)
    | _,_=>none)
   | _,_,_,_=>none)
def qQa(P:Program)(H:List TO)(x:T)(e:TypeId):Option T:=match ldT P e with
 | some (g,s)=>(match aF H x with
  | some f=>(match jR s f with
   | some f=>bif g||Nat.beq s 1 then some (mkT g f)else none
   | none=>none)
  | none=>none)
 | none=>none
def dE(P:Program)(L:List T)(H:List TO):List ResultVar→Option (List T)
 | []=>some []
 | .tmp t::l=>(match dE P L H l with | some r=>some (nth .u L t::r) | none=>none)
 | .cell t e::l=>(match qQa P H (nth .u L t) e,dE P L H l with
  | some x,some r=>some (x::r)
  | _,_=>none)
def zRm:List T→T
 | [t]=>t
 | l=> .tu l
def us:Nat→List T
 | 0=>[]
 | n+1=> .u::us n
def rest(n:Nat)(e:List T):List T:=e++us (n-ln e)
def zJg:List T→List Nat→List T→List T
 | L,p::f,a::e=>zJg (put a L p) f e
 | L,_,_=>L
def zRx(P:Program)(fn:Func):Option (Ex×S)→Option (T×List TO)
 | some (.x _,_)=>none
 | some (.p _,_)=>none
 | some (_,s)=>(match dE P s.L s.H fn.results.toList with
  | some r=>some (zRm r,s.H)
  | none=>none)
 | none=>none
def clean:Nat→T→Bool
 | 0,_=>false
 | k+1,t=>match t with
  | .v _=>true
  | .ls g _ _=>g.isA
  | .sl e _=>e.all (clean k)
  | .st e _=>e.all (clean k)
  | .fp e=>e.all (clean k)
  | .ag e=>e.all (clean k)
  | .tu e=>e.all (clean k)
  | .fn _ e=>e.all (clean k)
  | _=>false
def vZ(f:T→Option T):List T→Option (List T)
 | []=>some []
 | t::l=>match f t,vZ f l with
  | some x,some r=>some (x::r)
  | _,_=>none
def gN:Ty→Bool
 | .lim=>false
 | .prod A B=>gN A&&gN B
 | _=>true
def zTz(e:Bool)(o n:Nat):TO→Option T
 | .gro (.d g A x) _=>bif(Nat.beq o 0&&(gN A&&(!e||g.isN)))&&Nat.beq n x.length then some (.ls .a A x.reverse)else none
 | _=>none
def yC(j:Bool)(H:List TO):Nat→T→Option T
 | 0,_=>none
 | k+1,t=>match t with
  | .v x=>some (.v x)
  | .ls g A l=>bif j then(bif g.isN then some (.ls .a A l)else none)else some (.ls .a A l)
  | .sl e n=>bif j then(match e,n with | [],0=>some (.sl [] 0) | _,_=>none)else(bif clean 9 (.sl e n)then some (.sl e n)else none)
  | .sn e n=>(match vZ (yC j H k) e with | some l=>some (.sl l n) | none=>none)
  | .st e n=>bif j then(match e,n with | [],0=>some (.st [] 0) | _,_=>none)else(bif clean 9 (.st e n)then some (.st e n)else none)
  | .fp e=>bif j then none else(bif clean 9 (.fp e)then some (.fp e)else none)
  | .ag e=>(match vZ (yC j H k) e with | some l=>some (.ag l) | none=>none)
  | .tu e=>(match vZ (yC j H k) e with | some l=>some (.tu l) | none=>none)
  | .fn f e=>(match vZ (yC j H k) e with | some l=>some (.fn f l) | none=>none)
  | .os i o n c=>bif Nat.ble n c&&Nat.ble c 9223372036854775807 then(match pQ (nth .gone H i)with
   | some e=>(match vZ (yC j H k) (jJ e o)with | some l=>some (.sl l n) | none=>none)
   | none=>none)else none
  | .og i o n=>(match zTz j o n (nth .gone H i)with
   | some t=>some t
   | none=>(match pQ (nth .gone H i)with
    | some e=>(match vZ (yC j H k) (jJ e o)with | some l=>some (.sl l n) | none=>none)
    | none=>none))
  | .op i o=>(match pQ (nth .gone H i)with
   | some e=>(match vZ (yC j H k) (jJ e o)with | some l=>some (.fp l) | none=>none)
   | none=>none)
  | _=>none
def qIf:Nat→T→Bool
 | 0,_=>true
 | k+1,t=>match t with
  | .os .. | .og .. | .op .. | .om _ | .yl _=>true
  | .ag e=>e.any (qIf k)
  | .tu e=>e.any (qIf k)
  | .fn _ e=>e.any (qIf k)
  | .fb _ e=>e.any (qIf k)
  | _=>false
def qAv(l:List T):Bool:=l.any (qIf 6)
def poC(q:Po)(H:List TO)(f:Nat)(e:List T):Option T:=bif qAv e then(match vZ (yC false H 12) e with
  | some j=>(match q f j with
   | some (t,true)=>some (mkN 12 t)
   | _=>none)
  | none=>none)
 else(match q f e with
  | some (t,z)=>some (bif z then mkN 12 t else t)
  | none=>none)
def endY(l:Nat):Option (Ex×S)→Option (T×List TO)
 | some (e,s)=>(match nth .gone s.H l with
  | .loop L f a b false none=>(match e with
   | .n=>some (.v (.bool true),put (.loop L f a b true none) s.H l)
   | .r=>some (.v (.bool false),put (.loop L f a b false (some .ret)) s.H l)
   | .x id=>some (.v (.bool false),put (.loop L f a b false (some (.exit id))) s.H l)
   | .p _=>none)
  | _=>none)
 | none=>none
def qRz(j:Rn)(l:Nat)(e:Code):Option (Ex×S)→Option (T×List TO)
 | some (.n,s)=>(match nth .gone s.H l with
  | .loop L f a b true none=>endY l (j e ⟨s.L,put (.loop L f a b false none) s.H l⟩)
  | _=>none)
 | _=>none
def zIu(j:Rn):Cl:=fun l e H=>match nth .gone H l with
 | .loop L f a b true none=>bif Nat.beq (ln f) (ln e)then qRz j l b (j a ⟨zJg L f e,H⟩)else none
 | _=>none
def zEx(e:Rn)(y:Code):Option (Ex×S)→Option (Ex×S)
 | some (.n,s)=>e y s
 | r=>r
def qSd(e:Rn)(x y:Code)(s:S):T→Option (Ex×S)
 | .v (.bool b)=>e (bif b then x else y) s
 | _=>none
def zZr(id:Nat):Option (Ex×S)→Option (Ex×S)
 | some (.x j,s)=>some (bif Nat.beq j id then .n else .x j,s)
 | r=>r
def qPz:Option S→Option (Ex×S)
 | some s=>some (.n,s)
 | none=>none
def qXk(l:Nat)(L:List T):Option (T×List TO)→Option (Ex×S)
 | some (_,H)=>(match nth .gone H l with
  | .loop _ _ _ _ true none=>some (.n,⟨L,put .gone H l⟩)
  | .loop _ _ _ _ false (some .ret)=>some (.r,⟨L,put .gone H l⟩)
  | .loop _ _ _ _ false (some (.exit id))=>some (.x id,⟨L,put .gone H l⟩)
  | _=>none)
 | none=>none
def jCe(P:Program)(e:Cl)(q:List Nat)(a b:Code)(L:List T)(H:List TO):T→Option (Ex×S)
 | .fn f j=>bif jX P f then qXk (ln H) L (e f (.yl (ln H)::j) (H++[.loop L q a b true none]))else none
 | _=>none
def noR:Code→Bool
 | .seq x y=>noR x&&noR y
 | .cond _ x y=>noR x&&noR y
 | .block _ x=>noR x
 | .loop x=>noR x
 | .rangeFunc .. =>false
 | .scope _=>false
 | _=>true
def fV(ops:Array Oper):Bool:=ops.toList.all fun o=>kZ o.op
def zQi(o:Oper):Bool:=match o.op with
 | .call c=>(match c.callee,c.args.toList with
  | .builtin .recover,[]=>true
  | _,_=>false)
 | _=>false
def noG(o:Oper):Bool:=match o.guard with
 | none=>true
 | some _=>false
def zMp:List Nat→List Nat→Bool
 | [],[]=>true
 | a::l,b::m=>Nat.beq a b&&zMp l m
 | _,_=>false
def zYk(ops:Array Oper):Bool:=
 zMp (Region.ready .any ops #[false,false,false,false]) [0,1]&&(zMp (Region.ready .any ops #[true,false,false,false]) [1]&&(zMp (Region.ready .any ops #[false,true,false,false]) [0]&&
 (zMp (Region.ready .any ops #[true,true,false,false]) [2]&&(zMp (Region.ready .any ops #[true,true,true,false]) [3]&&zMp (Region.ready .any ops #[true,true,true,true]) []))))
def qPy(P:Program)(D G:Cl)(ops:Array Oper)(x:T)(s:S):Option S:=match ops.toList with
 | [f,j,A,C]=>bif zQi f&&(noG f&&(noG j&&(zYk ops&&(kZ A.op&&kZ C.op))))then(match f.dst,j.dst,j.op with
  | some e,some q,.load t (.tmp a)=>bif !Nat.beq e q&&!Nat.beq e a then(match zBn P s.H t (nth .u s.L a)with
   | some (z,none)=>zRg P D G ops [A,C] ⟨put z (put x s.L e) q,s.H⟩
   | _=>none)else none
  | _,_,_=>none)else none
 | _=>none
def zTk(P:Program)(j z:Cl)(q:Rn)(x:T)(H:List TO):T→Option (List TO)
 | .fn f e=>(match P.funcs[f]? with
  | some fn=>(match fn.body,fn.results.toList with
   | some (.seq (.region _ ops true) c),[]=>bif Nat.ble (ln e) fn.ntmps&&noR c then(match qPy P j z ops x ⟨rest fn.ntmps e,H⟩with
    | some s=>(match q c s with
     | some (.n,s)=>some s.H
     | some (.r,s)=>some s.H
     | _=>none)
    | none=>none)else none
   | _,_=>none)
  | none=>none)
 | _=>none
def qAi(P:Program)(fn:Func)(s:S):Option (List TO)→Option (T×List TO)
 | some H=>(match dE P s.L H fn.results.toList with
  | some r=>some (zRm r,H)
  | none=>none)
 | none=>none
def zZw(P:Program)(e j:Cl)(f:Rn)(fn:Func)(g:T):Option (Ex×S)→Option (T×List TO)
 | some (.n,s)=>qAi P fn s (zTk P e j f (.v .nilIface) s.H g)
 | some (.r,s)=>qAi P fn s (zTk P e j f (.v .nilIface) s.H g)
 | some (.p t,s)=>qAi P fn s (zTk P e j f t s.H g)
 | _=>none
def defE(P:Program)(f j:Cl)(e:Rn)(fn:Func)(s:S):Code→Option (T×List TO)
 | .seq q (.seq (.region _ ops false) z)=>(match e q s with
  | some (.n,s)=>(match qAs P f j ops ops.toList s with
   | some (g,s)=>zZw P f j e fn g (e z s)
   | none=>none)
  | _=>none)
 | _=>none
def nO(P:Program)(j:Rn)(f:Nat)(e:List T)(H:List TO):Option (T×List TO):=match P.funcs[f]? with
 | none=>none
 | some fn=>match fn.body with
  | none=>none
  | some c=>bif Nat.ble (ln e) fn.ntmps then zRx P fn (j c ⟨rest fn.ntmps e,H⟩)else none
def zTt(P:Program)(j:Rn)(f:Nat)(e:List T)(H:List TO):Option (T×List TO):=match P.funcs[f]? with
 | none=>none
 | some fn=>match fn.body with
  | none=>none
  | some c=>bif Nat.ble (ln e) fn.ntmps then defE P (nO P j) (fun _ _ _=>none) j fn ⟨rest fn.ntmps e,H⟩ c else none
def fH(P:Program)(j:Rn)(f:Nat)(e:List T)(H:List TO):Option (T×List TO):=match nO P j f e H with
 | some r=>some r
 | none=>zTt P j f e H
def qBb:Option (Ex×S)→Option (T×List TO)
 | some (.p t,s)=>some (t,s.H)
 | _=>none
def zTu(P:Program)(j:Rn):Cl:=fun f e H=>match P.funcs[f]? with
 | none=>none
 | some fn=>match fn.body with
  | none=>none
  | some c=>bif Nat.ble (ln e) fn.ntmps then qBb (j c ⟨rest fn.ntmps e,H⟩)else none
def zJw(P:Program)(j:Oo)(O:Po)(q:Rn):Cl:=fun f e H=>match j H f e with
 | some r=>some (r,H)
 | none=>match poC O H f e with
  | some r=>some (r,H)
  | none=>fH P q f e H
def gJ:Nat→List TO
 | 0=>[]
 | n+1=> .gone::gJ n
def qFc(H:List TO)(t:T):Option (T×Bool):=match yC true H 12 t with
 | some t=>some (t,true)
 | none=>match yC false H 12 t with
  | some t=>some (t,false)
  | none=>none
def kM(P:Program)(j:Rn)(k:Nat):Po:=fun f e=>match fH P j f (e.map (unN 12)) (gJ k)with
 | some (t,H)=>qFc H t
 | none=>none
def zHt(P:Program)(O:Po)(j:Rn)(k:Nat):Po:=fun f e=>match O f e with
 | some t=>some t
 | none=>kM P j k f e
def gK(P:Program)(j:Po)(H:List TO)(L:List T):Op→Option T
 | .call c=>(match c.callee with
  | .value f=>(match evO L f with
   | .fn f e=>bif jX P f then poC j H f (c.args.toList.map (evO L)++e)else none
   | _=>none)
  | _=>none)
 | _=>none
def qDe(z f:List TO)(e:TypeId)(s:Nat)(C:Option Nat)(x:T):Option (Cs×Nat):=match C with
 | none=>(match x with
  | .v (.slice none 0 0)=>some (.l [],0)
  | .os _ _ n c=>bif Nat.beq n c then(match qJ f s x with | some a=>some (.l a,n) | none=>none)else none
  | .st _ n=>(match qJ f s x with | some a=>some (.l a,n) | none=>none)
  | _=>none)
 | some q=>(match x with
  | .og i o n=>bif Nat.beq i q&&Nat.beq o 0 then(match nth .gone z i with
   | .gro j A=>bif Nat.beq (ln j.list) (n*s)&&Nat.beq e A then some (j,n)else none
   | _=>none)else none
  | _=>none)
def zZo(P:Program)(q f:List TO)(z:Option Nat)(t:TypeId)(x y:T):R1:=match elT P t with
 | none=>none
 | some e=>match ldT P e with
  | none=>none
  | some (_,s)=>match qDe q f e s z x,qJ f s y,jH y with
   | some (a,nx),some b,some j=>bif !Nat.beq j 0&&(zAj P e s (nx+j)&&vT b)then some (.og (ln f) 0 (nx+j),some (.gro (a.apY y b) e))else none
   | _,_,_=>none
def zIy(P:Program)(e f:List TO)(j:Option Nat)(L:List T):Op→R1
 | .call c=>(match c.callee,c.args.toList,c.argTypes.toList with
  | .builtin .append,[x,y],[t,q]=>bif Nat.beq t q then zZo P e f j t (evO L x) (evO L y)else none
  | _,_,_=>none)
 | _=>none
def pV(L:List T):Op→Option Nat
 | .call c=>(match c.callee,c.args.toList with
  | .builtin .append,[x,_]=>(match evO L x with
   | .og q _ _=>some q
   | _=>none)
  | _,_=>none)
 | _=>none
def mK(P:Program)(j:Po)(f H e:List TO)(L:List T)(o:Oper):R1:=match pV L o.op with
 | some q=>zIy P f e (some q) L o.op
 | none=>match xC P H (ln e) (evO L) o.op with
  | some z=>some z
  | none=>match gK P j e L o.op with
   | some t=>some (t,none)
   | none=>match zIy P f e none L o.op with
    | some z=>some z
    | none=>match zBg P (evO L) o with
     | some t=>some (t,none)
     | none=>none
def xJ(P:Program)(j:Po)(e H f:List TO)(L:List T)(ops:Array Oper)(o:Oper):R1:=match kR ops L o with
 | none=>none
 | some false=>some (.tu [],none)
 | some true=>mK P j e H f L o
def nxH(H:List TO):Option TO→List TO
 | none=>H
 | some e=>H++[e]
def zSe(o:Oper)(seen:List Nat):List Nat:=(match o.dst with | some d=>[d] | none=>[])++(o.op.operands.toList.filterMap (fun | .tmp t=>some t | _=>none)++seen)
def zOh(o:Oper)(seen:List Nat):Bool:=match o.dst with
 | some d=>seen.any (Nat.beq d)
 | none=>false
def sW(P:Program)(j:Po)(e H:List TO)(ops:Array Oper):List Oper→List Nat→List TO→List T→List (T×Option TO)
 | [],_,_,_=>[]
 | o::l,seen,f,L=>bif zOh o seen then[]else match xJ P j e H f L ops o with
  | some z=>z::sW P j e H ops l (zSe o seen) (nxH f z.2) (dst o.dst z.1 L)
  | none=>[]
def kP:List Oper→List (T×Option TO)→List T→List T
 | o::l,z::e,L=>kP l e (dst o.dst z.1 L)
 | _,_,L=>L
def qM:List (T×Option TO)→List TO
 | []=>[]
 | (_,some f)::e=>f::qM e
 | (_,none)::e=>qM e
def zVp(o:Oper)(i:Nat):Bool:=o.after.toList.any fun e=>Region.binds .any e&&Nat.beq e.on i
def wrt(t:Nat):List Oper→Nat→Option Nat
 | [],_=>none
 | o::l,i=>match o.dst with
  | some d=>bif Nat.beq d t then some i else wrt t l (i+1)
  | none=>wrt t l (i+1)
def zDq(hd:List Oper)(o:Oper)(i t:Nat):Bool:=match wrt t hd 0 with
 | none=>true
 | some j=>Nat.blt j i&&zVp o j
def qHs(hd:List Oper)(o:Oper)(i:Nat):Operand→Bool
 | .tmp t=>zDq hd o i t
 | _=>true
def qFl(ops:Array Oper)(hd:List Oper)(o:Oper)(i:Nat):Bool:=match o.guard with
 | none=>true
 | some (j,_)=>match ops[j]? with
  | some p=>(match p.dst with
   | some t=>zDq hd o i t
   | none=>true)
  | none=>true
def zGn(ops:Array Oper)(hd:List Oper):List Oper→Nat→Bool
 | [],_=>true
 | o::l,i=>(o.op.operands.toList.all (qHs hd o i)&&qFl ops hd o i)&&((match o.dst with
  | some d=>(match wrt d l 0 with
   | none=>true
   | some _=>false)
  | none=>true)&&zGn ops hd l (i+1))
def zGx(f:List Nat):List Edge→Nat
 | []=>0
 | e::l=>bif Region.binds .any e then Nat.lor (Nat.lor (Nat.pow 2 e.on) (nth 0 f e.on)) (zGx f l)else zGx f l
def wZ:List Oper→List Nat→List Nat
 | [],e=>e
 | o::l,e=>wZ l (e++[zGx e o.after.toList])
def yG(o:Oper):Bool:=(match o.guard with | none=>true | some _=>false)&&(match o.op with
 | .move _=>true
 | .assign _=>true
 | .pick .. =>true
 | .nilCheck _=>true
 | .binOp .. =>true
 | .unOp .. =>true
 | .convert .. =>true
 | .slice .. =>true
 | .fieldAddr .. =>true
 | .field .. =>true
 | .indexAddr .. =>true
 | .index .. =>true
 | .extract .. =>true
 | _=>false)
def fU(d:Nat):Operand→Bool
 | .tmp t=>!Nat.beq t d
 | _=>true
def aD(ops:Array Oper)(o p:Oper):Bool:=match p.dst with
 | none=>false
 | some d=>o.op.operands.toList.all (fU d)&&((match o.guard with
  | none=>true
  | some (j,_)=>(match ops[j]? with
   | some g=>(match g.dst with
    | some t=>!Nat.beq t d
    | none=>true)
   | none=>true))&&(match o.dst with
  | none=>true
  | some x=>!Nat.beq x d&&p.op.operands.toList.all (fU x)))
def eqV:Value→Value→Bool
 | .int j a,.int k b=>Nat.beq (kind j) (kind k)&&ieq a b
 | .bool a,.bool b=>zZp a b
 | .slice none 0 0,.slice none 0 0=>true
 | .pointer none,.pointer none=>true
 | .map none,.map none=>true
 | _,_=>false
def fJ(e:T→T→Bool):List T→List T→Bool
 | [],[]=>true
 | a::l,b::m=>e a b&&fJ e l m
 | _,_=>false
def eqU:Nat→T→T→Bool
 | 0,_,_=>false
 | k+1,a,b=>match a,b with
  | .v x,.v y=>eqV x y
  | .sl e n,.sl q m=>Nat.beq n m&&fJ (eqU k) e q
  | .st e n,.st q m=>Nat.beq n m&&fJ (eqU k) e q
  | .fp e,.fp q=>fJ (eqU k) e q
  | .ag e,.ag q=>fJ (eqU k) e q
  | .tu e,.tu q=>fJ (eqU k) e q
  | .fn f e,.fn g q=>Nat.beq f g&&fJ (eqU k) e q
  | .os i o n c,.os z A C D=>Nat.beq i z&&(Nat.beq o A&&(Nat.beq n C&&Nat.beq c D))
  | .og i o n,.og z A C=>Nat.beq i z&&(Nat.beq o A&&Nat.beq n C)
  | .op i o,.op z A=>Nat.beq i z&&Nat.beq o A
  | .om i,.om j=>Nat.beq i j
  | _,_=>false
def bY(p:Oper):Bool:=(match p.guard with | none=>true | some _=>false)&&(match p.op with
 | .load .. =>true
 | _=>false)
def inN(i:Nat):List Nat→Bool
 | []=>false
 | j::l=>Nat.beq j i||inN i l
def vB(m:Nat)(e f:List Nat)(i:Nat)(p:Oper):Bool:=bif Nat.blt i m then yG p||(bY p&&inN i e)else yG p&&inN i f
def wfr(o p:Oper):Bool:=match o.dst with
 | none=>true
 | some x=>(match p.dst with
  | some d=>!Nat.beq x d
  | none=>true)&&p.op.operands.toList.all (fU x)
def slf(o:Oper):Bool:=match o.dst with
 | none=>true
 | some x=>o.op.operands.toList.all (fU x)
def qCx(o:Oper):List Oper→Bool
 | []=>true
 | p::l=>(bif yG p||bY p then wfr o p else true)&&qCx o l
def vlE:List Oper→List Oper→Nat→List Nat
 | _,[],_=>[]
 | pre,o::l,j=>bif yG o&&(slf o&&qCx o pre)then j::vlE (pre++[o]) l (j+1)else vlE (pre++[o]) l (j+1)
def vlR(ops:Array Oper)(m:Nat):List Nat:=vlE (ops.toList.take m) (ops.toList.drop m) m
def qZr(K:Nat):List Oper→Nat→List Nat
 | [],_=>[]
 | p::l,i=>bif bY p&&!Nat.testBit K i then i::qZr K l (i+1)else qZr K l (i+1)
def andM:List Nat→Nat→Nat
 | [],k=>k
 | m::l,k=>andM l (Nat.land m k)
def aT(ops:Array Oper)(m:Nat):List Nat:=qZr (andM ((wZ ops.toList []).drop m) (Nat.sub (Nat.pow 2 m) 1)) (ops.toList.take m) 0
def qZp(P:Program)(s:S)(p:Oper):Bool:=match p.op,p.dst with
 | .load t x,some d=>(match zBn P s.H t (evO s.L x)with
  | some (z,none)=>eqU 12 z (nth .u s.L d)
  | _=>false)
 | _,_=>false
def nK(P:Program)(ops:Array Oper)(s:S):List Nat→Bool
 | []=>true
 | i::l=>(match ops[i]? with | some p=>qZp P s p | none=>false)&&nK P ops s l
def zBd(ops:Array Oper)(m:Nat)(e f:List Nat)(o:Oper):List Oper→Nat→Nat
 | [],_=>0
 | p::l,i=>bif vB m e f i p&&aD ops o p then Nat.lor (Nat.pow 2 i) (zBd ops m e f o l (i+1))else zBd ops m e f o l (i+1)
def zAb(ops:Array Oper)(m:Nat)(e f:List Nat)(hd:List Oper):List Nat→List Oper→Nat→Bool
 | k::q,o::l,j=>(bif Nat.beq k (Nat.sub (Nat.pow 2 j) 1)then true else Nat.beq (Nat.lor k (zBd ops m e f o hd 0)) (Nat.sub (Nat.pow 2 j) 1))&&zAb ops m e f (hd++[o]) q l (j+1)
 | _,_,_=>true
def zGf:List Oper→Nat→Bool
 | [],_=>true
 | o::l,i=>o.after.toList.all (fun e=>!Region.binds .any e||Nat.blt e.on i)&&zGf l (i+1)
def qEj(ops:Array Oper)(m:Nat):Bool:=zGn ops (ops.toList.take m) (ops.toList.take m) 0&&(zAb ops m (aT ops m) (vlR ops m) (ops.toList.take m) ((wZ ops.toList []).drop m) (ops.toList.drop m) m&&zGf ops.toList 0)
def ksE:List Oper→List (T×Option TO)→List T→List (Option Nat)
 | o::l,z::e,L=>(match z.2 with | some _=>pV L o.op | none=>none)::ksE l e (dst o.dst z.1 L)
 | _,_,_=>[]
def xZ:List (Option Nat)→List TO→List TO
 | [],H=>H
 | some q::e,H=>xZ e (put .gone H q)
 | none::e,H=>xZ e H
def qUz:List (Option Nat)→Bool
 | []=>false
 | some _::_=>true
 | none::e=>qUz e
def qFs:TO→Bool
 | .gone=>true
 | _=>false
def zJa(q:Nat):List (Option Nat)→Bool
 | []=>false
 | some k::e=>Nat.beq k q||zJa q e
 | none::e=>zJa q e
def zNa(H:List TO):List (Option Nat)→Bool
 | []=>true
 | some q::e=>!zJa q e&&(qFs (nth .gone H q)&&zNa H e)
 | none::e=>zNa H e
def dI(P:Program)(e j:Cl)(ops:Array Oper)(f:List Nat):List Oper→S→Option S
 | [],s=>some s
 | o::l,s=>match opE P e j ops o s with
  | some s=>bif nK P ops s f then dI P e j ops f l s else none
  | none=>none
def jCx(P:Program)(f j:Cl)(ops:Array Oper)(e:List Nat)(l:List Oper)(s:S):Option S:=bif nK P ops s e then dI P f j ops e l s else none
def drF(P:Program)(f j:Cl)(ops:Array Oper)(s:S)(H:List TO)(e:List (T×Option TO)):Option S:=
 bif qEj ops (ln e)&&zNa H (ksE ops.toList e s.L)then jCx P f j ops (aT ops (ln e)) (ops.toList.drop (ln e)) ⟨kP ops.toList e s.L,xZ (ksE ops.toList e s.L) s.H++qM e⟩else none
def qSn(o:Oper):Bool:=match o.op with
 | .call _=>true
 | _=>false
def tlK(ops:Array Oper)(i:Nat):Bool:=(match aT ops i with | []=>true | _=>false)&&zAb ops i (aT ops i) (vlR ops i) (ops.toList.take i) ((wZ ops.toList []).drop i) (ops.toList.drop i) i
def qLw(ops:Array Oper):List Oper→List (T×Option TO)→Nat→Nat
 | o::l,e,i=>bif qSn o&&tlK ops i then i else match e with
  | _::e=>qLw ops l e (i+1)
  | []=>i
 | [],_,i=>i
def drG(P:Program)(q:Po)(f j:Cl)(ops:Array Oper)(s:S)(k:Nat)(e:List (T×Option TO)):Option S:=
 bif qUz (ksE ops.toList e s.L)then drF P f j ops s (xZ (ksE ops.toList e s.L) s.H) ((sW P q s.H (xZ (ksE ops.toList e s.L) s.H) ops ops.toList [] (xZ (ksE ops.toList e s.L) s.H) s.L).take k)else drF P f j ops s s.H e
def drU(P:Program)(j:Po)(f q:Cl)(ops:Array Oper)(s:S)(e:List (T×Option TO)):Option S:=
 drG P j f q ops s (qLw ops ops.toList e 0) (e.take (qLw ops ops.toList e 0))
def drE(P:Program)(O:Po)(e:Rn)(f j:Cl)(ops:Array Oper)(s:S):Option S:=
 drU P (zHt P O e (ln s.H+ops.size)) f j ops s (sW P (zHt P O e (ln s.H+ops.size)) s.H s.H ops ops.toList [] s.H s.L)
def sO(P:Program)(j:Oo)(O:Po)(e:Rn)(c:Code)(s:S):Option (Ex×S):=match c with
 | .skip=>some (.n,s)
 | .label _=>some (.n,s)
 | .seq x y=>zEx e y (e x s)
 | .cond c x y=>qSd e x y s (evO s.L c)
 | .block id x=>zZr id (e x s)
 | .exit id=>some (.x id,s)
 | .ret=>some (.r,s)
 | .scope x=>e x s
 | .loop x=>zEx e (.loop x) (e x s)
 | .region _ ops false=>bif fV ops then qHu P (zJw P j O e) (zIu e) (zTu P e) ops ops.toList s else none
 | .region _ ops true=>qPz (bif fV ops then drE P O e (zJw P j O e) (zIu e) ops s else none)
 | .rangeFunc f q a b=>bif noR a&&noR b then jCe P (zJw P j O e) q.toList a b s.L s.H (evO s.L f)else none
 | _=>none
def evC(P:Program)(e:Oo)(O:Rn→Po):Nat→Rn
 | 0=>fun _ _=>none
 | k+1=>sO P e (O (evC P e O k)) (evC P e O k)
def noS:Oo:=fun _ _ _=>none
def qYo(f:Nat):List Nat→Bool
 | []=>false
 | g::l=>Nat.beq g f||qYo f l
def zTj:Option (T×Bool)→Option (T×Bool)
 | some (t,b)=>bif clean 12 t then some (t,b)else none
 | none=>none
def orF(P:Program)(O:Po)(j:List Nat)(q:Rn):Po:=fun f e=>match O f e with
 | some r=>some r
 | none=>bif qYo f j&&(e.map (unN 12)).all (clean 12)then zTj (kM P q 0 f (e.map (unN 12)))else none
end
end Go.Ev
namespace Go.Ev
open Go Go.Gv Go.RowKit IntKind
structure Bm where
 f:Nat→Option (Nat×Nat)
 N:Nat
instance:CoeFun Bm fun _=>Nat→Option (Nat×Nat):=⟨Bm.f⟩
structure BLe(B B':Bm):Prop where
 le:∀i p,B i=some p→B' i=some p
 n:B.N=B'.N
instance (B B':Bm):CoeFun (BLe B B') fun _=>∀i p,B i=some p→B' i=some p:=⟨BLe.le⟩
def Bm.In(B:Bm)(g:Tg)(b:Nat):Prop:=(g= .n→B.N≤b)∧(g= .o→b<B.N)
theorem Bm.In.any{B:Bm}{b:Nat}:B.In .a b:=⟨fun e=>(by cases e),fun e=>(by cases e)⟩
theorem Bm.In.eqN{B B':Bm}(h:B.N=B'.N){g:Tg}{b:Nat}(k:B.In g b):B'.In g b:=⟨fun e=>h▸k.1 e,fun e=>h▸k.2 e⟩
theorem Bm.In.nw{B:Bm}{b:Nat}(h:B.N≤b):B.In .n b:=⟨fun _=>h,fun e=>(by cases e)⟩
theorem Bm.In.le{B:Bm}{g f:Tg}{b:Nat}(h:g.le f=true)(k:B.In f b):B.In g b:=by
 cases g<;>cases f<;>first | exact k | (cases h;done) | exact⟨fun e=>Tg.noConfusion e,fun e=>Tg.noConfusion e⟩
theorem BLe.refl(B:Bm):BLe B B:=⟨fun _ _ h=>h,rfl⟩
theorem BLe.trans{A B C:Bm}(h:BLe A B)(k:BLe B C):BLe A C:=⟨fun i p e=>k.le i p (h.le i p e),h.n.trans k.n⟩
def rG(B:Bm)(i:Nat)(p:Nat×Nat):Bm:=⟨fun j=>if j=i then some p else B j,B.N⟩
theorem BLe.set{B:Bm}{i:Nat}{p:Nat×Nat}(h:B i=none):BLe B (rG B i p):=⟨fun j q e=>by
 show(if j=i then some p else B j)=some q
 split
 ·rename_i f;rw[f,h]at e;cases e
 ·exact e,rfl⟩
theorem qN(B:Bm)(i:Nat)(p:Nat×Nat):rG B i p i=some p:=by simp[rG]
theorem jY(B:Bm){i j:Nat}(p:Nat×Nat)(h:j≠i):rG B i p j=B j:=by simp[rG,h]
def zFs{α:Type}(r:Rd)(p:Nat→Prop)(s:Nat)(R:α→List Value→Prop)(ad:Option Addr)(c:Nat)(l:List α):Prop:=
 l.length≤c∧c≤maxLen∧(l=[]∨∃b o,ad=some ⟨b,o,none⟩∧p b∧∀(i:Nat)(x:α),l[i]?=some x→∃e:List Value,e.length=s∧R x e∧∀(j:Nat)(v:Value),e[j]?=some v→r ⟨b,o+(i*s+j),none⟩=some v)
def jF(r:Rd)(p:Nat→Prop):(A:Ty)→A.den→List Value→Prop
 | .lim,a,e=>e=[.int .u32 (.ofNat a)]∧a<4294967296
 | .int k,a,e=>e=[.int k a]
 | .bool,b,e=>e=[.bool b]
 | .str,s,e=>e=[.string s]
 | .list A,l,e=>∃ad c,e=[.slice ad l.length c]∧zFs r p A.size (fun x us=>jF r p A x us) ad c l
 | .prod A B,x,e=>∃u w,e=u++w∧jF r p A x.1 u∧jF r p B x.2 w
theorem zFs.mono{α:Type}{r r':Rd}{p z:Nat→Prop}{s:Nat}{R q:α→List Value→Prop}{ad:Option Addr}{c:Nat}{l:List α}(J:Le r r')(hp:∀b,p b→z b)(G:∀x f,R x f→q x f)(h:zFs r p s R ad c l):zFs r' z s q ad c l:=
 ⟨h.1,h.2.1,h.2.2.imp id fun⟨b,o,e,I,k⟩=>⟨b,o,e,hp b I,fun i x K=>by
  obtain⟨f,A,C,D⟩:=k i x K;exact⟨f,A,G _ _ C,fun j v hv=>J _ _ (D j v hv)⟩⟩⟩
theorem jF.mono{r r':Rd}{p q:Nat→Prop}(f:Le r r')(hp:∀b,p b→q b):∀(A:Ty)(x:A.den)(j:List Value),jF r p A x j→jF r' q A x j
 | .lim,_,_,h=>h
 | .int _,_,_,h=>h
 | .bool,_,_,h=>h
 | .str,_,_,h=>h
 | .list A,_,_,⟨ad,c,e,h⟩=>⟨ad,c,e,h.mono f hp fun x j=>jF.mono f hp A x j⟩
 | .prod A B,_,_,⟨u,w,e,z,C⟩=>⟨u,w,e,jF.mono f hp A _ _ z,jF.mono f hp B _ _ C⟩
theorem Ty.size_pos:∀A:Ty,0<A.size
 | .lim=>Nat.one_pos
 | .int _=>Nat.one_pos
 | .bool=>Nat.one_pos
 | .str=>Nat.one_pos
 | .list _=>Nat.one_pos
 | .prod A _=>z8 (Ty.size_pos A) (vo _ _)
theorem jF.new{r:Rd}{p q:Nat→Prop}(C:∀b j v,r ⟨b,j,none⟩=some v→q b):∀(A:Ty)(x:A.den)(f:List Value),jF r p A x f→jF r q A x f
 | .lim,_,_,h=>h
 | .int _,_,_,h=>h
 | .bool,_,_,h=>h
 | .str,_,_,h=>h
 | .list _,[],_,⟨ad,c,e,h⟩=>⟨ad,c,e,h.1,h.2.1,.inl rfl⟩
 | .list A,J::l,_,⟨ad,c,e,h⟩=>⟨ad,c,e,h.1,h.2.1,.inr (by
  rcases h.2.2 with h | ⟨b,o,e,_,k⟩
  ·cases h
  ·refine⟨b,o,e,?_,fun i x I=>?_⟩
   ·obtain⟨f,z,_,G⟩:=k 0 J rfl;cases f with
    | nil=>have:=A.size_pos;simp at z;omega
    | cons v f=>exact C _ _ _ (G 0 v rfl)
   ·obtain⟨f,z,D,G⟩:=k i x I;exact⟨f,z,jF.new C A x f D,G⟩)⟩
 | .prod A B,_,_,⟨u,w,e,z,D⟩=>⟨u,w,e,jF.new C A _ _ z,jF.new C B _ _ D⟩
theorem jF.far{r r':Rd}{p q:Nat→Prop}(z:∀b,q b)(C:∀b j v,p b→r ⟨b,j,none⟩=some v→r' ⟨b,j,none⟩=some v):∀(A:Ty)(x:A.den)(f:List Value),jF r p A x f→jF r' q A x f
 | .lim,_,_,h=>h
 | .int _,_,_,h=>h
 | .bool,_,_,h=>h
 | .str,_,_,h=>h
 | .list A,l,_,⟨ad,c,e,h⟩=>⟨ad,c,e,h.1,h.2.1,h.2.2.imp id fun⟨b,o,e,hp,k⟩=>⟨b,o,e,z b,fun i x J=>by
  obtain⟨f,D,G,I⟩:=k i x J;exact⟨f,D,jF.far z C A x f G,fun j v hv=>C _ _ _ hp (I j v hv)⟩⟩⟩
 | .prod A B,_,_,⟨u,w,e,D,G⟩=>⟨u,w,e,jF.far z C A _ _ D,jF.far z C B _ _ G⟩
def nZ(r:Rd)(p:Nat→Prop):(A:Ty)→A.den→List Value→Prop
 | .lim,_,e=>∃a,e=[.int .u32 a]
 | .int k,_,e=>∃a,e=[.int k a]
 | .bool,b,e=>e=[.bool b]
 | .str,s,e=>e=[.string s]
 | .list A,l,e=>∃ad c,e=[.slice ad l.length c]∧zFs r p A.size (fun x us=>nZ r p A x us) ad c l
 | .prod A B,x,e=>∃u w,e=u++w∧nZ r p A x.1 u∧nZ r p B x.2 w
theorem nZ.mono{r r':Rd}{p q:Nat→Prop}(f:Le r r')(hp:∀b,p b→q b):∀(A:Ty)(x:A.den)(j:List Value),nZ r p A x j→nZ r' q A x j
 | .lim,_,_,h=>h
 | .int _,_,_,h=>h
 | .bool,_,_,h=>h
 | .str,_,_,h=>h
 | .list A,_,_,⟨ad,c,e,h⟩=>⟨ad,c,e,h.mono f hp fun x j=>nZ.mono f hp A x j⟩
 | .prod A B,_,_,⟨u,w,e,z,C⟩=>⟨u,w,e,nZ.mono f hp A _ _ z,nZ.mono f hp B _ _ C⟩
theorem jF.h{r:Rd}{p:Nat→Prop}:∀(A:Ty)(x:A.den)(vs:List Value),jF r p A x vs→nZ r p A x vs
 | .lim,_,_,h=>⟨_,h.1⟩
 | .int _,_,_,h=>⟨_,h⟩
 | .bool,_,_,h=>h
 | .str,_,_,h=>h
 | .list A,_,_,⟨ad,c,e,h⟩=>⟨ad,c,e,h.mono (Le.refl _) (fun _ h=>h) fun x vs=>jF.h A x vs⟩
 | .prod A B,_,_,⟨u,w,e,f,j⟩=>⟨u,w,e,jF.h A _ _ f,jF.h B _ _ j⟩
inductive Rep (B:Bm) (r:Rd):T→Value→Prop
  | u {x:Value}:Rep B r .u x
  | v {x:Value} (h:sc x=true):Rep B r (.v x) x
  | sl {cs:List T} {n b o c:Nat} (hn:n≤c) (f:Nat→Value) (h:∀j t,cs[j]?=some t→r ⟨b,o+j,none⟩=some (f j)) (g:∀j t,cs[j]?=some t→Rep B r t (f j)) (hm:c≤maxLen):Rep B r (.sl cs n) (.slice (some ⟨b,o,none⟩) n c)
  | sl0 {ad:Option Addr} {c:Nat} (hm:c≤maxLen):Rep B r (.sl [] 0) (.slice ad 0 c)
  | sn {cs:List T} {n b o c:Nat} (hn:n≤c) (f:Nat→Value) (h:∀j t,cs[j]?=some t→r ⟨b,o+j,none⟩=some (f j)) (g:∀j t,cs[j]?=some t→Rep B r t (f j)) (hm:c≤maxLen) (hb:∀(j:Nat)(t:T),cs[j]?=some t→B.N≤b):Rep B r (.sn cs n) (.slice (some ⟨b,o,none⟩) n c)
  | sn0 {ad:Option Addr} {c:Nat} (hm:c≤maxLen):Rep B r (.sn [] 0) (.slice ad 0 c)
  | st {cs:List T} {n b o:Nat} (f:Nat→Value) (h:∀j t,cs[j]?=some t→r ⟨b,o+j,none⟩=some (f j)) (g:∀j t,cs[j]?=some t→Rep B r t (f j)):Rep B r (.st cs n) (.slice (some ⟨b,o,none⟩) n n)
  | st0 {ad:Option Addr}:Rep B r (.st [] 0) (.slice ad 0 0)
  | fp {cs:List T} {b o:Nat} (f:Nat→Value) (h:∀j t,cs[j]?=some t→r ⟨b,o+j,none⟩=some (f j)) (g:∀j t,cs[j]?=some t→Rep B r t (f j)):Rep B r (.fp cs) (.pointer (some ⟨b,o,none⟩))
  | os {i o n c b C:Nat} (h:B i=some (b,C)):Rep B r (.os i o n c) (.slice (some ⟨b,o,none⟩) n c)
  | og {i o n c b C:Nat} (h:B i=some (b,C)) (h1:n≤c) (h2:o=0→c=C) (h3:c≤maxLen):Rep B r (.og i o n) (.slice (some ⟨b,o,none⟩) n c)
  | op {i o b C:Nat} (h:B i=some (b,C)):Rep B r (.op i o) (.pointer (some ⟨b,o,none⟩))
  | ag {cs:List T} {vs:Array Value} (f:Nat→Value) (hl:cs.length=vs.size) (h:∀j t,cs[j]?=some t→vs[j]?=some (f j)) (g:∀j t,cs[j]?=some t→Rep B r t (f j)):Rep B r (.ag cs) (.agg vs)
  | tu {cs:List T} {vs:Array Value} (f:Nat→Value) (hl:cs.length=vs.size) (h:∀j t,cs[j]?=some t→vs[j]?=some (f j)) (g:∀j t,cs[j]?=some t→Rep B r t (f j)):Rep B r (.tu cs) (.tuple vs)
  | fn {k:Nat} {cs:List T} {vs:Array Value} (f:Nat→Value) (hl:cs.length=vs.size) (h:∀j t,cs[j]?=some t→vs[j]?=some (f j)) (g:∀j t,cs[j]?=some t→Rep B r t (f j)):Rep B r (.fn k cs) (.func (.func k) #[] vs)
  | fb {k:Nat} {cs:List T} {vs:Array Value} (f:Nat→Value) (hl:cs.length=vs.size) (h:∀j t,cs[j]?=some t→vs[j]?=some (f j)) (g:∀j t,cs[j]?=some t→Rep B r t (f j)):Rep B r (.fb k cs) (.func (.func k) vs #[])
  | om {i b C:Nat} (h:B i=some (b,C)):Rep B r (.om i) (.map (some b))
  | yl {i b C:Nat} (h:B i=some (b,C)):Rep B r (.yl i) (.func (.yield b) #[] #[])
  | ls {g:Tg} {A:Ty} {l:List A.den} {v:Value} (h:jF r (B.In g) (.list A) l [v]):Rep B r (.ls g A l) v
  | hv {A:Ty} {l:List A.den} {v:Value} (h:nZ r (B.In .n) (.list A) l [v]):Rep B r (.hv A l) v
theorem Rep.mono{B B':Bm}{r r':Rd}(z:BLe B B')(C:Le r r'){t:T}{v:Value}(h:Rep B r t v):Rep B' r' t v:=by
 induction h with
 | u=>exact .u
 | v h=>exact .v h
 | sl D f h g hm q=>exact .sl D f (fun j t e=>C _ _ (h j t e)) q hm
 | sl0 hm=>exact .sl0 hm
 | sn D f h g hm K q=>exact .sn D f (fun j t e=>C _ _ (h j t e)) q hm (fun j t e=>z.n▸K j t e)
 | sn0 hm=>exact .sn0 hm
 | st f h g q=>exact .st f (fun j t e=>C _ _ (h j t e)) q
 | st0=>exact .st0
 | fp f h g q=>exact .fp f (fun j t e=>C _ _ (h j t e)) q
 | os h=>exact .os (z _ _ h)
 | og h G I J=>exact .og (z _ _ h) G I J
 | op h=>exact .op (z _ _ h)
 | ag f A h g q=>exact .ag f A h q
 | tu f A h g q=>exact .tu f A h q
 | fn f A h g q=>exact .fn f A h q
 | fb f A h g q=>exact .fb f A h q
 | om h=>exact .om (z _ _ h)
 | yl h=>exact .yl (z _ _ h)
 | ls h=>exact .ls (jF.mono C (fun b h=>h.eqN z.n) _ _ _ h)
 | hv h=>exact .hv (nZ.mono C (fun b h=>h.eqN z.n) _ _ _ h)
theorem Rep.dn{B:Bm}{r:Rd}{t:T}{v:Value}(h:Rep B r t v):Rep B r (dn t) v:=by
 cases h with
 | sn j f h g hm C=>exact .sl j f h g hm
 | sn0 hm=>exact .sl0 hm
 | u=>exact .u
 | v h=>exact .v h
 | sl j f h g hm=>exact .sl j f h g hm
 | sl0 hm=>exact .sl0 hm
 | st f h g=>exact .st f h g
 | st0=>exact .st0
 | fp f h g=>exact .fp f h g
 | os h=>exact .os h
 | og h q z A=>exact .og h q z A
 | op h=>exact .op h
 | ag f e h g=>exact .ag f e h g
 | tu f e h g=>exact .tu f e h g
 | fn f e h g=>exact .fn f e h g
 | fb f e h g=>exact .fb f e h g
 | om h=>exact .om h
 | yl h=>exact .yl h
 | ls h=>exact .ls h
 | hv h=>exact .hv h
theorem Rep.unN{B B2:Bm}{r:Rd}(G:∀i p,B i=some p→B2 i=some p):∀(k:Nat){t:T}{v:Value},Rep B r t v→Rep B2 r (unN k t) v
 | 0,_,_,_=> .u
 | k+1,t,y,h=>by
  have z:∀{C:List T}{f:Nat→Value}{q:Nat→Option Value},(∀j t,C[j]?=some t→q j=some (f j))→(∀j t,C[j]?=some t→Rep B r t (f j))→(∀j t,(C.map (Ev.unN k))[j]?=some t→q j=some (f j))∧∀j t,(C.map (Ev.unN k))[j]?=some t→Rep B2 r t (f j):=fun J K=>by
   refine⟨fun j t e=>?_,fun j t e=>?_⟩
   ·rw[qw]at e;obtain⟨M,I,rfl⟩:=kA.1 e;exact J j M I
   ·rw[qw]at e;obtain⟨M,I,rfl⟩:=kA.1 e;exact Rep.unN G k (K j M I)
  cases h with
  | sn L f h g hm O=>exact .sl L f (z h g).1 (z h g).2 hm
  | sn0 hm=>exact .sl0 hm
  | u=>exact .u
  | v h=>exact .v h
  | sl L f h g hm=>exact .sl L f (z h g).1 (z h g).2 hm
  | sl0 hm=>exact .sl0 hm
  | st f h g=>exact .st f (z h g).1 (z h g).2
  | st0=>exact .st0
  | fp f h g=>exact .fp f (z h g).1 (z h g).2
  | os h=>exact .os (G _ _ h)
  | og h J K N=>exact .og (G _ _ h) J K N
  | op h=>exact .op (G _ _ h)
  | @ag C A f D h g=>exact .ag f (by simpa using D) (z (q:=fun j=>A[j]?) h g).1 (z (q:=fun j=>A[j]?) h g).2
  | @tu C A f D h g=>exact .tu f (by simpa using D) (z (q:=fun j=>A[j]?) h g).1 (z (q:=fun j=>A[j]?) h g).2
  | @fn _ C A f D h g=>exact .fn f (by simpa using D) (z (q:=fun j=>A[j]?) h g).1 (z (q:=fun j=>A[j]?) h g).2
  | @fb _ C A f D h g=>exact .fb f (by simpa using D) (z (q:=fun j=>A[j]?) h g).1 (z (q:=fun j=>A[j]?) h g).2
  | om h=>exact .om (G _ _ h)
  | yl h=>exact .yl (G _ _ h)
  | ls h=>exact .ls (jF.mono (Le.refl _) (fun b _=>Bm.In.any) _ _ _ h)
  | hv h=>exact .u
theorem Rep.mkN{B:Bm}{r:Rd}(L:∀b j v,r ⟨b,j,none⟩=some v→B.N≤b):∀(k:Nat){t:T}{v:Value},Rep B r t v→Rep B r (mkN k t) v
 | 0,_,_,h=>h
 | k+1,t,y,h=>by
  have z:∀{C:List T}{f:Nat→Value}{q:Nat→Option Value},(∀j t,C[j]?=some t→q j=some (f j))→(∀j t,C[j]?=some t→Rep B r t (f j))→(∀j t,(C.map (Ev.mkN k))[j]?=some t→q j=some (f j))∧∀j t,(C.map (Ev.mkN k))[j]?=some t→Rep B r t (f j):=fun I J=>by
   refine⟨fun j t e=>?_,fun j t e=>?_⟩
   ·rw[qw]at e;obtain⟨M,G,rfl⟩:=kA.1 e;exact I j M G
   ·rw[qw]at e;obtain⟨M,G,rfl⟩:=kA.1 e;exact Rep.mkN L k (J j M G)
  cases h with
  | sl K f h g hm=>exact .sn K f (z h g).1 (z h g).2 hm (fun j t e=>L _ _ _ ((z h g).1 j t e))
  | sl0 hm=>exact .sn0 hm
  | sn K f h g hm Q=>exact .sn K f h g hm Q
  | sn0 hm=>exact .sn0 hm
  | u=>exact .u
  | v h=>exact .v h
  | st f h g=>exact .st f h g
  | st0=>exact .st0
  | fp f h g=>exact .fp f h g
  | os h=>exact .os h
  | og h I J O=>exact .og h I J O
  | op h=>exact .op h
  | @ag C A f D h g=>exact .ag f (by simpa using D) (z (q:=fun j=>A[j]?) h g).1 (z (q:=fun j=>A[j]?) h g).2
  | @tu C A f D h g=>exact .tu f (by simpa using D) (z (q:=fun j=>A[j]?) h g).1 (z (q:=fun j=>A[j]?) h g).2
  | @fn _ C A f D h g=>exact .fn f (by simpa using D) (z (q:=fun j=>A[j]?) h g).1 (z (q:=fun j=>A[j]?) h g).2
  | fb f D h g=>exact .fb f D h g
  | om h=>exact .om h
  | yl h=>exact .yl h
  | ls h=>exact .ls (jF.new (fun b j v e=>Bm.In.nw (L b j v e)) _ _ _ h)
  | hv h=>exact .hv h
theorem zQy{α:Type}(d x:α)(l:List α):nth d (x::l) 0=x:=rfl
theorem mV{α:Type}(d x:α)(l:List α)(n:Nat):nth d (x::l) (n+1)=nth d l n:=rfl
theorem qPv{α:Type}(x:α)(n:Nat):Ev.put x [] n=[]:=rfl
theorem zRp{α:Type}(x y:α)(l:List α):Ev.put x (y::l) 0=x::l:=rfl
theorem zHv{α:Type}(x y:α)(l:List α)(n:Nat):Ev.put x (y::l) (n+1)=y::Ev.put x l n:=rfl
def zP(B:Bm)(r:Rd):List T→List Value→Prop
 | [],[]=>True
 | t::ts,v::e=>Rep B r t v∧zP B r ts e
 | _,_=>False
section
variable {B B':Bm}{r r':Rd}
theorem zP.mono(e:BLe B B')(f:Le r r'):∀{j:List T}{q:List Value},zP B r j q→zP B' r' j q
 | [],[],_=>trivial
 | _::_,_::_,h=>⟨h.1.mono e f,zP.mono e f h.2⟩
 | [],_::_,h=>h.elim
 | _::_,[],h=>h.elim
theorem zP.unN{B2:Bm}(e:∀i p,B i=some p→B2 i=some p)(k:Nat):∀{f:List T}{j:List Value},zP B r f j→zP B2 r (f.map (unN k)) j
 | [],[],_=>trivial
 | _::_,_::_,h=>⟨h.1.unN e k,zP.unN e k h.2⟩
 | [],_::_,h=>h.elim
 | _::_,[],h=>h.elim
theorem zP.length:∀{e:List T}{f:List Value},zP B r e f→e.length=f.length
 | [],[],_=>rfl
 | _::_,_::_,h=>ju (·+1) (zP.length h.2)
 | [],_::_,h=>h.elim
 | _::_,[],h=>h.elim
theorem zP.get:∀{f:List T}{q:List Value},zP B r f q→∀{j:Nat}{t:T},f[j]?=some t→∃v,q[j]?=some v∧Rep B r t v
 | _::_,v::_,h,0,t,e=>by simp at e;subst e;exact⟨v,rfl,h.1⟩
 | _::_,_::_,h,j+1,t,e=>by simpa using zP.get h.2 (by simpa using e)
 | [],_,_,_,_,e=>by simp at e
 | _::_,[],h,_,_,_=>h.elim
theorem zP.getD:∀{e:List T}{f:List Value},zP B r e f→∀(j:Nat),Rep B r (nth .u e j) (f.getD j undef)
 | _::_,v::_,h,0=>by rw[zQy];simpa using h.1
 | _::_,_::_,h,j+1=>by rw[mV];simpa using zP.getD h.2 j
 | [],_,_,_=> .u
 | _::_,[],h,_=>h.elim
theorem zP.of:∀{q:List T}{z:List Value},q.length=z.length→(∀(j:Nat)(t:T)(v:Value),q[j]?=some t→z[j]?=some v→Rep B r t v)→zP B r q z
 | [],[],_,_=>trivial
 | t::q,v::z,f,h=>⟨h 0 t v rfl rfl,zP.of (by simpa using f) fun j t v e A=>h (j+1) t v (by simpa using e) (by simpa using A)⟩
 | [],_::_,f,_=>by simp at f
 | _::_,[],f,_=>by simp at f
theorem zP.app:∀{e us:List T}{f j:List Value},zP B r e f→zP B r us j→zP B r (e++us) (f++j)
 | [],_,[],_,_,h=>h
 | _::_,_,_::_,_,h,k=>⟨h.1,zP.app h.2 k⟩
 | [],_,_::_,_,h,_=>h.elim
 | _::_,_,[],_,h,_=>h.elim
theorem zP.split:∀{ts us:List T}{e:List Value},zP B r (ts++us) e→zP B r ts (e.take ts.length)∧zP B r us (e.drop ts.length)
 | [],_,_,h=>⟨trivial,h⟩
 | _::ts,us,v::e,h=>by
  obtain⟨f,j⟩:=zP.split (ts:=ts) (us:=us) h.2;exact⟨⟨h.1,f⟩,j⟩
 | _::_,_,[],h=>h.elim
theorem zP.drop:∀(n:Nat){e:List T}{f:List Value},zP B r e f→zP B r (jJ e n) (f.drop n)
 | 0,[],[],h=>h
 | 0,_::_,_::_,h=>h
 | n+1,_::_,_::_,h=>by simpa[jJ]using zP.drop n h.2
 | _+1,[],[],_=>trivial
 | _,[],_::_,h=>h.elim
 | _,_::_,[],h=>h.elim
theorem zP.take:∀{n:Nat}{f us:List T}{j:List Value},zP B r f j→jR n f=some us→zP B r us (j.take n)∧(j.take n).length=n
 | 0,_,_,_,_,e=>by simp[jR]at e;subst e;exact⟨trivial,by simp⟩
 | n+1,_::f,us,v::j,h,e=>by
  simp only[jR]at e;cases he:jR n f with
  | none=>simp[he]at e
  | some x=>
   simp only[he,za]at e;subst e;obtain⟨q,z⟩:=zP.take h.2 he;exact⟨⟨h.1,q⟩,by simp[z]⟩
 | _+1,[],_,_,_,e=>by simp[jR]at e
 | _+1,_::_,_,[],h,_=>h.elim
theorem zP.put:∀{e:List T}{f:List Value},zP B r e f→∀(j:Nat){t:T}{v:Value},Rep B r t v→zP B r (put t e j) (f.set j v)
 | [],[],_,_,_,_,_=>trivial
 | _::_,_::_,h,0,_,_,k=>⟨k,h.2⟩
 | _::_,_::_,h,j+1,_,_,k=>⟨h.1,zP.put h.2 j k⟩
 | [],_::_,h,_,_,_,_=>h.elim
 | _::_,[],h,_,_,_,_=>h.elim
theorem qU{α:Type}:∀l:List α,ln l=l.length
 | []=>rfl
 | _::l=>by simp[ln,qU l]
theorem qW{α:Type}(d:α):∀(l:List α)(n:Nat),nth d l n=l.getD n d
 | [],_=>rfl
 | _::_,0=>rfl
 | _::l,n+1=>by rw[mV];simpa using qW d l n
theorem yN{α:Type}(x:α):∀(l:List α)(n:Nat),Ev.put x l n=l.set n x
 | [],_=>rfl
 | _::_,0=>rfl
 | _::l,n+1=>by rw[zHv];simp[yN x l n]
theorem nE:∀(l:List T)(n:Nat),jJ l n=l.drop n
 | [],_=>by simp[jJ]
 | _::_,0=>rfl
 | _::l,n+1=>by simp[jJ,nE l n]
theorem zBw:∀{n:Nat}{l u:List T},jR n l=some u→n≤l.length∧u=l.take n
 | 0,_,_,h=>by simp[jR]at h;subst h;simp
 | n+1,x::l,u,h=>by
  simp only[jR]at h;cases he:jR n l with
  | none=>simp[he]at h
  | some y=>
   simp only[he,za]at h;obtain⟨e,f⟩:=zBw he;subst h;subst f;simpa using e
 | _+1,[],_,h=>by simp[jR]at h
theorem dK:∀l:List T,jR l.length l=some l
 | []=>rfl
 | _::l=>by simp[jR,dK l]
def Cls(B:Bm)(r:Rd)(b o:Nat)(e:List T):Prop:=∀j t,e[j]?=some t→∃v,r ⟨b,o+j,none⟩=some v∧Rep B r t v
theorem Cls.mono(C:BLe B B')(q:Le r r'){b o:Nat}{f:List T}(h:Cls B r b o f):Cls B' r' b o f:=fun j t e=>by
 obtain⟨v,z,A⟩:=h j t e;exact⟨v,q _ _ z,A.mono C q⟩
theorem Cls.drop{b o:Nat}{f:List T}(h:Cls B r b o f)(n:Nat):Cls B r b (o+n) (jJ f n):=fun j t e=>by
 rw[nE,jm]at e;obtain⟨v,q,z⟩:=h _ t e;exact⟨v,by rw[xq];exact q,z⟩
theorem Cls.fun{b o:Nat}{q:List T}(h:Cls B r b o q):∃f:Nat→Value,(∀j t,q[j]?=some t→r ⟨b,o+j,none⟩=some (f j))∧∀j t,q[j]?=some t→Rep B r t (f j):=by
 refine⟨fun j=>(r ⟨b,o+j,none⟩).getD undef,fun j t e=>?_,fun j t e=>?_⟩<;>obtain⟨v,z,A⟩:=h j t e
 ·simp[z]
 ·simpa[z]using A
theorem Cls.sl{b o n c:Nat}{e:List T}(h:Cls B r b o e)(z:n≤c)(hm:c≤maxLen):Rep B r (.sl e n) (.slice (some ⟨b,o,none⟩) n c):=by
 obtain⟨f,j,q⟩:=h.fun;exact .sl z f j q hm
theorem Cls.st{b o n:Nat}{e:List T}(h:Cls B r b o e):Rep B r (.st e n) (.slice (some ⟨b,o,none⟩) n n):=by
 obtain⟨f,j,q⟩:=h.fun;exact .st f j q
theorem Cls.fp{b o:Nat}{e:List T}(h:Cls B r b o e):Rep B r (.fp e) (.pointer (some ⟨b,o,none⟩)):=by
 obtain⟨f,j,q⟩:=h.fun;exact .fp f j q
theorem zMc{q:List T}{vs:Array Value}(h:zP B r q vs.toList):∃f:Nat→Value,q.length=vs.size∧(∀j t,q[j]?=some t→vs[j]?=some (f j))∧∀j t,q[j]?=some t→Rep B r t (f j):=by
 refine⟨fun j=>vs.getD j undef,by simpa using h.length,fun j t e=>?_,fun j t e=>?_⟩<;>obtain⟨v,z,A⟩:=h.get e
 ·have:vs[j]?=some v:=by simpa using z
  simp[this]
 ·have:vs[j]?=some v:=by simpa using z
  simpa[this]using A
theorem zHg{q:List T}{z:Array Value}(f:Nat→Value)(G:q.length=z.size)(h:∀j t,q[j]?=some t→z[j]?=some (f j))(g:∀j t,q[j]?=some t→Rep B r t (f j)):zP B r q z.toList:=
 zP.of (by simpa using G) fun j t v e C=>by
  have D:=h j t e;have A:z[j]?=some v:=by simpa using C
  rw[D]at A;cases A;exact g j t e
theorem Rep.mkAg{e:List T}{vs:List Value}(h:zP B r e vs):Rep B r (.ag e) (.agg vs.toArray):=by
 obtain⟨f,j,q,z⟩:=zMc (vs:=vs.toArray) (by simpa using h)
 exact .ag f j q z
theorem Rep.mkTu{e:List T}{vs:List Value}(h:zP B r e vs):Rep B r (.tu e) (.tuple vs.toArray):=by
 obtain⟨f,j,q,z⟩:=zMc (vs:=vs.toArray) (by simpa using h)
 exact .tu f j q z
theorem Rep.mkFn{k:Nat}{e:List T}{vs:List Value}(h:zP B r e vs):Rep B r (.fn k e) (.func (.func k) #[] vs.toArray):=by
 obtain⟨f,j,q,z⟩:=zMc (vs:=vs.toArray) (by simpa using h)
 exact .fn f j q z
theorem Rep.agI{cs:List T}{v:Value}(h:Rep B r (.ag cs) v):∃e:List Value,v= .agg e.toArray∧zP B r cs e:=by
 cases h with
 | @ag _ e f j h g=>exact⟨e.toList,by simp,zHg f j h g⟩
theorem Rep.tuI{j:List T}{v:Value}(h:Rep B r (.tu j) v):∃e:List Value,v= .tuple e.toArray∧zP B r j e:=by
 cases h with
 | @tu _ e f q h g=>exact⟨e.toList,by simp,zHg f q h g⟩
theorem Rep.fbI{k:Nat}{j:List T}{v:Value}(h:Rep B r (.fb k j) v):∃e:List Value,v= .func (.func k) e.toArray #[]∧zP B r j e:=by
 cases h with
 | @fb _ _ e f q h g=>exact⟨e.toList,by simp,zHg f q h g⟩
theorem Rep.mkFb{k:Nat}{e:List T}{vs:List Value}(h:zP B r e vs):Rep B r (.fb k e) (.func (.func k) vs.toArray #[]):=by
 obtain⟨f,j,q,z⟩:=zMc (vs:=vs.toArray) (by simpa using h)
 exact .fb f j q z
theorem Rep.fnI{k:Nat}{j:List T}{v:Value}(h:Rep B r (.fn k j) v):∃e:List Value,v= .func (.func k) #[] e.toArray∧zP B r j e:=by
 cases h with
 | @fn _ _ e f q h g=>exact⟨e.toList,by simp,zHg f q h g⟩
theorem Rep.fpI{q:List T}{v:Value}(h:Rep B r (.fp q) v):∃b o,v= .pointer (some ⟨b,o,none⟩)∧Cls B r b o q:=by
 cases h with
 | @fp _ b o f h g=>exact⟨b,o,rfl,fun j t e=>⟨f j,h j t e,g j t e⟩⟩
theorem Rep.slI{q:List T}{n:Nat}{v:Value}(h:Rep B r (.sl q n) v):∃ad c,v= .slice ad n c∧n≤c∧((n=0∧q=[])∨∃b o,ad=some ⟨b,o,none⟩∧Cls B r b o q):=by
 cases h with
 | @sl _ _ b o c z f h g hm=>exact⟨_,c,rfl,z,.inr ⟨b,o,rfl,fun j t e=>⟨f j,h j t e,g j t e⟩⟩⟩
 | @sl0 ad c hm=>exact⟨ad,c,rfl,qu _,.inl ⟨rfl,rfl⟩⟩
theorem Rep.slB{e:List T}{n m c:Nat}{ad:Option Addr}(h:Rep B r (.sl e n) (.slice ad m c)):c≤maxLen:=by
 cases h with
 | sl j f h g hm=>exact hm
 | sl0 hm=>exact hm
theorem Rep.ogB{i o n m c:Nat}{ad:Option Addr}(h:Rep B r (.og i o n) (.slice ad m c)):c≤maxLen:=by
 cases h with
 | og h f j e=>exact e
theorem Rep.stI{q:List T}{n:Nat}{v:Value}(h:Rep B r (.st q n) v):∃ad,v= .slice ad n n∧((n=0∧q=[])∨∃b o,ad=some ⟨b,o,none⟩∧Cls B r b o q):=by
 cases h with
 | @st _ _ b o f h g=>exact⟨_,rfl,.inr ⟨b,o,rfl,fun j t e=>⟨f j,h j t e,g j t e⟩⟩⟩
 | @st0 ad=>exact⟨ad,rfl,.inl ⟨rfl,rfl⟩⟩
theorem Rep.vI{x v:Value}(h:Rep B r (.v x) v):v=x∧sc x=true:=by
 cases h with
 | v h=>exact⟨rfl,h⟩
theorem Rep.osI{i o n c:Nat}{v:Value}(h:Rep B r (.os i o n c) v):∃b C,v= .slice (some ⟨b,o,none⟩) n c∧B i=some (b,C):=by
 cases h with
 | @os _ _ _ _ b C h=>exact⟨b,C,rfl,h⟩
theorem Rep.ogI{i o n:Nat}{v:Value}(h:Rep B r (.og i o n) v):∃b C c,v= .slice (some ⟨b,o,none⟩) n c∧B i=some (b,C)∧n≤c∧(o=0→c=C):=by
 cases h with
 | @og _ _ _ c b C h e f j=>exact⟨b,C,c,rfl,h,e,f⟩
theorem Rep.opI{i o:Nat}{v:Value}(h:Rep B r (.op i o) v):∃b C,v= .pointer (some ⟨b,o,none⟩)∧B i=some (b,C):=by
 cases h with
 | @op _ _ b C h=>exact⟨b,C,rfl,h⟩
theorem Rep.omI{i:Nat}{v:Value}(h:Rep B r (.om i) v):∃b C,v= .map (some b)∧B i=some (b,C):=by
 cases h with
 | @om _ b C h=>exact⟨b,C,rfl,h⟩
theorem Rep.ylI{i:Nat}{v:Value}(h:Rep B r (.yl i) v):∃b C,v= .func (.yield b) #[] #[]∧B i=some (b,C):=by
 cases h with
 | @yl _ b C h=>exact⟨b,C,rfl,h⟩
theorem Rep.lsI{g:Tg}{A:Ty}{l:List A.den}{v:Value}(h:Rep B r (.ls g A l) v):∃ad c,v= .slice ad l.length c∧zFs r (B.In g) A.size (fun x us=>jF r (B.In g) A x us) ad c l:=by
 cases h with
 | ls h=>
  obtain⟨ad,c,e,h⟩:=h;cases e;exact⟨ad,c,rfl,h⟩
theorem jF.reps{g:Tg}:∀(A:Ty)(x:A.den)(f:List Value),jF r (B.In g) A x f→zP B r (qE g A x) f
 | .lim,_,_,h=>by rw[h.1];exact⟨.v rfl,trivial⟩
 | .int _,_,_,h=>by rw[show _=_ from h];exact⟨.v rfl,trivial⟩
 | .bool,_,_,h=>by rw[show _=_ from h];exact⟨.v rfl,trivial⟩
 | .str,_,_,h=>by rw[show _=_ from h];exact⟨.v rfl,trivial⟩
 | .list _,_,_,h=>by
  obtain⟨ad,c,e,j⟩:=h;subst e;exact⟨.ls ⟨ad,c,rfl,j⟩,trivial⟩
 | .prod A B,_,_,⟨u,w,e,q,z⟩=>by rw[e];exact zP.app (jF.reps A _ _ q) (jF.reps B _ _ z)
theorem Rep.hvI{A:Ty}{l:List A.den}{v:Value}(h:Rep B r (.hv A l) v):∃ad c,v= .slice ad l.length c∧zFs r (B.In .n) A.size (fun x us=>nZ r (B.In .n) A x us) ad c l:=by
 cases h with
 | hv h=>
  obtain⟨ad,c,e,h⟩:=h;cases e;exact⟨ad,c,rfl,h⟩
theorem nZ.reps:∀(A:Ty)(x:A.den)(f:List Value),nZ r (B.In .n) A x f→zP B r (zCg A x) f
 | .lim,_,_,h=>by obtain⟨a,rfl⟩:=h;exact⟨.u,trivial⟩
 | .int _,_,_,h=>by obtain⟨a,rfl⟩:=h;exact⟨.u,trivial⟩
 | .bool,_,_,h=>by rw[show _=_ from h];exact⟨.v rfl,trivial⟩
 | .str,_,_,h=>by rw[show _=_ from h];exact⟨.v rfl,trivial⟩
 | .list _,_,_,h=>by
  obtain⟨ad,c,e,j⟩:=h;subst e;exact⟨.hv ⟨ad,c,rfl,j⟩,trivial⟩
 | .prod A B,_,_,⟨u,w,e,q,z⟩=>by rw[e];exact zP.app (nZ.reps A _ _ q) (nZ.reps B _ _ z)
theorem jM(g:Tg):∀(A:Ty)(x:A.den),(qE g A x).length=A.size
 | .lim,_=>rfl
 | .int _,_=>rfl
 | .bool,_=>rfl
 | .str,_=>rfl
 | .list _,_=>rfl
 | .prod A B,x=>by rw[qE,qo,jM g A,jM g B];rfl
theorem cB(g:Tg)(A:Ty):∀l:List A.den,(yA g A l).length=l.length*A.size
 | []=>by simp[yA]
 | x::l=>by rw[yA,qo,jM,cB g A l,qf,yo,xz]
theorem zKk(g:Tg)(A:Ty):∀(l:List A.den)(j:Nat)(t:T),(yA g A l)[j]?=some t→∃i x q,j=i*A.size+q∧l[i]?=some x∧(qE g A x)[q]?=some t
 | [],_,_,h=>by simp[yA]at h
 | x::l,j,t,h=>by
  rw[yA,wl]at h;split at h
  ·exact⟨0,x,j,by simp,rfl,h⟩
  ·rename_i z;rw[jM]at h z;obtain⟨i,y,q,C,e,f⟩:=zKk g A l _ t h;exact⟨i+1,y,q,by rw[yo];omega,by simpa using e,f⟩
theorem Rep.lsS{g:Tg}{A:Ty}{l:List A.den}{v:Value}(h:Rep B r (.ls g A l) v):Rep B r (.sl (yA g A l) l.length) v:=by
 obtain⟨ad,c,rfl,K,hm,J⟩:=h.lsI;rcases J with rfl | ⟨b,o,rfl,M,k⟩
 ·exact .sl0 hm
 ·refine Cls.sl (fun j t e=>?_) K hm;obtain⟨i,x,q,D,G,I⟩:=zKk g A l j t e;obtain⟨L,g1,g2,C⟩:=k i x G;obtain⟨v,f,z⟩:=(jF.reps A x L g2).get I;exact⟨v,by rw[D];exact C q v f,z⟩
theorem Rep.lsE{g:Tg}{A:Ty}{l:List A.den}{v:Value}(h:Rep B r (.ls g A l) v){i:Nat}(f:i<l.length):∃b o n c,v= .slice (some ⟨b,o,none⟩) n c∧Cls B r b (o+i*A.size) (qE g A (nth A.zero l i)):=by
 obtain⟨ad,c,rfl,K,hm,D⟩:=h.lsI;rcases D with rfl | ⟨b,o,rfl,J,k⟩
 ·simp at f
 ·refine⟨b,o,_,_,rfl,fun j t e=>?_⟩;have G:l[i]?=some (nth A.zero l i):=by rw[qW];simp[f]
  obtain⟨I,g1,g2,C⟩:=k i _ G;obtain⟨v,q,z⟩:=(jF.reps A _ I g2).get e;exact⟨v,by rw[xq];exact C j v q,z⟩
theorem Rep.hvE{A:Ty}{l:List A.den}{v:Value}(h:Rep B r (.hv A l) v){i:Nat}(f:i<l.length):∃b o n c,v= .slice (some ⟨b,o,none⟩) n c∧Cls B r b (o+i*A.size) (zCg A (nth A.zero l i)):=by
 obtain⟨ad,c,rfl,K,hm,D⟩:=h.hvI;rcases D with rfl | ⟨b,o,rfl,J,k⟩
 ·simp at f
 ·refine⟨b,o,_,_,rfl,fun j t e=>?_⟩;have G:l[i]?=some (nth A.zero l i):=by rw[qW];simp[f]
  obtain⟨I,g1,g2,C⟩:=k i _ G;obtain⟨v,q,z⟩:=(nZ.reps A _ I g2).get e;exact⟨v,by rw[xq];exact C j v q,z⟩
theorem Rep.lsP{g:Tg}{A:Ty}{l:List A.den}{b o n c f k:Nat}(h:Rep B r (.ls g A l) (.slice (some ⟨b,o,none⟩) n c))(K:f+k≤l.length):Rep B r (.ls g A ((l.drop f).take k)) (.slice (some ⟨b,o+f*A.size,none⟩) k (c-f)):=by
 obtain⟨ad,J,e,L,hm,D⟩:=h.lsI;cases e;refine .ls ⟨some ⟨b,o+f*A.size,none⟩,c-f,?_,?_,by omega,?_⟩
 ·rw[jo,xj,kg (by omega)]
 ·rw[jo,xj,kg (by omega)];omega
 rcases D with rfl | ⟨I,M,e,C,kk⟩
 ·left;simp
 ·cases e;right;refine⟨_,_,rfl,C,fun i x q=>?_⟩;have q:l[f+i]?=some x:=by
   rw[qi]at q;split at q
   ·rwa[jm]at q
   ·cases q
  obtain⟨G,g1,g2,z⟩:=kk _ x q;refine⟨G,g1,g2,fun j v hv=>?_⟩;have:=z j v hv;rwa[show o+f*A.size+(i*A.size+j)=o+((f+i)*A.size+j)by rw[ja];omega]
theorem Rep.cells{t:T}{v:Value}(ht:t≠.u)(h:Rep B r t v):zP B r (cellsOf t) v.cells.toList:=by
 have one:∀{t:T}{v:Value},v.cells=#[v]→cellsOf t=[t]→Rep B r t v→zP B r (cellsOf t) v.cells.toList:=fun A C h=>by rw[A,C];exact⟨h,trivial⟩
 cases h with
 | u=>exact absurd rfl ht
 | v z=>refine one ?_ rfl (.v z);cases v<;>first | rfl | (simp[sc]at z)
 | ag f j h g=>exact zHg f j h g
 | sl q f h g hm=>exact one rfl rfl (.sl q f h g hm)
 | sl0 hm=>exact one rfl rfl (.sl0 hm)
 | sn q f h g hm J=>exact one rfl rfl (.sn q f h g hm J)
 | sn0 hm=>exact one rfl rfl (.sn0 hm)
 | st f h g=>exact one rfl rfl (.st f h g)
 | st0=>exact one rfl rfl .st0
 | fp f h g=>exact one rfl rfl (.fp f h g)
 | os h=>exact one rfl rfl (.os h)
 | og h D G I=>exact one rfl rfl (.og h D G I)
 | op h=>exact one rfl rfl (.op h)
 | tu f j h g=>exact one rfl rfl (.tu f j h g)
 | fn f j h g=>exact one rfl rfl (.fn f j h g)
 | fb f j h g=>exact one rfl rfl (.fb f j h g)
 | om h=>exact one rfl rfl (.om h)
 | yl h=>exact one rfl rfl (.yl h)
 | ls h=>exact one (by obtain⟨_,_,e,_⟩:=h;cases e;rfl) rfl (.ls h)
 | hv h=>exact one (by obtain⟨_,_,e,_⟩:=h;cases e;rfl) rfl (.hv h)
theorem zXq(x:Value):Rep B r (ofV x) x:=by
 unfold ofV;cases h:sc x with
 | true=>exact .v h
 | false=>exact .u
theorem mX:∀l:List Value,zP B r (l.map ofV) l
 | []=>trivial
 | x::l=>⟨zXq x,mX l⟩
theorem zBh(x:Value):Rep B r (ofC x) x:=by
 unfold ofC;split
 ·rename_i e;have:=Rep.mkAg (B:=B) (r:=r) (mX e.toList);simpa using this
 ·rename_i e;have:=Rep.mkTu (B:=B) (r:=r) (mX e.toList);simpa using this
 ·rename_i f;exact Rep.mkFn (vs:=[]) trivial
 ·exact zXq x
theorem Cls.cells{b o n:Nat}{z us:List T}{w:World}{Y:Hid}(h:Cls B (rd w Y) b o z)(ht:jR n z=some us):∃A,A.length=n∧zP B (rd w Y) us A∧jC w ⟨b,o,none⟩ A:=by
 obtain⟨G,D⟩:=zBw ht;obtain⟨f,I,J⟩:=h.fun;have K:∀j,j<n→∃t,z[j]?=some t:=fun j q=>⟨z[j],by simp⟩
 refine⟨(List.range n).map f,by simp,zP.of (by simp[D,kg G]) fun j t v e C=>?_,fun j v e=>?_⟩
 ·have q:j<n:=by
   have:=(zh.1 C).1;simpa using this
  rw[D,qi,qn q]at e;have:v=f j:=by simpa[q]using C.symm
  rw[this];exact J j t e
 ·have q:j<n:=by
   have:=(zh.1 e).1;simpa using this
  obtain⟨t,ht⟩:=K j q;have:v=f j:=by simpa[q]using e.symm
  rw[this,jT];exact yO (I j t ht)
end
def Iv(P:Program)(w:World):Prop:=P.globalNamed "internal/strconv.uint64pow10" ≠none→Lib.TabIs P w "internal/strconv.uint64pow10" .u64 Lib.pow10Tab
theorem Iv.upd{P:Program}{w w':World}(h:Iv P w)(f:Upd E0 w w'):Iv P w':=fun e=>Lib.tabBelow_of_tabIs (h e) w' f.below
def vO:TO→Bool
 | .row .. | .gro .. | .map _ | .mapd _ | .loop .. =>true
 | _=>false
def LSt:Bool→Option Code→Loop→Prop
 | true,none,rec=>rec.state= .ready∧rec.pending=none
 | true,some _,_=>False
 | false,none,rec=>rec.state= .busy
 | false,some c,rec=>rec.state= .done∧rec.pending=some c
def xQ(B:Bm)(r:Rd):List (Value×T)→List MapEntry→Prop
 | [],[]=>True
 | e::l,f::es=>f.key=e.1∧Rep B r e.2 f.val∧xQ B r l es
 | _,_=>False
theorem xQ.mono{B B':Bm}{r r':Rd}(e:BLe B B')(f:Le r r'):∀{l:List (Value×T)}{es:List MapEntry},xQ B r l es→xQ B' r' l es
 | [],[],_=>trivial
 | _::_,_::_,h=>⟨h.1,h.2.1.mono e f,xQ.mono e f h.2.2⟩
 | [],_::_,h=>h.elim
 | _::_,[],h=>h.elim
theorem xQ.length{B:Bm}{r:Rd}:∀{l:List (Value×T)}{es:List MapEntry},xQ B r l es→l.length=es.length
 | [],[],_=>rfl
 | _::_,_::_,h=>ju (·+1) (xQ.length h.2.2)
 | [],_::_,h=>h.elim
 | _::_,[],h=>h.elim
inductive RO (P:Program) (B:Bm) (r:Rd) (C:Nat):TO→Obj→Prop
  | row {cs:List T} {e:TypeId} {c:Array Value} (h:zP B r cs c.toList):RO P B r C (.row cs e) (.cells c e (0,0))
  | gro {cs:Cs} {e:TypeId} {c:Array Value} {i0:TypeInfo} (hi:P.info? e=some i0) (hs:c.size=C*i0.size) (hC:C≤maxLen) (h:zP B r cs.list (c.toList.take cs.list.length)):RO P B r C (.gro cs e) (.cells c e (0,0))
  | map {l:List (Value×T)} {es:Array MapEntry} {clk:Nat} (h:xQ B r l es.toList) (hc:clk=es.size) (hb:es.toList.map (·.born)=List.range es.size):RO P B r C (.map l) (.map es clk)
  | mapd {d:MD} {es:Array MapEntry} {clk:Nat} (h:xQ B r d.ents es.toList) (hc:clk=es.size) (hb:es.toList.map (·.born)=List.range es.size):RO P B r C (.mapd d) (.map es clk)
  | loop {L:List T} {ps:List Nat} {a b:Code} {rec:Loop} {ready:Bool} {pend:Option Code} (hL:zP B r L rec.tmps.toList) (hp:rec.params.toList=ps) (ha:rec.assign=a) (hb:rec.body=b)
      (hna:noR a=true) (hnb:noR b=true) (hs:LSt ready pend rec):RO P B r C (.loop L ps a b ready pend) (.loop rec)
theorem RO.mono{P:Program}{B B':Bm}{r r':Rd}{C:Nat}{t:TO}{o:Obj}(e:BLe B B')(j:Le r r')(h:RO P B r C t o):RO P B' r' C t o:=by
 cases h with
 | row h=>exact .row (h.mono e j)
 | gro J D G h=>exact .gro J D G (h.mono e j)
 | map h q f=>exact .map (h.mono e j) q f
 | mapd h q f=>exact .mapd (h.mono e j) q f
 | loop I hp ha f z A D=>exact .loop (I.mono e j) hp ha f z A D
structure Wd(P:Program)(E:Nat→Prop)(w0:World)(X:Hid)(F:List Nat)(H:List TO)(B:Bm)(w:World)(Y:Hid)(Mo:List (Nat×Obj)):Prop where
 st:St E w0 X w Y (Mo++xM F)
 ob:∀(i:Nat)(o:TO),H[i]?=some o→vO o=true→∃b C ob,B i=some (b,C)∧(b,ob)∈Mo∧RO P B (rd w Y) C o ob
 fz:∀(i:Nat)(cs:List T),H[i]?=some (.fz cs)→∃b C,B i=some (b,C)∧Cls B (rd w Y) b 0 cs
 nn:∀i,H.length≤i→B i=none
 inj:∀(i j:Nat)(oi oj:TO)(p q:Nat×Nat),H[i]?=some oi→vO oi=true→H[j]?=some oj→vO oj=true→B i=some p→B j=some q→p.1=q.1→i=j
 bN:B.N=w0.heap.size
 iv:∀w',Upd E w0 w'→Iv P w'
section
variable {P:Program}{E:Nat→Prop}{w0:World}{X:Hid}{F:List Nat}{H:List TO}{B:Bm}{w w':World}{Y Y':Hid}{Mo:List (Nat×Obj)}
theorem St.perm{M e:List (Nat×Obj)}(hp:M.Perm e)(h:St E w0 X w Y M):St E w0 X w Y e:=
 ⟨h.upd,h.lt,h.hid,fun q f=>h.own q (hp.mem_iff.2 f),(hp.map (·.1)).nodup_iff.1 h.nd,h.ltX⟩
theorem Wd.step{q:List Nat}(h:Wd P E w0 X F H B w Y Mo)(D:St E w0 X w' Y' (Mo++xM q))(e:Le (rd w Y) (rd w' Y')):Wd P E w0 X q H B w' Y' Mo:=
 ⟨D,fun i o ho I=>by
  obtain⟨b,C,ob,f,j,A⟩:=h.ob i o ho I;exact⟨b,C,ob,f,j,A.mono (BLe.refl B) e⟩,fun i z G=>by
  obtain⟨b,C,f,j⟩:=h.fz i z G;exact⟨b,C,f,j.mono (BLe.refl B) e⟩,h.nn,h.inj,h.bN,h.iv⟩
theorem Wd.call(h:Wd P E w0 X F H B w Y Mo)(k:Upd E0 w w'):Wd P E w0 X F H B w' Y Mo:=h.step (h.st.call k) (k.le Y)
theorem Wd.heap(h:Wd P E w0 X F H B w Y Mo){b:Nat}{ob:Obj}(hm:(b,ob)∈Mo):w.heap[b]?=some ob:=(h.st.own _ (k9 _ hm)).1
theorem Wd.ivw(h:Wd P E w0 X F H B w Y Mo):Iv P w:=h.iv w h.st.upd
theorem Wd.bNle(h:Wd P E w0 X F H B w Y Mo):B.N≤w.heap.size:=by rw[h.bN];exact h.st.upd.size
theorem Wd.new{F':List Nat}(h:Wd P E w0 X F H B w Y Mo){g C:Nat}{o:TO}{ob:Obj}(S:St E w0 X w' Y' (((g,ob)::Mo)++xM F'))(L:Le (rd w Y) (rd w' Y'))(Q:vO o=true)(hR:RO P B (rd w' Y') C o ob):
  Wd P E w0 X F' (H++[o]) (rG B H.length (g,C)) w' Y' ((g,ob)::Mo)∧BLe B (rG B H.length (g,C)):=by
 have D:BLe B (rG B H.length (g,C)):=BLe.set (h.nn _ (zq _));have hg:∀p∈Mo,p.1≠g:=fun p hp e=>by
  have:=S.nd;simp only[x8,jl,xw,wv,dk,not_and]at this;exact this.1 p (k9 _ hp) e
 have z:∀(i:Nat)(x:TO),(H++[o])[i]?=some x→(H[i]?=some x∧i≠H.length)∨(i=H.length∧x=o):=fun i x f=>by
  rcases vj i H.length with hlt | rfl | hlt
  ·rw[qh hlt]at f;exact .inl ⟨f,Nat.ne_of_lt hlt⟩
  ·simp at f;exact .inr ⟨rfl,f.symm⟩
  ·rw[qb (by simp;omega)]at f;cases f
 refine⟨⟨S,fun i x f R=>?_,fun i Z f=>?_,fun i O=>?_,fun i j oi oj p q O T hj U hp G e=>?_,h.bN,h.iv⟩,D⟩
 ·rcases z i x f with⟨f,_⟩ | ⟨rfl,rfl⟩
  ·obtain⟨b,N,M,A,I,h3⟩:=h.ob i x f R;exact⟨b,N,M,D _ _ A,z6 _ I,h3.mono D L⟩
  ·exact⟨g,C,ob,qN _ _ _,qS,hR.mono D (Le.refl _)⟩
 ·rcases z i _ f with⟨f,_⟩ | ⟨rfl,e⟩
  ·obtain⟨b,N,A,I⟩:=h.fz i Z f;exact⟨b,N,D _ _ A,I.mono D L⟩
  ·subst e;cases Q
 ·rw[qo,yg]at O;rw[jY _ _ (by omega)]
  exact h.nn i (by omega)
 ·have own:∀(i:Nat)(x:TO)(p:Nat×Nat),H[i]?=some x→vO x=true→B i=some p→p.1≠g:=fun i x p f Q hp=>by
   obtain⟨b,N,M,A,I,_⟩:=h.ob i x f Q;rw[hp]at A;cases A;exact hg _ I
  rcases z i _ O with⟨J,V⟩ | ⟨rfl,rfl⟩<;>rcases z j _ hj with⟨K,W⟩ | ⟨rfl,rfl⟩
  ·rw[jY _ _ V]at hp;rw[jY _ _ W]at G;exact h.inj i j oi oj p q J T K U hp G e
  ·rw[jY _ _ V]at hp;rw[qN]at G;cases G;exact absurd e (own i _ p J T hp)
  ·rw[jY _ _ W]at G;rw[qN]at hp;cases hp;exact absurd e.symm (own j _ q K U G)
  ·rfl
theorem Wd.alloc(h:Wd P E w0 X F H B w Y Mo){C:Nat}{o:TO}{ob:Obj}(f:vO o=true)(e:RO P B (rd w Y) C o ob):
  Wd P E w0 X F (H++[o]) (rG B H.length (w.heap.size,C)) (w.alloc ob) (zAy w.heap.size Y) ((w.heap.size,ob)::Mo)∧BLe B (rG B H.length (w.heap.size,C)):=
 h.new (h.st.alloc ob) (Le.hide_new ob) f (e.mono (BLe.refl B) (Le.hide_new ob))
theorem zUl{α:Type}{l:List α}{k:Nat}{p q x:α}(A:l[k]?=some q)(hp:p∈l)(z:p≠q):p∈l.set k x:=by
 obtain⟨j,f⟩:=jr hp;have:k≠j:=fun e=>by subst e;rw[A]at f;cases f;exact z rfl
 exact qk (i:=j) (by rw[jy this];exact f)
theorem Wd.set(h:Wd P E w0 X F H B w Y Mo){i k b C:Nat}{o o':TO}{ob A:Obj}(K:H[i]?=some o)(N:vO o=true)(S:B i=some (b,C))(T:Mo[k]?=some (b,ob))(hS:St E w0 X w' Y (Mo.set k (b,A)++xM F))(G:Le (rd w Y) (rd w' Y))
  (O:∀J,o'≠.fz J) (hR:vO o'=true→RO P B (rd w' Y) C o' A):Wd P E w0 X F (H.set i o') B w' Y (Mo.set k (b,A)):=by
 have hlt:i<H.length:=(zh.1 K).1;have f:∀(j:Nat)(x:TO),(H.set i o')[j]?=some x→(j≠i∧H[j]?=some x)∨(j=i∧x=o'):=fun j x z=>by
  by_cases e:i=j
  ·subst e;rw[kh hlt]at z;cases z;exact .inr ⟨rfl,rfl⟩
  ·rw[jy e]at z;exact .inl ⟨fun W=>e W.symm,z⟩
 refine⟨hS,fun j x z D=>?_,fun j J z=>?_,fun j hj=>h.nn j (by simpa using hj),fun j1 j2 o1 o2 p q h1 U h2 V hp Q e=>?_,h.bN,h.iv⟩
 ·rcases f j x z with⟨I,z⟩ | ⟨rfl,rfl⟩
  ·obtain⟨M,L,R,g1,g2,Z⟩:=h.ob j x z D;refine⟨M,L,R,g1,zUl T g2 (fun e=>I ?_),Z.mono (BLe.refl B) G⟩;cases e;exact h.inj j i x o _ _ z D K N g1 S rfl
  ·exact⟨b,C,A,S,qk (i:=k) (by rw[kh (zh.1 T).1]),hR D⟩
 ·rcases f j _ z with⟨I,z⟩ | ⟨rfl,e⟩
  ·obtain⟨M,L,g1,g2⟩:=h.fz j J z;exact⟨M,L,g1,g2.mono (BLe.refl B) G⟩
  ·exact absurd e.symm (O J)
 ·rcases f j1 _ h1 with⟨n1,g1⟩ | ⟨rfl,rfl⟩<;>rcases f j2 _ h2 with⟨n2,g2⟩ | ⟨rfl,rfl⟩
  ·exact h.inj _ _ _ _ _ _ g1 U g2 V hp Q e
  ·exact h.inj _ _ _ _ _ _ g1 U K N hp Q e
  ·exact h.inj _ _ _ _ _ _ K N g2 V hp Q e
  ·rfl
theorem Wd.gone(h:Wd P E w0 X F H B w Y Mo)(i:Nat):Wd P E w0 X F (H.set i .gone) B w Y Mo:=by
 have f:∀(j:Nat)(x:TO),(H.set i .gone)[j]?=some x→x≠.gone→H[j]?=some x:=fun j x z C=>by
  by_cases e:i=j
  ·subst e;rw[wk]at z;split at z
   ·split at z
    ·cases z;exact absurd rfl C
    ·cases z
   ·exact z
  ·rwa[jy e]at z
 have D:∀{x:TO},vO x=true→x≠.gone:=fun h e=>by subst e;cases h
 exact⟨h.st,fun j x z A=>h.ob j x (f j x z (D A)) A,fun j J z=>h.fz j J (f j _ z (by simp)),fun j M=>h.nn j (by simpa using M),
  fun O Q R S p q K G L I hp N e=>h.inj O Q R S p q (f _ _ K (D G)) G (f _ _ L (D I)) I hp N e,h.bN,h.iv⟩
theorem Wd.rowCells(h:Wd P E w0 X F H B w Y Mo){i b C o n:Nat}{K us:List T}(M:B i=some (b,C))(q:mW (nth .gone H i)=some K)(ht:jR n (jJ K o)=some us):∃A,A.length=n∧zP B (rd w Y) us A∧jC w ⟨b,o,none⟩ A:=by
 rw[qW]at q;cases I:H[i]? with
 | none=>rw[zp,I]at q;simp[mW]at q
 | some x=>
  rw[zp,I]at q;have f:∀(c:Array Value)(e:TypeId)(z:Nat×Nat),w.heap[b]?=some (.cells c e z)→zP B (rd w Y) K (c.toList.take K.length)→∃A,A.length=n∧zP B (rd w Y) us A∧jC w ⟨b,o,none⟩ A:=fun c e z U D=>by
   obtain⟨S,R⟩:=zP.take (D.drop o) ht;refine⟨_,R,S,fun j v J=>?_⟩;rw[jT,kx w b _ c e z U];have N:j<n:=by rw[←R];exact(zh.1 J).1
   rw[qi,qn N,jm,qi]at J;split at J
   ·simpa using J
   ·cases J
  cases x with
  | row G e=>
   simp only[jt,mW,za]at q;subst q;obtain⟨Q,O,ob,g1,g2,L⟩:=h.ob i _ I rfl;rw[M]at g1;cases g1;cases L with
   | @row _ _ c D=>exact f c e _ (h.heap g2) (by rw[D.length,jz];exact D)
  | gro G e=>
   simp only[jt,mW,za]at q;subst q;obtain⟨Q,O,ob,g1,g2,L⟩:=h.ob i _ I rfl;rw[M]at g1;cases g1;cases L with
   | @gro _ _ c V _ _ _ D=>exact f c e _ (h.heap g2) D
  | fz G=>
   simp only[jt,mW,za]at q;subst q;obtain⟨Q,O,g1,g2⟩:=h.fz i _ I;rw[M]at g1;cases g1;have:=(g2.drop o).cells ht;simpa using this
  | _=>simp[mW]at q
theorem Wd.from(h:Wd P E w0 X F H B w Y Mo){t:T}{v:Value}{n:Nat}{D us:List T}(G:Rep B (rd w Y) t v)(f:aF H t=some D)(ht:jR n D=some us):∃b o e,v= .pointer (some ⟨b,o,none⟩)∧e.length=n∧zP B (rd w Y) us e∧jC w ⟨b,o,none⟩ e:=by
 cases t<;>simp only[aF]at f<;>try cases f
 ·obtain⟨b,o,rfl,K⟩:=G.fpI;obtain⟨e,j,q,z⟩:=K.cells ht;exact⟨b,o,e,rfl,j,q,z⟩
 ·rename_i i o;cases A:mW (nth .gone H i)with
  | none=>simp[A]at f
  | some I=>
   simp only[A,za]at f;subst f;cases G with
   | @op _ _ b C J=>
    obtain⟨e,j,q,z⟩:=h.rowCells J A ht;exact⟨b,o,e,rfl,j,q,z⟩
theorem Wd.slice(h:Wd P E w0 X F H B w Y Mo){t:T}{v:Value}{n s:Nat}{us:List T}(K:Rep B (rd w Y) t v)(D:jH t=some n)(f:qJ H s t=some us):∃ad c z,v= .slice ad n c∧z.length=n*s∧zP B (rd w Y) us z∧(n*s≠0→∃a,ad=some a)∧∀a,ad=some a→jC w a z:=by
 have N:∀{us:List T},jR 0 ([]:List T)=some us→us=[]:=fun h=>by simpa[jR]using h.symm
 cases t with
 | u=>cases f
 | fp=>cases f
 | op=>cases f
 | ag=>cases f
 | tu=>cases f
 | fn=>cases f
 | fb=>cases f
 | om=>cases f
 | yl=>cases f
 | hv=>cases f
 | ls g A l=>
  simp only[jH,za]at D;subst D;simp only[qJ]at f;cases S:Nat.beq s A.size with
  | false=>simp[S]at f
  | true=>
   simp only[S,ze,za]at f;obtain rfl:=qp S;subst f;have ht:jR (l.length*A.size) (yA g A l)=some (yA g A l):=by rw[←cB g A l];exact dK _
   obtain⟨ad,c,rfl,_,L⟩:=K.lsS.slI;rcases L with⟨U,G⟩ | ⟨b,o,rfl,q⟩
   ·refine⟨ad,c,[],rfl,by simp[U],?_,by simp[U],fun a _ j v e=>by simp at e⟩
    rw[G];trivial
   ·obtain⟨z,G,I,J⟩:=q.cells ht;exact⟨_,c,z,rfl,G,I,fun _=>⟨_,rfl⟩,fun a e=>by cases e;exact J⟩
 | v x=>
  obtain⟨rfl,_⟩:=K.vI;unfold qJ at f;split at f;all_goals first
   | (rename_i e;cases e;done)
   | (cases f;done)
   | skip
  rename_i e;cases e;simp only[jH,za]at D;subst D;obtain rfl:=q8 f;exact⟨none,0,[],rfl,by simp,trivial,by simp,fun a e=>by cases e⟩
 | sl O k=>
  simp only[jH,za]at D;subst D;simp only[qJ]at f;obtain⟨ad,c,rfl,_,L⟩:=K.slI;rcases L with⟨rfl,rfl⟩ | ⟨b,o,rfl,q⟩
  ·rw[yp]at f;obtain rfl:=N f;exact⟨ad,c,[],rfl,by simp,trivial,by simp,fun a _ j v e=>by simp at e⟩
  ·obtain⟨z,G,I,J⟩:=q.cells f;exact⟨_,c,z,rfl,G,I,fun _=>⟨_,rfl⟩,fun a e=>by cases e;exact J⟩
 | sn O k=>
  simp only[jH,za]at D;subst D;simp only[qJ]at f;obtain⟨ad,c,rfl,_,L⟩:=(show Rep B (rd w Y) (.sl O k) v from K.dn).slI;rcases L with⟨rfl,rfl⟩ | ⟨b,o,rfl,q⟩
  ·rw[yp]at f;obtain rfl:=N f;exact⟨ad,c,[],rfl,by simp,trivial,by simp,fun a _ j v e=>by simp at e⟩
  ·obtain⟨z,G,I,J⟩:=q.cells f;exact⟨_,c,z,rfl,G,I,fun _=>⟨_,rfl⟩,fun a e=>by cases e;exact J⟩
 | st O k=>
  simp only[jH,za]at D;subst D;simp only[qJ]at f;obtain⟨ad,rfl,L⟩:=K.stI;rcases L with⟨rfl,rfl⟩ | ⟨b,o,rfl,q⟩
  ·rw[yp]at f;obtain rfl:=N f;exact⟨ad,0,[],rfl,by simp,trivial,by simp,fun a _ j v e=>by simp at e⟩
  ·obtain⟨z,G,I,J⟩:=q.cells f;exact⟨_,_,z,rfl,G,I,fun _=>⟨_,rfl⟩,fun a e=>by cases e;exact J⟩
 | os i o k c=>
  simp only[jH,za]at D;subst D;simp only[qJ]at f;cases M:mW (nth .gone H i)with
  | none=>simp[M]at f
  | some Q=>
   simp only[M]at f;cases K with
   | @os _ _ _ _ b C R=>
    obtain⟨z,G,I,J⟩:=h.rowCells R M f;exact⟨_,c,z,rfl,G,I,fun _=>⟨_,rfl⟩,fun a e=>by cases e;exact J⟩
 | og i o k=>
  simp only[jH,za]at D;subst D;simp only[qJ]at f;cases M:mW (nth .gone H i)with
  | none=>simp[M]at f
  | some Q=>
   simp only[M]at f;cases K with
   | @og _ _ _ c b C R _ _=>
    obtain⟨z,G,I,J⟩:=h.rowCells R M f;exact⟨_,c,z,rfl,G,I,fun _=>⟨_,rfl⟩,fun a e=>by cases e;exact J⟩
end
end Go.Ev

import Derived.Lib.AppendIntMem
import Derived.Lib.ItoaNum
import Derived.Test.YtdfmdiakjdggbaaGreatDoorBaseA
import Derived.Test.YtdfmdiakjdggbaaGreatDoorBaseB
set_option linter.unusedVariables false
set_option linter.unusedSimpArgs false
set_option linter.unnecessarySimpa false
namespace Go.Proofs.YtdfmdiakjdggbaaGreatDoor
open Go Go.Gv Go.RowKit IntKind
set_option maxRecDepth 100000
set_option maxHeartbeats 1000000
theorem zCy(w:World)(X:Hid)(hX:∀k o,X k o→k<w.heap.size)(n:Int)(Q: -9223372036854775808≤n)(R:n≤9223372036854775807):Calls Tryz.prog 97 #[.int .i64 n] w (Ret E0 w fun w' v=>gL X w' v n.natAbs):=by
 refine zen Tryz.func97 ?_;have j:St E0 w X w X []:=St.start hX;refine zz 12<|zt 4 (p:=(n)<0) (fun K=>?_) (fun K=>?_);refine zz 5<|zs 6 (v:= .int .u64 (IntKind.u64.wrap (n))) (v':= .int .u64 (n+18446744073709551616)) (zQ (by rw[lD];omega))<|zz 1<|zs 7 (v:= .int .u64 (IntKind.u64.wrap ((0:Int)-(n+18446744073709551616)))) (v':= .int .u64 ((n.natAbs:Nat):Int)) (zQ (by rw[lD];omega))<|zc j (qDv _ n.natAbs (by omega)) ?_
 rintro S U I W N ⟨q,e,L,rfl,D⟩;have A:=D _ j.lt;refine zz 5<|zr' (v:= .slice q e L) ?_;exact⟨I.upd,_,rfl,I.lastN A⟩;refine zz 7<|zs 10 (v:= .int .u64 (IntKind.u64.wrap (n))) (v':= .int .u64 ((n.natAbs:Nat):Int)) (zQ (by rw[lD];omega))<|zc j (qDv _ n.natAbs (by omega)) ?_
 rintro T V J Z O ⟨z,f,M,rfl,G⟩;have C:=G _ j.lt;refine zz 4<|zr' (v:= .slice z f M) ?_;exact⟨J.upd,_,rfl,J.lastN C⟩
theorem qFb(w:World)(X:Hid)(hX:∀k o,X k o→k<w.heap.size)(ad:Option Addr)(len cap x:Nat)(h:qC (rd w X) ad len cap x)(Z:Option Addr)(I P2 y:Nat)(h2:qC (rd w X) Z I P2 y)(A:Bool)(hx:x<4294967296^512)(hy:y<4294967296^512)(hd:0<y):Calls Tryz.prog 163 #[.agg #[.slice ad len cap,.slice Z I P2,.bool A]] w (Ret E0 w fun w' v=>zAc (old w) w' v (mkRat (sgn A x) y)):=by
 refine zen Tryz.func163 ?_;have C0:St E0 w X w X []:=St.start hX;refine zz 2<|zn pn (.cells #[.slice ad len cap,.slice Z I P2,.bool A] 132 (0,0)) C0 fun b3 w3 Y3 C3 y3 N3=>zn pn (.cells #[.bool false,.slice none 0 0,.slice none 0 0] 28 (0,0)) C3 fun b5 w5 Y5 C5 y5 N5=>zz 7<|zo 1 C5<|zz 4<|zb 10 (b:=((len:Int)==0)) (fun J6=>?_) (fun J6=>?_);have F7:(len:Int)=0:=by simpa using J6
 have N:x=0:=h.len0.1 (by omega)
 refine zz 4<|zx 0 #[.bool false,.slice none 0 0,.slice none 0 0] C5 fun w8 C8 y8=>zz 4<|zrS [.cell 2 28] (v:= .agg #[.bool false,.slice none 0 0,.slice none 0 0]) (Res.cM C8 0 Res.nil) ?_;exact⟨C8.upd,_,rfl,by rw[N];exact zRs y⟩
 have F9:(len:Int)≠0:=by simpa using J6
 have N:x≠0:=fun e=>absurd (h.len0.2 e) (by omega)
 have hgp:0<Nat.gcd x y:=Nat.gcd_pos_of_pos_right _ hd;have hgb:Nat.gcd x y<4294967296^512:=Nat.lt_of_le_of_lt (Nat.gcd_le_right _ hd) hy;have hb1:x / Nat.gcd x y<4294967296^512:=Nat.lt_of_le_of_lt (Nat.div_le_self _ _) hx;have hb2:y / Nat.gcd x y<4294967296^512:=Nat.lt_of_le_of_lt (Nat.div_le_self _ _) hy;refine zz 8<|zo 1 C5<|zz 2<|zo 1 C5<|zc C5 (qAo _ _ _ _ x ((h.mono (Le2 y3 y5)).mono Le.x0) _ _ _ y ((h2.mono (Le2 y3 y5)).mono Le.x0) (by first | assumption | omega) (by first | assumption | omega)) ?_
 rintro v11 w11 C11 y11 N11 ⟨u11,rfl,⟨ad11,len11,P11,rfl,hn11⟩⟩;have R:=hn11 _ C5.lt;refine zz 10<|zc C11 (zDu _ _ C11.lt _ _ _ (Nat.gcd x y) R) ?_;rintro v13 w13 V y13 N13 rfl;refine zz 3<|zb 24 (b:=!(decide (Nat.gcd x y=1))) (fun J14=>?_) (fun J14=>?_);have F15:¬(Nat.gcd x y=1):=by simpa using J14
 refine zz 5<|zo 1 V<|zz 1 ?_;have J1_:=(Le3 y3 y5 y11).trans y13;refine zc V (zOd _ _ _ _ x ((h.mono J1_).mono Le.x0) _ _ _ (Nat.gcd x y) ((R.mono y13).mono Le.x0) (by first | assumption | omega) (by first | assumption | omega) (by assumption)) ?_
 rintro v17 w17 C17 y17 N17 ⟨u17,v217,rfl,⟨ad17,U,P17,rfl,hn17⟩,⟨ae17,le17,ce17,rfl,hm17⟩⟩;have hN17:=hn17 _ V.lt;refine zz 6<|zx 1 #[.slice ad17 U P17,.slice Z I P2,.bool A] C17 fun w18 C18 y18=>zz 5<|zo 1 C18<|zz 1 ?_;have J2_:=(J1_.trans y17).trans y18;refine zc C18 (zOd _ _ _ _ y ((h2.mono J2_).mono Le.x0) _ _ _ (Nat.gcd x y) ((R.mono (Le3 y13 y17 y18)).mono Le.x0) (by first | assumption | omega) (by first | assumption | omega) (by assumption)) ?_
 rintro v20 w20 C20 y20 N20 ⟨u20,v220,rfl,⟨ad20,len20,P20,rfl,hn20⟩,⟨ae20,le20,ce20,rfl,hm20⟩⟩;have hN20:=hn20 _ C18.lt;refine zz 6<|zx 1 #[.slice ad17 U P17,.slice ad20 len20 P20,.bool A] C20 fun w21 C21 y21=>zz 3<|zdr C21<|gz [0]<|gw 1 1<|gz [2,3]<|gw 4 1<|gp (al 7 5 pn (.cells #[.bool false,.slice none 0 0,.slice none 0 0] 28 (0,0))) ?_;have J3_:=(Le2 y18 y20).trans y21;refine gC 5 (fun w22 Y22 _ J y22=>(zFl _ _ _ _ (x / (Nat.gcd x y)) ((hN17.mono (J3_.trans y22)).mono Le.x0) (by first | assumption | omega))) ?_ (hPd:=kP.nil.k)
 rintro v23 w22 Y23 w23 J y23 ⟨q,f,L,rfl,S⟩;have hN23:=S _ J.lt;refine gz [6]<|gs1 (fun b24=>?_) kP.nil.k;refine gX 8 0 #[.bool A,.slice q f L,.slice none 0 0] fun w25 Y25 y25=>?_;refine fJ (fun w26 Y26 C26 y26=>?_);refine zz 6<|zo 2 C26 ?_;have J4_:=(Le3 y21 y23 y25).trans y26;refine zc C26 (zDu _ _ C26.lt _ _ _ (y / (Nat.gcd x y)) (hN20.mono J4_)) ?_;rintro v28 w28 C y28 N28 rfl;refine zz 3<|zb 58 (b:=!(decide (y / (Nat.gcd x y)=1))) (fun J29=>?_) (fun J29=>?_);have F30:¬(y / (Nat.gcd x y)=1):=by simpa using J29
 refine zz 4<|zo 2 C ?_;have J5_:=J4_.trans y28;refine zc C (zFl _ _ _ _ (y / (Nat.gcd x y)) ((hN20.mono J5_).mono Le.x0) (by first | assumption | omega)) ?_
 rintro v32 w32 C32 y32 N32 ⟨O,zHa,P32,rfl,hn32⟩;have hN32:=hn32 _ C.lt;refine zz 1<|zx 0 #[.bool A,.slice q f L,.slice O zHa P32] C32 fun w33 C33 y33=>zz 4<|zo 0 C33<|zx 1 #[.bool A,.slice q f L,.slice O zHa P32] C33 fun w34 C34 y34=>zz 3<|zrS [.cell 2 28] (v:= .agg #[.bool A,.slice q f L,.slice O zHa P32]) (Res.cM C34 1 Res.nil) ?_;have J6_:=(Le5 y25 y26 y28 y32 y33).trans y34;refine⟨C34.upd,_,rfl,bH N hd (by exact(((S (old _) (fun _ _ h=>h)).mono (Le.own J.lt J.upd.size J6_)).mono Le.orr)) ?_⟩
 rw[mF,if_neg F30];exact(((hn32 (old _) (fun _ _ h=>h)).mono (Le.own C.lt C.upd.size (Le2 y33 y34))).mono Le.orr);have F35:y / (Nat.gcd x y)=1:=by simpa using J29
 refine zz 5<|zo 0 C<|zx 1 #[.bool A,.slice q f L,.slice none 0 0] C fun w36 C36 y36=>zz 3<|zrS [.cell 2 28] (v:= .agg #[.bool A,.slice q f L,.slice none 0 0]) (Res.cM C36 1 Res.nil) ?_;have J7_:=(Le3 y25 y26 y28).trans y36;refine⟨C36.upd,_,rfl,bH N hd (by exact(((S (old _) (fun _ _ h=>h)).mono (Le.own J.lt J.upd.size J7_)).mono Le.orr)) ?_⟩
 rw[mF,if_pos F35];exact(qC.nil none (by omega))
 have W:Nat.gcd x y=1:=by simpa using J14
 refine zz 4<|zdr V<|gz [0]<|gw 1 1<|gz [2,3]<|gw 4 1<|gp (al 7 5 pn (.cells #[.bool false,.slice none 0 0,.slice none 0 0] 28 (0,0))) ?_;have J8_:=(Le3 y3 y5 y11).trans y13;refine gC 5 (fun w38 Y38 _ K y38=>(zFl _ _ _ _ x ((h.mono (J8_.trans y38)).mono Le.x0) (by first | assumption | omega))) ?_ (hPd:=kP.nil.k)
 rintro v39 w38 Y39 w39 K y39 ⟨z,j,M,rfl,T⟩;have hN39:=T _ K.lt;refine gz [6]<|gs1 (fun b40=>?_) kP.nil.k;refine gX 8 0 #[.bool A,.slice z j M,.slice none 0 0] fun w41 Y41 y41=>?_;refine fJ (fun w42 Y42 C42 y42=>?_);refine zz 6<|zo 2 C42 ?_;have J9_:=((J8_.trans y39).trans y41).trans y42;refine zc C42 (zDu _ _ C42.lt _ _ _ y (h2.mono J9_)) ?_;rintro v44 w44 D y44 N44 rfl;refine zz 3<|zb 58 (b:=!(decide (y=1))) (fun J45=>?_) (fun J45=>?_);have F46:¬(y=1):=by simpa using J45
 refine zz 4<|zo 2 D ?_;have J10_:=J9_.trans y44;refine zc D (zFl _ _ _ _ y ((h2.mono J10_).mono Le.x0) (by first | assumption | omega)) ?_
 rintro v48 w48 C48 y48 N48 ⟨Q,G,P48,rfl,hn48⟩;have hN48:=hn48 _ D.lt;refine zz 1<|zx 0 #[.bool A,.slice z j M,.slice Q G P48] C48 fun w49 C49 y49=>zz 4<|zo 0 C49<|zx 1 #[.bool A,.slice z j M,.slice Q G P48] C49 fun w50 C50 y50=>zz 3<|zrS [.cell 2 28] (v:= .agg #[.bool A,.slice z j M,.slice Q G P48]) (Res.cM C50 1 Res.nil) ?_;have J11_:=(Le5 y41 y42 y44 y48 y49).trans y50;refine⟨C50.upd,_,rfl,bH N hd (by rw[W,Nat.div_one];exact(((T (old _) (fun _ _ h=>h)).mono (Le.own K.lt K.upd.size J11_)).mono Le.orr)) ?_⟩
 rw[W,Nat.div_one];rw[mF,if_neg F46];exact(((hn48 (old _) (fun _ _ h=>h)).mono (Le.own D.lt D.upd.size (Le2 y49 y50))).mono Le.orr);have F51:y=1:=by simpa using J45
 refine zz 5<|zo 0 D<|zx 1 #[.bool A,.slice z j M,.slice none 0 0] D fun w52 C52 y52=>zz 3<|zrS [.cell 2 28] (v:= .agg #[.bool A,.slice z j M,.slice none 0 0]) (Res.cM C52 1 Res.nil) ?_;have J12_:=(Le3 y41 y42 y44).trans y52;refine⟨C52.upd,_,rfl,bH N hd (by rw[W,Nat.div_one];exact(((T (old _) (fun _ _ h=>h)).mono (Le.own K.lt K.upd.size J12_)).mono Le.orr)) ?_⟩
 rw[W,Nat.div_one];rw[mF,if_pos F51];exact(qC.nil none (by omega))
section
variable (w:World)(X:Hid)(hX:∀k o,X k o→k<w.heap.size)
set_option maxHeartbeats 1000000
include hX in
theorem zZj(A:Bool)(ad:Option Addr)(len cap x:Nat)(h:qC (rd w X) ad len cap x)(j:Option Addr)(f G y:Nat)(Q:qC (rd w X) j f G y):Calls Tryz.prog 82 #[.agg #[.bool A,.slice ad len cap,.slice j f G]] w (Ret E0 w fun w' v=>zSb X w' v A x (if y=0 then 1 else y)):=by
 refine zen Tryz.func82 ?_;have C0:St E0 w X w X []:=St.start hX;refine zz 2<|zn pn (.cells #[.bool A,.slice ad len cap,.slice j f G] 28 (0,0)) C0 fun b3 w3 Y3 C3 V N3=>zn pn (.cells #[.slice none 0 0,.slice none 0 0,.bool false] 132 (0,0)) C3 fun b5 w5 Y5 K W N5=>zz 5<|zo 1 K<|zz 1<|zo 1 K<|zz 2<|zo 1 K ?_;refine zz 1<|zn pn (.cells #[.slice none 0 0,.slice none 0 0,.bool false] 132 (0,0)) K fun b7 w7 Y7 C7 Z N7=>zx 0 #[.slice ad len cap,.slice j f G,.bool A] C7 fun w8 L y8=>zz 7<|zo 0 L<|zz 4<|zb 16 (b:=((f:Int)==0)) (fun O=>?_) (fun O=>?_);have F10:(f:Int)=0:=by simpa using O
 have D:y=0:=Q.len0.1 (by omega)
 refine zz 2<|zn (fun b=> .slice (some ⟨b,0,none⟩) 1 1) (.cells #[.int .u32 1] 214 (0,0)) L fun C w12 Y12 M R N12=>zz 2<|zx 1 #[.slice ad len cap,.slice (some ⟨C,0,none⟩) 1 1,.bool A] M fun w13 I S=>zz 4<|zo 1 I<|zx 2 #[.slice ad len cap,.slice (some ⟨C,0,none⟩) 1 1,.bool A] I fun w14 q T=>zz 3<|zrS [.cell 2 132] (v:= .agg #[.slice ad len cap,.slice (some ⟨C,0,none⟩) 1 1,.bool A]) (Res.cM q 2 Res.nil) ?_;have N:=(Le6 V W Z y8 R S).trans T;exact⟨q.upd,_,rfl,_,_,_,_,_,_,rfl,(h.mono N).mono q.le,by rw[if_pos D];exact qMx (q.rowX 0 rfl (q.own_ge 0 rfl) (qMy rfl))⟩
 have F15:(f:Int)≠0:=by simpa using O
 have D:y≠0:=fun e=>absurd (Q.len0.2 e) (by omega)
 refine zz 5<|zo 0 L<|zx 1 #[.slice ad len cap,.slice j f G,.bool A] L fun w16 z U=>zz 3<|zrS [.cell 2 132] (v:= .agg #[.slice ad len cap,.slice j f G,.bool A]) (Res.cM z 1 Res.nil) ?_;have J:=(Le4 V W Z y8).trans U;exact⟨z.upd,_,rfl,_,_,_,_,_,_,rfl,(h.mono J).mono z.le,by rw[if_neg D];exact(Q.mono J).mono z.le⟩
include hX in
theorem qIb(T:Option Addr)(R M I:Nat)(h₁:qC (rd w X) T R M I)(V:Option Addr)(le₁ Z q:Nat)(k₁:qC (rd w X) V le₁ Z q)(f:Bool)(O:I<jQ)(C:q<jQ)(U:Option Addr)(S N J:Nat)(h₂:qC (rd w X) U S N J)(W:Option Addr)(le₂ ce₂ z:Nat)(k₂:qC (rd w X) W le₂ ce₂ z)(A:Bool)(Q:J<jQ)(D:z<jQ):Calls Tryz.prog 83 #[.agg #[.slice T R M,.slice V le₁ Z,.bool f],.agg #[.slice U S N,.slice W le₂ ce₂,.bool A]] w (Ret E0 w fun w' v=>∃s m,zSb X w' v s m (q*z)∧m<4294967296^512∧sgn s m=sgn f I*z+sgn A J*q):=by
 refine zen Tryz.func83 ?_;have C0:St E0 w X w X []:=St.start hX;have hb:∀{x:Nat},x<jQ→x<4294967296^512:=fun h=>Nat.lt_of_lt_of_le h qEn;have hbn1:=hb O;have hbn2:=hb Q;have hbd1:=hb C;have hbd2:=hb D;obtain⟨hp1,hp12⟩:=kD O D Q C;have hp2:=(kD Q C O D).1;have hpd:=(kD C D C D).1;have hpn:=(kD O Q C D).1;refine zz 2<|zn pn (.cells #[.slice T R M,.slice V le₁ Z,.bool f] 132 (0,0)) C0 fun b3 w3 Y3 C3 y3 N3=>zn pn (.cells #[.slice U S N,.slice W le₂ ce₂,.bool A] 132 (0,0)) C3 fun b5 w5 Y5 C5 y5 N5=>zn pn (.cells #[.slice none 0 0,.slice none 0 0,.bool false] 132 (0,0)) C5 fun b7 w7 Y7 C7 y7 N7=>zz 3<|zdr C7<|gz [0,1]<|gw 2 2<|gz [3,4] ?_;refine gw 5 1<|gz [7,8]<|gw 9 1<|gz [10,11]<|gw 12 2 ?_;have J1_:=(Le2 y3 y5).trans y7;refine gC 6 (fun w8 Y8 _ C8 y8=>(zBv _ _ C8.lt _ _ _ I (h₁.mono (J1_.trans y8)) _ _ _ z (k₂.mono (J1_.trans y8)) (by first | assumption | omega) (by first | assumption | omega) (by first | assumption | omega))) ?_
 rintro v9 w8 Y9 w9 C8 y9 ⟨ad9,len9,P9,rfl,hN9⟩;have J2_:=J1_.trans y9;refine gC 13 (fun w10 Y10 _ C10 y10=>(zBv _ _ C10.lt _ _ _ J (h₂.mono (J2_.trans y10)) _ _ _ q (k₁.mono (J2_.trans y10)) (by first | assumption | omega) (by first | assumption | omega) (by first | assumption | omega))) ?_
 rintro v11 w10 Y11 w11 C10 y11 ⟨ad11,len11,P11,rfl,hN11⟩;refine gz [14,15] ?_;refine fJ (fun w12 Y12 C12 y12=>?_);refine zz 2<|zdr C12<|gz [0,1]<|gw 2 2<|gz [3,4]<|gw 5 1<|gz [8]<|gw 9 2<|gp (al 11 7 pn (.cells #[.slice none 0 0,.slice none 0 0,.bool false] 132 (0,0))) ?_;have J3_:=(J2_.trans y11).trans y12;refine gC 6 (fun w13 Y13 _ C13 y13=>(zBv _ _ C13.lt _ _ _ q (k₁.mono (J3_.trans y13)) _ _ _ z (k₂.mono (J3_.trans y13)) (by first | assumption | omega) (by first | assumption | omega) (by first | assumption | omega))) ?_ (hPd:=kP.nil.k)
 rintro v14 w13 Y14 w14 C13 y14 ⟨j,e,K,rfl,hN14⟩;refine gz [7,10]<|gs1 (fun b15=>?_) kP.nil.k;refine gX 12 0 #[.slice none 0 0,.slice j e K,.bool f] fun w16 Y16 y16=>?_;refine fJ (fun w17 Y17 C17 y17=>?_);refine zz 5<|zo 3 C17<|zz 1<|zo 2 C17<|zz 3<|zb 38 (b:=(f==A)) (fun J18=>?_) (fun J18=>?_);have F19:f=A:=by simpa using J18
 refine zz 5 ?_;have J4_:=(Le4 y11 y12 y14 y16).trans y17;have J5_:=(Le3 y12 y14 y16).trans y17;refine zc C17 (qZd _ _ C17.lt _ _ _ (I*z) (hN9.mono J4_) _ _ _ (J*q) (hN11.mono J5_) (by first | assumption | omega) (by first | assumption | omega) (by first | assumption | omega)) ?_
 rintro v21 w21 C21 y21 N21 ⟨ad21,len21,P21,rfl,hN21⟩;refine zz 2<|zx 0 #[.slice ad21 len21 P21,.slice j e K,.bool f] C21 fun w22 C22 y22=>zz 4<|zo 0 C22<|zx 1 #[.slice ad21 len21 P21,.slice j e K,.bool f] C22 fun w23 C23 y23=>zz 4<|zrS [.cell 4 132] (v:= .agg #[.slice ad21 len21 P21,.slice j e K,.bool f]) (Res.cM C23 1 Res.nil) ?_;have J6_:=(Le4 y16 y17 y21 y22).trans y23;have hx9:=(hN21.mono (Le2 y22 y23));exact⟨C23.upd,_,rfl,_,_,⟨_,_,_,_,_,_,rfl,hx9.mono C23.le,(hN14.mono J6_).mono C23.le⟩,hp12,qIc F19 _ _ _ _⟩;have F24:f≠A:=by simpa using J18
 refine zz 13 ?_;have J7_:=(Le4 y11 y12 y14 y16).trans y17;have J8_:=(Le3 y12 y14 y16).trans y17;refine zc C17 (qMr _ _ C17.lt _ _ _ (I*z) (hN9.mono J7_) _ _ _ (J*q) (hN11.mono J8_) (by first | assumption | omega) (by first | assumption | omega)) ?_
 rintro v26 w26 C26 y26 N26 ⟨u26,rfl,⟨L,G,P26,rfl,hN26⟩⟩;refine zz 5<|zx 0 #[.slice L G P26,.slice j e K,.bool f] C26 fun w27 C27 y27=>zz 8<|zt 53 (p:=(I*z)<(J*q)) (fun F28=>?_) (fun F28=>?_);refine zz 3<|zo 2 C27<|zz 1<|zx 0 #[.slice L G P26,.slice j e K,.bool A] C27 fun w29 C29 y29=>zz 4<|zo 0 C29<|zx 1 #[.slice L G P26,.slice j e K,.bool A] C29 fun w30 C30 y30=>zz 3<|zrS [.cell 4 132] (v:= .agg #[.slice L G P26,.slice j e K,.bool A]) (Res.cM C30 1 Res.nil) ?_;have J9_:=(Le5 y16 y17 y26 y27 y29).trans y30;have hx9:=(hN26.mono (Le3 y27 y29 y30));rw[if_pos F28]at hx9;exact⟨C30.upd,_,rfl,_,_,⟨_,_,_,_,_,_,rfl,hx9.mono C30.le,(hN14.mono J9_).mono C30.le⟩,Nat.lt_of_le_of_lt (Nat.sub_le _ _) hp2,jAi F24 F28⟩;refine zz 5<|zo 0 C27<|zx 1 #[.slice L G P26,.slice j e K,.bool f] C27 fun w31 C31 y31=>zz 3<|zrS [.cell 4 132] (v:= .agg #[.slice L G P26,.slice j e K,.bool f]) (Res.cM C31 1 Res.nil) ?_;have J10_:=(Le4 y16 y17 y26 y27).trans y31;have hx9:=(hN26.mono (Le2 y27 y31));rw[if_neg F28]at hx9;exact⟨C31.upd,_,rfl,_,_,⟨_,_,_,_,_,_,rfl,hx9.mono C31.le,(hN14.mono J10_).mono C31.le⟩,Nat.lt_of_le_of_lt (Nat.sub_le _ _) hp1,jAh F24 (by omega)⟩
include hX in
theorem zKz(J:Option Addr)(C j U:Nat)(h₁:qC (rd w X) J C j U)(L:Option Addr)(Q N S:Nat)(k₁:qC (rd w X) L Q N S)(G:Bool)(z:U<jQ)(e:S<jQ)(K:Option Addr)(D q V:Nat)(h₂:qC (rd w X) K D q V)(M:Option Addr)(R O T:Nat)(k₂:qC (rd w X) M R O T)(I:Bool)(A:V<jQ)(f:T<jQ):Calls Tryz.prog 99 #[.agg #[.slice J C j,.slice L Q N,.bool G],.agg #[.slice K D q,.slice M R O,.bool I]] w (Ret E0 w fun w' v=>∃s m,zSb X w' v s m (S*T)∧m<4294967296^512∧sgn s m=sgn G U*sgn I V):=by
 refine zen Tryz.func99 ?_;have C0:St E0 w X w X []:=St.start hX;have hb:∀{x:Nat},x<jQ→x<4294967296^512:=fun h=>Nat.lt_of_lt_of_le h qEn;have hbn1:=hb z;have hbn2:=hb A;have hbd1:=hb e;have hbd2:=hb f;obtain⟨hp1,hp12⟩:=kD z f A e;have hp2:=(kD A e z f).1;have hpd:=(kD e f e f).1;have hpn:=(kD z A e f).1;refine zz 2<|zn pn (.cells #[.slice J C j,.slice L Q N,.bool G] 132 (0,0)) C0 fun b3 w3 Y3 C3 y3 N3=>zn pn (.cells #[.slice K D q,.slice M R O,.bool I] 132 (0,0)) C3 fun b5 w5 Y5 C5 y5 N5=>zn pn (.cells #[.slice none 0 0,.slice none 0 0,.bool false] 132 (0,0)) C5 fun b7 w7 Y7 C7 y7 N7=>zz 3<|zdr C7<|gz [0,1]<|gw 2 2<|gz [3,4] ?_;refine gw 5 1<|gz [7,8]<|gw 9 2<|gz [10,11]<|gw 12 1<|gz [15]<|gw 16 2<|gz [17]<|gw 18 1 ?_;refine gz [19] ?_;have J1_:=(Le2 y3 y5).trans y7;refine gC 6 (fun w8 Y8 _ C8 y8=>(zBv _ _ C8.lt _ _ _ U (h₁.mono (J1_.trans y8)) _ _ _ V (h₂.mono (J1_.trans y8)) (by first | assumption | omega) (by first | assumption | omega) (by first | assumption | omega))) ?_
 rintro v9 w8 Y9 w9 C8 y9 ⟨ad9,len9,P9,rfl,hN9⟩;have J2_:=J1_.trans y9;refine gC 13 (fun w10 Y10 _ C10 y10=>(zBv _ _ C10.lt _ _ _ S (k₁.mono (J2_.trans y10)) _ _ _ T (k₂.mono (J2_.trans y10)) (by first | assumption | omega) (by first | assumption | omega) (by first | assumption | omega))) ?_
 rintro v11 w10 Y11 w11 C10 y11 ⟨ad11,W,P11,rfl,hN11⟩;refine gz [14,20]<|gX 21 0 #[.slice ad9 len9 P9,.slice ad11 W P11,.bool (!(G==I))] fun w12 Y12 y12=>?_;refine fJ (fun w13 Y13 Z y13=>?_);refine zz 2<|zrS [.cell 4 132] (v:= .agg #[.slice ad9 len9 P9,.slice ad11 W P11,.bool (!(G==I))]) (Res.cM Z 0 Res.nil) ?_;exact⟨Z.upd,_,rfl,_,_,⟨_,_,_,_,_,_,rfl,(hN9.mono (Le3 y11 y12 y13)).mono Z.le,(hN11.mono (Le2 y12 y13)).mono Z.le⟩,hpn,qOj _ _ _ _⟩
end
set_option maxHeartbeats 1000000
theorem zVg{a:Raw}(h:128<a.ln.length∨128<a.ld.length):a.chk=4:=if_pos h
theorem gZ{a:Raw}(h:¬(128<a.ln.length∨128<a.ld.length))(e:jH a.ln≠0∨jH a.ld≠0∨val a.ld=1∨(val a.ln=0∧(a.neg=true∨0<val a.ld))):a.chk=2:=(if_neg h).trans (if_pos e)
theorem zVh{a:Raw}(h:¬(128<a.ln.length∨128<a.ld.length))(e:¬(jH a.ln≠0∨jH a.ld≠0∨val a.ld=1∨(val a.ln=0∧(a.neg=true∨0<val a.ld))))(f:0<val a.ld∧Nat.gcd (val a.ln) (val a.ld)≠1):a.chk=2:=(if_neg h).trans ((if_neg e).trans (if_pos f))
theorem zEf{a:Raw}(h:¬(128<a.ln.length∨128<a.ld.length))(e:¬(jH a.ln≠0∨jH a.ld≠0∨val a.ld=1∨(val a.ln=0∧(a.neg=true∨0<val a.ld))))(f:¬(0<val a.ld∧Nat.gcd (val a.ln) (val a.ld)≠1)):a.chk=0:=(if_neg h).trans ((if_neg e).trans (if_neg f))
theorem xA{l:List Nat}(e:zW l):l.length=0↔val l=0:=by
 constructor
 ·intro h;rw[List.eq_nil_of_length_eq_zero h];rfl
 ·intro h;rw[aG e h];rfl
theorem wM(w:World)(X:Hid)(hX:∀k o,X k o→k<w.heap.size)(a:Raw)(ad:Option Addr)(len cap:Nat)(h:zN (rd w X) ad len cap a.ln)(N:Option Addr)(G P2:Nat)(V:zN (rd w X) N G P2 a.ld):Calls Tryz.prog 75 #[.agg #[.bool a.neg,.slice ad len cap,.slice N G P2]] w (Ret E0 w fun _ v=>v= .int .i64 a.chk):=by
 obtain rfl:=h.hlen;obtain rfl:=V.hlen;have hcap:=h.hcap;have hbig:=h.hbig;have hcap2:=V.hcap;have hbig2:=V.hbig;refine zen Tryz.func75 ?_;have C0:St E0 w X w X []:=St.start hX;refine zz 2<|zn pn (.cells #[.bool a.neg,.slice ad a.ln.length cap,.slice N a.ld.length P2] 28 (0,0)) C0 fun b3 w3 Y3 U y3 N3=>zz 8<|zo 0 U<|zz 3<|zt 10 (p:=(a.ln.length:Int)>128) (fun F4=>?_) (fun F4=>?_);refine zz 17<|zr' (v:= .int .i64 4) ?_;exact⟨U.upd,_,rfl,zQ (zVg (by omega)).symm⟩
 refine zz 1<|zo 0 U<|zz 6<|zt 5 (p:=(a.ld.length:Int)>128) (fun F5=>?_) (fun F5=>?_);refine zz 9<|zr' (v:= .int .i64 4) ?_;exact⟨U.upd,_,rfl,zQ (zVg (by omega)).symm⟩
 have f:¬(128<a.ln.length∨128<a.ld.length):=by omega
 refine zz 5<|zo 0 U<|zc U (zLs _ X0 (zZ _) _ _ _ a.ln ((h.mono y3).mono Le.x0)) ?_;rintro v7 w7 C7 y7 N7 rfl;refine zz 2<|zb 21 (b:=((jH a.ln)!=0)) (fun J8=>?_) (fun J8=>?_);have F9:(jH a.ln)≠0:=by simpa using J8
 refine zz 20<|zr' (v:= .int .i64 2) ?_;exact⟨C7.upd,_,rfl,zQ (gZ f (.inl F9)).symm⟩;have C:(jH a.ln)=0:=by simpa using J8
 refine zz 1<|zo 0 C7<|zc C7 (zLs _ X0 (zZ _) _ _ _ a.ld ((V.mono (Le2 y3 y7)).mono Le.x0)) ?_;rintro v12 w12 A T N12 rfl;refine zz 5<|zb 16 (b:=((jH a.ld)!=0)) (fun I=>?_) (fun I=>?_);have F14:(jH a.ld)≠0:=by simpa using I
 refine zz 12<|zr' (v:= .int .i64 2) ?_;exact⟨A.upd,_,rfl,zQ (gZ f (.inr (.inl F14))).symm⟩;have D:(jH a.ld)=0:=by simpa using I
 have S:=(pU (by simpa using C:jH a.ln=0)).2
 have R:=(pU (by simpa using D:jH a.ld=0)).2
 have hzn:=xA S;have hzd:=xA R;have hB:(4294967296:Nat)^128≤4294967296^512:=qEn;have hbn:val a.ln<4294967296^512:=Nat.lt_of_lt_of_le ((zV h.hlt S 128).1 (by omega)) hB
 have hbd:val a.ld<4294967296^512:=Nat.lt_of_lt_of_le ((zV V.hlt R 128).1 (by omega)) hB
 have hNn:=h.natR S;have Q:=V.natR R;refine zz 4<|zo 0 A<|zc A (zDu _ _ A.lt _ _ _ (val a.ld) (Q.mono (Le3 y3 y7 T))) ?_;rintro v17 w17 j y17 N17 rfl;refine zz 3<|zt 16 (p:=(val a.ld)=1) (fun z=>?_) (fun z=>?_);refine zz 12<|zr' (v:= .int .i64 2) ?_;exact⟨j.upd,_,rfl,zQ (gZ f (.inr (.inr (.inl (by simpa using z))))).symm⟩
 refine zz 3<|zo 0 j<|zz 3<|zb 34 (b:=((a.ln.length:Int)==0)) (fun J=>?_) (fun J=>?_);have F20:(a.ln.length:Int)=0:=by simpa using J
 refine zz 1<|zo 0 j<|zz 1<|zb 37 (b:=a.neg) (fun K=>?_) (fun K=>?_);have F22:a.neg=true:=by simpa using K
 refine zz 18<|zr' (v:= .int .i64 2) ?_;exact⟨j.upd,_,rfl,zQ (gZ f (.inr (.inr (.inr ⟨by omega,.inl F22⟩)))).symm⟩
 have F23:a.neg=false:=by simpa using K
 refine zz 1<|zo 0 j<|zz 7<|zt 16 (p:=(a.ld.length:Int)>0) (fun F24=>?_) (fun F24=>?_);refine zz 9<|zr' (v:= .int .i64 2) ?_;exact⟨j.upd,_,rfl,zQ (gZ f (.inr (.inr (.inr ⟨by omega,.inr (by omega)⟩)))).symm⟩
 have q:¬(jH a.ln≠0∨jH a.ld≠0∨val a.ld=1∨(val a.ln=0∧(a.neg=true∨0<val a.ld))):=by intro hh;rcases hh with e | e | e | ⟨e,O⟩;exact(fun x=>absurd (by simpa using C:jH a.ln=0) x) e;exact(fun x=>absurd (by simpa using D:jH a.ld=0) x) e;exact(fun x=>absurd x (by simpa using z)) e;rcases O with O | O;rw[F23]at O;cases O;omega
 have hz:¬0<val a.ld:=by omega
 refine zz 8<|zo 0 j<|zz 4<|zt 47 (p:=(a.ld.length:Int)>0) (fun F25=>?_) (fun F25=>?_);refine zz 4<|zo 0 j<|zz 1<|zo 0 j ?_;have J1_:=(Le3 y3 y7 T).trans y17;refine zc j (qAo _ _ _ _ (val a.ln) ((hNn.mono J1_).mono Le.x0) _ _ _ (val a.ld) ((Q.mono J1_).mono Le.x0) (by first | assumption | omega) (by first | assumption | omega)) ?_
 rintro v27 w27 W y27 N27 ⟨u27,rfl,⟨ad27,len27,P27,rfl,hn27⟩⟩;have hN27:=hn27 _ j.lt;refine zz 10<|zc W (zDu _ _ W.lt _ _ _ (Nat.gcd (val a.ln) (val a.ld)) hN27) ?_;rintro v29 w29 Z y29 N29 rfl;refine zz 3<|zb 58 (b:=!(decide (Nat.gcd (val a.ln) (val a.ld)=1))) (fun L=>?_) (fun L=>?_);have F31:¬(Nat.gcd (val a.ln) (val a.ld)=1):=by simpa using L
 refine zz 8<|zr' (v:= .int .i64 2) ?_;exact⟨Z.upd,_,rfl,zQ (zVh f q ⟨by omega,by simpa using F31⟩).symm⟩
 have F32:Nat.gcd (val a.ln) (val a.ld)=1:=by simpa using L
 refine zz 9<|zr' (v:= .int .i64 0) ?_;exact⟨Z.upd,_,rfl,zQ (zEf f q (fun hh=>hh.2 (by simpa using F32))).symm⟩
 refine zz 9<|zr' (v:= .int .i64 0) ?_;exact⟨j.upd,_,rfl,zQ (zEf f q (fun hh=>by omega)).symm⟩
 have F33:(a.ln.length:Int)≠0:=by simpa using J
 refine zz 20<|zo 0 j<|zz 4<|zt 47 (p:=(a.ld.length:Int)>0) (fun F34=>?_) (fun F34=>?_);have q:¬(jH a.ln≠0∨jH a.ld≠0∨val a.ld=1∨(val a.ln=0∧(a.neg=true∨0<val a.ld))):=by intro hh;rcases hh with e | e | e | ⟨e,O⟩;exact(fun x=>absurd (by simpa using C:jH a.ln=0) x) e;exact(fun x=>absurd (by simpa using D:jH a.ld=0) x) e;exact(fun x=>absurd x (by simpa using z)) e;omega
 refine zz 4<|zo 0 j<|zz 1<|zo 0 j ?_;have J2_:=(Le3 y3 y7 T).trans y17;refine zc j (qAo _ _ _ _ (val a.ln) ((hNn.mono J2_).mono Le.x0) _ _ _ (val a.ld) ((Q.mono J2_).mono Le.x0) (by first | assumption | omega) (by first | assumption | omega)) ?_
 rintro v36 w36 C36 y36 N36 ⟨u36,rfl,⟨ad36,len36,P36,rfl,hn36⟩⟩;have hN36:=hn36 _ j.lt;refine zz 10<|zc C36 (zDu _ _ C36.lt _ _ _ (Nat.gcd (val a.ln) (val a.ld)) hN36) ?_;rintro v38 w38 C38 y38 N38 rfl;refine zz 3<|zb 58 (b:=!(decide (Nat.gcd (val a.ln) (val a.ld)=1))) (fun M=>?_) (fun M=>?_);have F40:¬(Nat.gcd (val a.ln) (val a.ld)=1):=by simpa using M
 refine zz 8<|zr' (v:= .int .i64 2) ?_;exact⟨C38.upd,_,rfl,zQ (zVh f q ⟨by omega,by simpa using F40⟩).symm⟩
 have F41:Nat.gcd (val a.ln) (val a.ld)=1:=by simpa using M
 refine zz 9<|zr' (v:= .int .i64 0) ?_;exact⟨C38.upd,_,rfl,zQ (zEf f q (fun hh=>hh.2 (by simpa using F41))).symm⟩
 have q:¬(jH a.ln≠0∨jH a.ld≠0∨val a.ld=1∨(val a.ln=0∧(a.neg=true∨0<val a.ld))):=by intro hh;rcases hh with e | e | e | ⟨e,O⟩;exact(fun x=>absurd (by simpa using C:jH a.ln=0) x) e;exact(fun x=>absurd (by simpa using D:jH a.ld=0) x) e;exact(fun x=>absurd x (by simpa using z)) e;omega
 refine zz 9<|zr' (v:= .int .i64 0) ?_;exact⟨j.upd,_,rfl,zQ (zEf f q (fun hh=>by omega)).symm⟩
section
variable (w:World)(X:Hid)(hX:∀k o,X k o→k<w.heap.size)
set_option maxHeartbeats 1000000
include hX in
theorem jAf(O:Option Addr)(J C T:Nat)(h₁:qC (rd w X) O J C T)(Q:Option Addr)(S R L:Nat)(k₁:qC (rd w X) Q S R L)(V:Bool)(G:T<jQ)(e:L<jQ)(z:Option Addr)(q j U:Nat)(h₂:qC (rd w X) z q j U)(A:Option Addr)(K D M:Nat)(k₂:qC (rd w X) A K D M)(N:Bool)(I:U<jQ)(f:M<jQ):Calls Tryz.prog 98 #[.agg #[.slice O J C,.slice Q S R,.bool V],.agg #[.slice z q j,.slice A K D,.bool N]] w (Ret E0 w fun w' v=>∃s m,zSb X w' v s m (L*M)∧m<4294967296^512∧sgn s m=sgn V T*M+sgn (!N) U*L):=by
 refine zen Tryz.func98 ?_;have C0:St E0 w X w X []:=St.start hX;have hb:∀{x:Nat},x<jQ→x<4294967296^512:=fun h=>Nat.lt_of_lt_of_le h qEn;have hbn1:=hb G;have hbn2:=hb I;have hbd1:=hb e;have hbd2:=hb f;obtain⟨hp1,hp12⟩:=kD G f I e;have hp2:=(kD I e G f).1;have hpd:=(kD e f e f).1;have hpn:=(kD G I e f).1;refine zz 2<|zn pn (.cells #[.slice O J C,.slice Q S R,.bool V] 132 (0,0)) C0 fun b3 w3 Y3 C3 y3 N3=>zn pn (.cells #[.slice z q j,.slice A K D,.bool N] 132 (0,0)) C3 fun b5 w5 Y5 C5 y5 N5=>zn pn (.cells #[.slice none 0 0,.slice none 0 0,.bool false] 132 (0,0)) C5 fun b7 w7 Y7 C7 y7 N7=>zz 5<|zo 1 C7<|zz 2<|zx 1 #[.slice z q j,.slice A K D,.bool (!N)] C7 fun w8 C8 y8=>zz 4 ?_;refine zo 2 C8<|zo 1 C8 ?_;have W:=(Le3 y3 y5 y7).trans y8;refine zc C8 (qIb _ _ C8.lt _ _ _ T (h₁.mono W) _ _ _ L (k₁.mono W) V (by assumption) (by assumption) _ _ _ U (h₂.mono W) _ _ _ M (k₂.mono W) (!N) (by assumption) (by assumption)) ?_
 rintro v10 w10 C10 y10 N10 ⟨sg10,m10,⟨ad10,Z,P10,ae10,le10,ce10,rfl,hN10,hD10⟩,hm10,he10⟩;have J2_:=W.trans y10;refine zx 0 #[.slice ad10 Z P10,.slice ae10 le10 ce10,.bool sg10] C10 fun w11 C11 y11=>zz 3<|zrS [.cell 4 132] (v:= .agg #[.slice ad10 Z P10,.slice ae10 le10 ce10,.bool sg10]) (Res.cM C11 0 Res.nil) ?_;exact⟨C11.upd,_,rfl,_,_,⟨_,_,_,_,_,_,rfl,(hN10.mono y11).mono C11.le,(hD10.mono y11).mono C11.le⟩,hm10,he10⟩
def OpC(f:Nat)(op:Rat→Rat→Rat):Prop:=∀(w:World)(X:Hid)(hX:∀k o,X k o→k<w.heap.size)(D:Option Addr)(A e O:Nat)(h₁:qC (rd w X) D A e O)(I:Option Addr)(M K q:Nat)(k₁:qC (rd w X) I M K q)(R:Bool)(V:O<jQ)(T:q<jQ)(G:Option Addr)(C j Q:Nat)(h₂:qC (rd w X) G C j Q)(J:Option Addr)(N L z:Nat)(k₂:qC (rd w X) J N L z)(S:Bool)(W:Q<jQ)(U:z<jQ)(Z:0<q)(hp₂:0<z),Calls Tryz.prog f #[.agg #[.slice D A e,.slice I M K,.bool R],.agg #[.slice G C j,.slice J N L,.bool S]] w (Ret E0 w fun w' v=>∃s m d,zSb X w' v s m d∧m<4294967296^512∧d<4294967296^512∧0<d∧mkRat (sgn s m) d=op (mkRat (sgn R O) q) (mkRat (sgn S Q) z))
theorem zFm{a b:Nat}(h:a<jQ)(e:b<jQ):a*b<4294967296^512:=qTu h e
theorem jAj:OpC 83 (·+·):=fun w X hX M A q I h₁ O Z R D k₁ K T f N C z J h₂ Q le₂ S G k₂ L U j V W=>
 (qIb w X hX M A q I h₁ O Z R D k₁ K T f N C z J h₂ Q le₂ S G k₂ L U j).mono (by
  rintro e w' ⟨hu,v,rfl,s,m,hv,hm,he⟩;refine⟨hu,_,rfl,s,m,_,hv,hm,zFm f j,Nat.mul_pos V W,?_⟩;show _=mkRat (sgn K I) D+mkRat (sgn L J) G;rw[Rat.mkRat_add_mkRat _ _ (by omega) (by omega),he])
theorem zUf:OpC 99 (· * ·):=fun w X hX M A q I h₁ O Z R D k₁ K T f N C z J h₂ Q le₂ S G k₂ L U j V W=>
 (zKz w X hX M A q I h₁ O Z R D k₁ K T f N C z J h₂ Q le₂ S G k₂ L U j).mono (by
  rintro e w' ⟨hu,v,rfl,s,m,hv,hm,he⟩;refine⟨hu,_,rfl,s,m,_,hv,hm,zFm f j,Nat.mul_pos V W,?_⟩;show _=mkRat (sgn K I) D*mkRat (sgn L J) G;rw[Rat.mkRat_mul_mkRat,he])
theorem jAg:OpC 98 (· - ·):=fun w X hX M A q I h₁ O Z R D k₁ K T f N C z J h₂ Q le₂ S G k₂ L U j V W=>
 (jAf w X hX M A q I h₁ O Z R D k₁ K T f N C z J h₂ Q le₂ S G k₂ L U j).mono (by
  rintro e w' ⟨hu,v,rfl,s,m,hv,hm,he⟩;refine⟨hu,_,rfl,s,m,_,hv,hm,zFm f j,Nat.mul_pos V W,?_⟩;show _=mkRat (sgn K I) D-mkRat (sgn L J) G;rw[Rat.sub_eq_add_neg,Rat.neg_mkRat,Rat.mkRat_add_mkRat _ _ (by omega) (by omega),he,zNp])
include hX in
theorem zHc(ad:Option Addr)(len cap x:Nat)(h:qC (rd w X) ad len cap x)(f:Option Addr)(e j y:Nat)(A:qC (rd w X) f e j y)(q:Bool)(C:x<4294967296^512)(D:y<4294967296^512)(hd:0<y)(z:Rat)(G:mkRat (sgn q x) y=z):Calls Tryz.prog 163 #[.agg #[.slice ad len cap,.slice f e j,.bool q]] w (Ret E0 w fun w' v=>zAc (old w) w' v z):=by
 subst G;exact qFb w X hX ad len cap x h f e j y A q C D hd
theorem zDg(f:Nat)(op:Rat→Rat→Rat)(hcf:∀args w,(callFunc f args).run Tryz.prog w= .ok (.enter f args) w)(hop:OpC f op)(w:World)(X:Hid)(hX:∀k o,X k o→k<w.heap.size)(a:Raw)(D:Option Addr)(A e:Nat)(h₁:zN (rd w X) D A e a.ln)(I:Option Addr)(O K:Nat)(k₁:zN (rd w X) I O K a.ld)(b:Raw)(G:Option Addr)(C j:Nat)(h₂:zN (rd w X) G C j b.ln)(J:Option Addr)(Q L:Nat)(k₂:zN (rd w X) J Q L b.ld)(z:Rat)(hz:op a.rat b.rat=z):Calls Tryz.prog 84 #[.agg #[.bool a.neg,.slice D A e,.slice I O K],.agg #[.bool b.neg,.slice G C j,.slice J Q L],.func (.func f) #[] #[]] w (Ret E0 w fun w' v=>∃u,v= .tuple #[u,.int .i64 (opE a b z)]∧rT (old w) w' u (opR a b z)):=by
 refine zen Tryz.func84 ?_;have C0:St E0 w X w X []:=St.start hX;refine zz 2<|zn pn (.cells #[.bool a.neg,.slice D A e,.slice I O K] 28 (0,0)) C0 fun b3 w3 Y3 C3 y3 N3=>zn pn (.cells #[.bool b.neg,.slice G C j,.slice J Q L] 28 (0,0)) C3 fun b5 w5 Y5 C5 y5 N5=>zn pn (.cells #[.bool false,.slice none 0 0,.slice none 0 0] 28 (0,0)) C5 fun b7 w7 Y7 C7 y7 N7=>zz 5<|zdr C7<|gw 0 2<|gw 2 1 ?_;have J1_:=(Le2 y3 y5).trans y7;refine gC 1 (fun w8 Y8 _ C8 y8=>(wM _ _ C8.lt a _ _ _ (h₁.mono (J1_.trans y8)) _ _ _ (k₁.mono (J1_.trans y8)))) ?_;rintro v9 w8 Y9 w9 C8 y9 rfl;have J2_:=J1_.trans y9;refine gC 3 (fun w10 Y10 _ C10 y10=>(wM _ _ C10.lt b _ _ _ (h₂.mono (J2_.trans y10)) _ _ _ (k₂.mono (J2_.trans y10)))) ?_;rintro v11 w10 Y11 w11 C10 y11 rfl;refine gp1 (al 4 14 (fun b=> .slice (some ⟨b,0,none⟩) 2 2) (.cells #[.int .i64 a.chk,.int .i64 b.chk] 46 (0,0))) (fun b12=>?_);refine gC 5 (vs:=#[.slice (some ⟨b12,0,none⟩) 2 2]) (fun w13 Y13 _ C13 y13=>(qGk _ X0 (zZ _) _ _ _ _ [a.chk,b.chk] rfl (by simp) (C13.at0 0 rfl rfl))) ?_
 rintro v14 w13 Y14 w14 C13 y14 rfl;refine gz [6] ?_;refine fJ (fun w15 Y15 C15 y15=>?_);refine zz 7<|zb 17 (b:=((orL [a.chk,b.chk])!=0)) (fun J16=>?_) (fun J16=>?_);have F17:(orL [a.chk,b.chk])≠0:=by simpa using J16
 refine zz 5<|zx 1 #[.bool false,.slice none 0 0,.slice none 0 0] C15 fun w18 C18 y18=>zz 5<|zrS [.cell 6 28,.tmp 7] (v:= .tuple #[.agg #[.bool false,.slice none 0 0,.slice none 0 0],.int .i64 (orL [a.chk,b.chk])]) (Res.cM C18 1 (Res.tZ Res.nil)) ?_;obtain⟨M,N⟩:=zTv (z:=z) F17;exact⟨C18.upd,_,rfl,_,by rw[M],by rw[N];exact rW⟩
 have F19:(orL [a.chk,b.chk])=0:=by simpa using J16
 obtain⟨hca,hcb⟩:=fZ ((zJf _ _).symm.trans (by simpa using F19))
 obtain⟨hla,hma,cna,cda,_,_,_⟩:=Raw.chk_ok hca;have bna:val a.ln<jQ:=(zV h₁.hlt cna 128).1 hla;have bda:a.d<jQ:=by unfold Raw.d;split;exact Nat.one_lt_pow (by omega) (by omega);exact(zV k₁.hlt cda 128).1 hma
 have pda:=Raw.d_pos a;have hNna:=h₁.natR cna;have hNda:=k₁.natR cda;obtain⟨hlb,hmb,cnb,cdb,_,_,_⟩:=Raw.chk_ok hcb;have bnb:val b.ln<jQ:=(zV h₂.hlt cnb 128).1 hlb;have bdb:b.d<jQ:=by unfold Raw.d;split;exact Nat.one_lt_pow (by omega) (by omega);exact(zV k₂.hlt cdb 128).1 hmb
 have pdb:=Raw.d_pos b;have hNnb:=h₂.natR cnb;have hNdb:=k₂.natR cdb;refine zz 4 ?_;refine qRs [0,1,2,3] C15<|gz [0]<|gw 1 3<|gw 3 2<|gp (al 7 9 pn (.cells #[.bool false,.slice none 0 0,.slice none 0 0] 28 (0,0))) ?_;have J3_:=((J2_.trans y11).trans y14).trans y15;refine gC 2 (fun w20 Y20 _ C20 y20=>(zZj _ _ C20.lt a.neg _ _ _ (val a.ln) (hNna.mono (J3_.trans y20)) _ _ _ (val a.ld) (hNda.mono (J3_.trans y20)))) ?_ (hPd:=kP.nil.k);rintro v21 w20 Y21 w21 C20 y21 ⟨ad21,len21,P21,ae21,le21,ce21,rfl,hN21,hD21⟩;have J4_:=J3_.trans y21;refine gC 4 (fun w22 Y22 _ C22 y22=>(zZj _ _ C22.lt b.neg _ _ _ (val b.ln) (hNnb.mono (J4_.trans y22)) _ _ _ (val b.ld) (hNdb.mono (J4_.trans y22)))) ?_ (hPd:=kP.nil.k);rintro v23 w22 Y23 w23 C22 y23 ⟨ad23,len23,P23,ae23,le23,ce23,rfl,hN23,hD23⟩;refine gC 5 (hcall:=(fun w=>hcf _ w)) (fun w24 Y24 _ C24 y24=>(hop _ _ C24.lt _ _ _ (val a.ln) (hN21.mono (Le2 y23 y24)) _ _ _ a.d (hD21.mono (Le2 y23 y24)) a.neg (by assumption) (by assumption) _ _ _ (val b.ln) (hN23.mono y24) _ _ _ b.d (hD23.mono y24) b.neg (by assumption) (by assumption) (by assumption) (by assumption))) ?_ (hPd:=kP.nil.k)
 rintro v25 w24 Y25 w25 C24 y25 ⟨sg25,m25,d25,⟨ad25,len25,P25,ae25,le25,ce25,rfl,hN25,hD25⟩,hm25,hd25,hp25,he25⟩;refine gC 6 (fun w26 Y26 _ S y26=>(zHc _ _ S.lt _ _ _ m25 (hN25.mono y26) _ _ _ d25 (hD25.mono y26) sg25 hm25 hd25 hp25 z (he25.trans hz))) ?_ (hPd:=kP.nil.k);rintro v27 w26 Y27 w27 S y27 ⟨U,q,P27,V,R,W,rfl,hN27,Z⟩;refine gs1 (fun b28=>?_) kP.nil.k;refine gX 8 0 #[.bool (decide (z.num<0)),.slice U q P27,.slice V R W] fun w29 Y29 y29=>?_;refine fJ (fun w30 Y30 T y30=>?_);refine zz 5<|zo 0 T<|zz 3<|zt 31 (p:=(q:Int)>128) (fun F31=>?_) (fun F31=>?_);refine zz 11<|zx 2 #[.bool false,.slice none 0 0,.slice none 0 0] T fun w32 C32 y32=>zz 5<|zrS [.cell 6 28,.tmp 7] (v:= .tuple #[.agg #[.bool false,.slice none 0 0,.slice none 0 0],.int .i64 4]) (Res.cM C32 2 (Res.tZ Res.nil)) ?_;obtain⟨M,N⟩:=zFw (z:=z) F19 (fun hh=>absurd ((hN27.len_le 128).2 hh.1) (by omega))
 exact⟨C32.upd,_,rfl,_,by rw[M],by rw[N];exact rW⟩
 refine zz 1<|zo 0 T<|zz 5<|zt 36 (p:=(R:Int)>128) (fun F33=>?_) (fun F33=>?_);refine zz 4<|zx 2 #[.bool false,.slice none 0 0,.slice none 0 0] T fun w34 C34 y34=>zz 5<|zrS [.cell 6 28,.tmp 7] (v:= .tuple #[.agg #[.bool false,.slice none 0 0,.slice none 0 0],.int .i64 4]) (Res.cM C34 2 (Res.tZ Res.nil)) ?_;obtain⟨M,N⟩:=zFw (z:=z) F19 (fun hh=>absurd ((Z.len_le 128).2 hh.2) (by omega))
 exact⟨C34.upd,_,rfl,_,by rw[M],by rw[N];exact rW⟩
 refine zz 5<|zo 0 T<|zx 2 #[.bool (decide (z.num<0)),.slice U q P27,.slice V R W] T fun w35 C35 y35=>zz 4<|zrS [.cell 6 28,.tmp 7] (v:= .tuple #[.agg #[.bool (decide (z.num<0)),.slice U q P27,.slice V R W],.int .i64 0]) (Res.cM C35 2 (Res.tZ Res.nil)) ?_;obtain⟨M,N⟩:=zWt (z:=z) F19 ⟨(hN27.len_le 128).1 (by omega),(Z.len_le 128).1 (by omega)⟩
 exact⟨C35.upd,_,rfl,_,by rw[M],by rw[N];exact zAc.raw ⟨_,_,_,_,_,_,rfl,((hN27.mono (Le.own S.lt S.upd.size (Le3 y29 y30 y35))).mono Le.orr),((Z.mono (Le.own S.lt S.upd.size (Le3 y29 y30 y35))).mono Le.orr)⟩⟩
end
section
variable (w:World)(X:Hid)(hX:∀k o,X k o→k<w.heap.size)
set_option maxHeartbeats 1000000
include hX in
theorem qZj(a:Raw)(z:Option Addr)(j e:Nat)(S:zN (rd w X) z j e a.ln)(C:Option Addr)(J G:Nat)(k₁:zN (rd w X) C J G a.ld)(b:Raw)(A:Option Addr)(q f:Nat)(T:zN (rd w X) A q f b.ln)(D:Option Addr)(K I:Nat)(k₂:zN (rd w X) D K I b.ld):Calls Tryz.prog 34 #[.agg #[.bool a.neg,.slice z j e,.slice C J G],.agg #[.bool b.neg,.slice A q f,.slice D K I]] w (Ret E0 w fun w' v=>∃u,v= .tuple #[u,.int .i64 (opE a b (a.rat+b.rat))]∧rT (old w) w' u (opR a b (a.rat+b.rat))):=by
 refine zen Tryz.func34 ?_;have C0:St E0 w X w X []:=St.start hX;refine zz 2<|zn pn (.cells #[.bool a.neg,.slice z j e,.slice C J G] 28 (0,0)) C0 fun b3 w3 Y3 C3 W N3=>zn pn (.cells #[.bool b.neg,.slice A q f,.slice D K I] 28 (0,0)) C3 fun b5 w5 Y5 C5 Z N5=>zn pn (.cells #[.bool false,.slice none 0 0,.slice none 0 0] 28 (0,0)) C5 fun b7 w7 Y7 L y7 N7=>zz 5<|zo 2 L<|zo 1 L<|zc L (zDg 83 (·+·) (fun args w=>Tryz.call83 args w) jAj _ _ L.lt a _ _ _ (S.mono (Le3 W Z y7)) _ _ _ (k₁.mono (Le3 W Z y7)) b _ _ _ (T.mono (Le3 W Z y7)) _ _ _ (k₂.mono (Le3 W Z y7)) (a.rat+b.rat) rfl) ?_;rintro v9 w9 C9 y9 N9 ⟨u9,rfl,⟨O,M,P9,Q,U,R,rfl,hN9,hD9⟩⟩;refine zz 2<|zx 0 #[.bool ((opR a b (a.rat+b.rat)).neg),.slice O M P9,.slice Q U R] C9 fun w10 N V=>zz 4<|zrS [.cell 4 28,.tmp 5] (v:= .tuple #[.agg #[.bool ((opR a b (a.rat+b.rat)).neg),.slice O M P9,.slice Q U R],.int .i64 (opE a b (a.rat+b.rat))]) (Res.cM N 0 (Res.tZ Res.nil)) ?_;exact⟨N.upd,_,rfl,_,rfl,⟨_,_,_,_,_,_,rfl,((hN9.mono (Le.own L.lt L.upd.size V)).mono Le.orr),((hD9.mono (Le.own L.lt L.upd.size V)).mono Le.orr)⟩⟩
include hX in
theorem qZm(a:Raw)(z:Option Addr)(j e:Nat)(S:zN (rd w X) z j e a.ln)(C:Option Addr)(J G:Nat)(k₁:zN (rd w X) C J G a.ld)(b:Raw)(A:Option Addr)(q f:Nat)(T:zN (rd w X) A q f b.ln)(D:Option Addr)(K I:Nat)(k₂:zN (rd w X) D K I b.ld):Calls Tryz.prog 49 #[.agg #[.bool a.neg,.slice z j e,.slice C J G],.agg #[.bool b.neg,.slice A q f,.slice D K I]] w (Ret E0 w fun w' v=>∃u,v= .tuple #[u,.int .i64 (opE a b (a.rat*b.rat))]∧rT (old w) w' u (opR a b (a.rat*b.rat))):=by
 refine zen Tryz.func49 ?_;have C0:St E0 w X w X []:=St.start hX;refine zz 2<|zn pn (.cells #[.bool a.neg,.slice z j e,.slice C J G] 28 (0,0)) C0 fun b3 w3 Y3 C3 W N3=>zn pn (.cells #[.bool b.neg,.slice A q f,.slice D K I] 28 (0,0)) C3 fun b5 w5 Y5 C5 Z N5=>zn pn (.cells #[.bool false,.slice none 0 0,.slice none 0 0] 28 (0,0)) C5 fun b7 w7 Y7 L y7 N7=>zz 5<|zo 2 L<|zo 1 L<|zc L (zDg 99 (· * ·) (fun args w=>Tryz.call99 args w) zUf _ _ L.lt a _ _ _ (S.mono (Le3 W Z y7)) _ _ _ (k₁.mono (Le3 W Z y7)) b _ _ _ (T.mono (Le3 W Z y7)) _ _ _ (k₂.mono (Le3 W Z y7)) (a.rat*b.rat) rfl) ?_;rintro v9 w9 C9 y9 N9 ⟨u9,rfl,⟨O,M,P9,Q,U,R,rfl,hN9,hD9⟩⟩;refine zz 2<|zx 0 #[.bool ((opR a b (a.rat*b.rat)).neg),.slice O M P9,.slice Q U R] C9 fun w10 N V=>zz 4<|zrS [.cell 4 28,.tmp 5] (v:= .tuple #[.agg #[.bool ((opR a b (a.rat*b.rat)).neg),.slice O M P9,.slice Q U R],.int .i64 (opE a b (a.rat*b.rat))]) (Res.cM N 0 (Res.tZ Res.nil)) ?_;exact⟨N.upd,_,rfl,_,rfl,⟨_,_,_,_,_,_,rfl,((hN9.mono (Le.own L.lt L.upd.size V)).mono Le.orr),((hD9.mono (Le.own L.lt L.upd.size V)).mono Le.orr)⟩⟩
include hX in
theorem qZo(a:Raw)(z:Option Addr)(j e:Nat)(S:zN (rd w X) z j e a.ln)(C:Option Addr)(J G:Nat)(k₁:zN (rd w X) C J G a.ld)(b:Raw)(A:Option Addr)(q f:Nat)(T:zN (rd w X) A q f b.ln)(D:Option Addr)(K I:Nat)(k₂:zN (rd w X) D K I b.ld):Calls Tryz.prog 48 #[.agg #[.bool a.neg,.slice z j e,.slice C J G],.agg #[.bool b.neg,.slice A q f,.slice D K I]] w (Ret E0 w fun w' v=>∃u,v= .tuple #[u,.int .i64 (opE a b (a.rat-b.rat))]∧rT (old w) w' u (opR a b (a.rat-b.rat))):=by
 refine zen Tryz.func48 ?_;have C0:St E0 w X w X []:=St.start hX;refine zz 2<|zn pn (.cells #[.bool a.neg,.slice z j e,.slice C J G] 28 (0,0)) C0 fun b3 w3 Y3 C3 W N3=>zn pn (.cells #[.bool b.neg,.slice A q f,.slice D K I] 28 (0,0)) C3 fun b5 w5 Y5 C5 Z N5=>zn pn (.cells #[.bool false,.slice none 0 0,.slice none 0 0] 28 (0,0)) C5 fun b7 w7 Y7 L y7 N7=>zz 5<|zo 2 L<|zo 1 L<|zc L (zDg 98 (· - ·) (fun args w=>Tryz.call98 args w) jAg _ _ L.lt a _ _ _ (S.mono (Le3 W Z y7)) _ _ _ (k₁.mono (Le3 W Z y7)) b _ _ _ (T.mono (Le3 W Z y7)) _ _ _ (k₂.mono (Le3 W Z y7)) (a.rat-b.rat) rfl) ?_;rintro v9 w9 C9 y9 N9 ⟨u9,rfl,⟨O,M,P9,Q,U,R,rfl,hN9,hD9⟩⟩;refine zz 2<|zx 0 #[.bool ((opR a b (a.rat-b.rat)).neg),.slice O M P9,.slice Q U R] C9 fun w10 N V=>zz 4<|zrS [.cell 4 28,.tmp 5] (v:= .tuple #[.agg #[.bool ((opR a b (a.rat-b.rat)).neg),.slice O M P9,.slice Q U R],.int .i64 (opE a b (a.rat-b.rat))]) (Res.cM N 0 (Res.tZ Res.nil)) ?_;exact⟨N.upd,_,rfl,_,rfl,⟨_,_,_,_,_,_,rfl,((hN9.mono (Le.own L.lt L.upd.size V)).mono Le.orr),((hD9.mono (Le.own L.lt L.upd.size V)).mono Le.orr)⟩⟩
include hX in
theorem qOa(n:Int)(L: -9223372036854775808≤n)(M:n≤9223372036854775807):Calls Tryz.prog 47 #[.int .i64 n] w (Ret E0 w fun w' v=>rT X w' v (.of (n:Rat))):=by
 refine zen Tryz.func47 ?_;have C:St E0 w X w X []:=St.start hX;refine zz 2<|zn pn (.cells #[.bool false,.slice none 0 0,.slice none 0 0] 28 (0,0)) C fun b3 O K z S I=>zz 7<|zc z (zCy _ _ z.lt n (by omega) (by omega)) ?_
 rintro N Q D T J ⟨f,e,A,rfl,q⟩;refine zz 1<|zx 0 #[.bool (decide ((n)<0)),.slice f e A,.slice none 0 0] D fun R j G=>zz 3<|zrS [.cell 2 28] (v:= .agg #[.bool (decide ((n)<0)),.slice f e A,.slice none 0 0]) (Res.cM j 0 Res.nil) ?_;exact⟨j.upd,_,rfl,(qLs ((q.mono G).mono j.le)).raw⟩
include hX in
theorem qZk(a:Raw)(C:Option Addr)(z f:Nat)(R:zN (rd w X) C z f a.ln)(G:Option Addr)(L J:Nat)(k₁:zN (rd w X) G L J a.ld)(b:Raw)(D:Option Addr)(A j:Nat)(S:zN (rd w X) D A j b.ln)(I:Option Addr)(M K:Nat)(k₂:zN (rd w X) I M K b.ld):Calls Tryz.prog 33 #[.agg #[.bool a.neg,.slice C z f,.slice G L J],.agg #[.bool b.neg,.slice D A j,.slice I M K]] w (Ret E0 w fun w' v=>v= .tuple #[.int .i64 (yE a b),.int .i64 (xB a b)]):=by
 refine zen Tryz.func33 ?_;have C0:St E0 w X w X []:=St.start hX;refine zz 2<|zn pn (.cells #[.bool a.neg,.slice C z f,.slice G L J] 28 (0,0)) C0 fun b3 w3 Y3 C3 y3 N3=>zn pn (.cells #[.bool b.neg,.slice D A j,.slice I M K] 28 (0,0)) C3 fun b5 w5 Y5 C5 y5 N5=>zz 6<|zdr C5<|gw 0 1<|gw 2 0<|gC 1 (fun w6 Y6 _ C6 y6=>(wM _ _ C6.lt a _ _ _ (R.mono (Le3 y3 y5 y6)) _ _ _ (k₁.mono (Le3 y3 y5 y6)))) ?_;rintro v7 w6 Y7 w7 C6 y7 rfl;have J1_:=(Le2 y3 y5).trans y7;refine gC 3 (fun w8 Y8 _ C8 y8=>(wM _ _ C8.lt b _ _ _ (S.mono (J1_.trans y8)) _ _ _ (k₂.mono (J1_.trans y8)))) ?_;rintro v9 w8 Y9 w9 C8 y9 rfl;refine gp1 (al 4 14 (fun b=> .slice (some ⟨b,0,none⟩) 2 2) (.cells #[.int .i64 a.chk,.int .i64 b.chk] 46 (0,0))) (fun b10=>?_);refine gC 5 (vs:=#[.slice (some ⟨b10,0,none⟩) 2 2]) (fun w11 Y11 _ C11 y11=>(qGk _ X0 (zZ _) _ _ _ _ [a.chk,b.chk] rfl (by simp) (C11.at0 0 rfl rfl))) ?_
 rintro v12 w11 Y12 w12 C11 y12 rfl;refine gz [6] ?_;refine fJ (fun w13 Y13 C13 y13=>?_);refine zz 7<|zb 17 (b:=((orL [a.chk,b.chk])!=0)) (fun J14=>?_) (fun J14=>?_);have F15:(orL [a.chk,b.chk])≠0:=by simpa using J14
 refine zz 10<|zr' (v:= .tuple #[.int .i64 0,.int .i64 (orL [a.chk,b.chk])]) ?_;exact⟨C13.upd,_,rfl,by rw[yE,xB,←zJf,if_neg F15]⟩
 have V:(orL [a.chk,b.chk])=0:=by simpa using J14
 obtain⟨hca,hcb⟩:=fZ ((zJf _ _).symm.trans (by simpa using V))
 obtain⟨hla,hma,cna,cda,_,_,_⟩:=Raw.chk_ok hca;have bna:val a.ln<jQ:=(zV R.hlt cna 128).1 hla;have bda:a.d<jQ:=by unfold Raw.d;split;exact Nat.one_lt_pow (by omega) (by omega);exact(zV k₁.hlt cda 128).1 hma
 have Z:=Raw.d_pos a;have hNna:=R.natR cna;have hNda:=k₁.natR cda;obtain⟨hlb,hmb,cnb,cdb,_,_,_⟩:=Raw.chk_ok hcb;have bnb:val b.ln<jQ:=(zV S.hlt cnb 128).1 hlb;have bdb:b.d<jQ:=by unfold Raw.d;split;exact Nat.one_lt_pow (by omega) (by omega);exact(zV k₂.hlt cdb 128).1 hmb
 have pdb:=Raw.d_pos b;have hNnb:=S.natR cnb;have hNdb:=k₂.natR cdb;refine zz 4<|zdrs [0,1,2] C13<|gw 0 2<|gw 2 1<|gp (al 5 8 pn (.cells #[.slice none 0 0,.slice none 0 0,.bool false] 132 (0,0)))<|gp (al 4 7 pn (.cells #[.slice none 0 0,.slice none 0 0,.bool false] 132 (0,0))) ?_;have J2_:=((J1_.trans y9).trans y12).trans y13;refine gC 1 (fun w17 Y17 _ C17 y17=>(zZj _ _ C17.lt a.neg _ _ _ (val a.ln) (hNna.mono (J2_.trans y17)) _ _ _ (val a.ld) (hNda.mono (J2_.trans y17)))) ?_ (hPd:=kP.nil.k.k);rintro v18 w17 Y18 w18 C17 y18 ⟨ad18,len18,P18,ae18,le18,ce18,rfl,hN18,hD18⟩;have J3_:=J2_.trans y18;refine gC 3 (fun w19 Y19 _ C19 y19=>(zZj _ _ C19.lt b.neg _ _ _ (val b.ln) (hNnb.mono (J3_.trans y19)) _ _ _ (val b.ld) (hNdb.mono (J3_.trans y19)))) ?_ (hPd:=kP.nil.k.k);rintro v20 w19 Y20 w20 C19 y20 ⟨ad20,T,P20,ae20,le20,ce20,rfl,hN20,hD20⟩;refine ge (fun e21=>?_) kP.nil.k.k;refine gXs 6 0 [2,3,4] #[.slice ad18 len18 P18,.slice ae18 le18 ce18,.bool a.neg] fun w22 Y22 y22=>gXs 7 1 [2,3,4] #[.slice ad20 T P20,.slice ae20 le20 ce20,.bool b.neg] fun w23 Y23 y23=>?_;refine fJ (fun w24 Y24 C24 y24=>?_);refine zz 4<|zo 1 C24<|zz 2<|zx 1 #[.slice ad20 T P20,.slice ae20 le20 ce20,.bool (!b.neg)] C24 fun w25 U y25=>zz 5<|zo 0 U<|zo 1 U ?_;have J4_:=(Le4 y20 y22 y23 y24).trans y25;have J5_:=(Le3 y22 y23 y24).trans y25;refine zc U (qIb _ _ U.lt _ _ _ (val a.ln) (hN18.mono J4_) _ _ _ a.d (hD18.mono J4_) a.neg (by assumption) (by assumption) _ _ _ (val b.ln) (hN20.mono J5_) _ _ _ b.d (hD20.mono J5_) (!b.neg) (by assumption) (by assumption)) ?_
 rintro v27 w27 C27 y27 N27 ⟨N,m27,⟨ad27,q,P27,ae27,le27,ce27,rfl,hN27,hD27⟩,hm27,he27⟩;have J6_:=J4_.trans y27;have J7_:=J5_.trans y27;refine zn pn (.cells #[.slice none 0 0,.slice none 0 0,.bool false] 132 (0,0)) C27 fun b29 w29 Y29 C29 y29 N29=>zx 0 #[.slice ad27 q P27,.slice ae27 le27 ce27,.bool N] C29 fun w30 Q y30=>zz 7<|zo 0 Q<|zz 5<|zb 30 (b:=((q:Int)==0)) (fun J31=>?_) (fun J31=>?_);have F32:(q:Int)=0:=by simpa using J31
 have O:_=a.rat-b.rat:=zVk (he27.trans (by rw[zNp])) Z pdb
 have W:=hN27.len0.1 (by omega)
 refine zz 10<|zr' (v:= .tuple #[.int .i64 0,.int .i64 0]) ?_;exact⟨Q.upd,_,rfl,by have h0:=V;rw[yE,xB,←zJf,if_pos (by simpa using h0),show orL [a.chk,b.chk]=0 by simpa using h0,zAk O W]⟩
 have F33:(q:Int)≠0:=by simpa using J31
 have O:_=a.rat-b.rat:=zVk (he27.trans (by rw[zNp])) Z pdb
 have W:m27≠0:=fun e=>absurd (hN27.len0.2 e) (by omega)
 refine zz 4<|zo 0 Q<|zz 3<|zb 36 (b:=N) (fun J34=>?_) (fun J34=>?_);have F35:N=true:=by simpa using J34
 rw[F35]at O;refine zz 10<|zr' (v:= .tuple #[.int .i64 (-1),.int .i64 0]) ?_;exact⟨Q.upd,_,rfl,by have h0:=V;rw[yE,xB,←zJf,if_pos (by simpa using h0),show orL [a.chk,b.chk]=0 by simpa using h0,qJz O W (qCw Z pdb)]⟩
 have F36:N=false:=by simpa using J34
 rw[F36]at O;refine zz 11<|zr' (v:= .tuple #[.int .i64 1,.int .i64 0]) ?_;exact⟨Q.upd,_,rfl,by have h0:=V;rw[yE,xB,←zJf,if_pos (by simpa using h0),show orL [a.chk,b.chk]=0 by simpa using h0,qKa O W (qCw Z pdb)]⟩
end
set_option maxHeartbeats 1000000
theorem jCl(w:World)(X:Hid)(hX:∀k o,X k o→k<w.heap.size)(p q:Int)(hp: -9223372036854775808≤p)(hp2:p≤9223372036854775807)(hq: -9223372036854775808≤q)(hq2:q≤9223372036854775807)(h0:q≠0):Calls Tryz.prog 126 #[.int .i64 p,.int .i64 q] w (Ret E0 w fun w' v=>∃u,v= .tuple #[u,.int .i64 0]∧rT X w' u (.of (mkRat (sgn (!(decide (p<0)==decide (q<0))) p.natAbs) q.natAbs))):=by
 have hB:(18446744073709551616:Nat)≤4294967296^512:=Nat.le_trans (by decide:18446744073709551616≤4294967296^2) (zNi 4294967296 2 512 (by decide) (by decide))
 refine zen Tryz.func126 ?_;have V:St E0 w X w X []:=St.start hX;refine zz 2<|zn pn (.cells #[.bool false,.slice none 0 0,.slice none 0 0] 28 (0,0)) V fun b3 w3 Y3 S y3 N3=>zz 10<|zb 7 (b:=((q)==0)) (fun N=>?_) (fun N=>?_);have F5:(q)=0:=by simpa using N
 exfalso;omega;have F6:(q)≠0:=by simpa using N
 refine zz 6<|zc S (zCy _ _ S.lt p (by omega) (by omega)) ?_
 rintro v8 w8 T y8 N8 ⟨ad8,zCw,P8,rfl,O⟩;refine zz 1<|zc T (zCy _ _ T.lt q (by omega) (by omega)) ?_
 rintro v10 w10 f R W ⟨U,Q,P10,rfl,J⟩;refine zz 7<|zc f (zHc _ _ f.lt _ _ _ p.natAbs (O.mono R) _ _ _ q.natAbs J (!((decide ((p)<0))==(decide ((q)<0)))) (by omega) (by omega) (by omega) (mkRat (sgn (!(decide (p<0)==decide (q<0))) p.natAbs) q.natAbs) rfl) ?_
 rintro v12 w12 M y12 Z ⟨z,e,G,A,D,C,rfl,K,I⟩;refine zx 0 #[.bool (decide ((mkRat (sgn (!(decide (p<0)==decide (q<0))) p.natAbs) q.natAbs).num<0)),.slice z e G,.slice A D C] M fun w13 j L=>zz 4<|zrS [.cell 4 28,.tmp 5] (v:= .tuple #[.agg #[.bool (decide ((mkRat (sgn (!(decide (p<0)==decide (q<0))) p.natAbs) q.natAbs).num<0)),.slice z e G,.slice A D C],.int .i64 0]) (Res.cM j 0 (Res.tZ Res.nil)) ?_;exact⟨j.upd,_,rfl,_,rfl,zAc.raw ⟨_,_,_,_,_,_,rfl,((K.mono (Le.new f.lt)).mono L).mono j.le,((I.mono (Le.new f.lt)).mono L).mono j.le⟩⟩
section
variable (w:World)(X:Hid)(hX:∀k o,X k o→k<w.heap.size)
set_option maxHeartbeats 1000000
theorem zLf{α:Type}{l:List α}{k:Nat}{x:α}(h:l[k]?=some x):l.take (k+1)=l.take k++[x]:=by rw[List.take_add_one,h];rfl
theorem zBt{α:Type}{l l2:List α}{k:Nat}{x:α}(h:l.take k=l2.take k)(e:l[k]?=some x)(f:l2[k]?=some x):l.take (k+1)=l2.take (k+1):=by rw[zLf e,zLf f,h]
theorem dI{α:Type}{l l2:List α}{k:Nat}(h:l.take k=l2.take k)(f:l.length=l2.length)(e:l.length≤k):l=l2:=by
 rwa[List.take_of_length_le e,List.take_of_length_le (by omega)]at h
theorem jCe{α:Type}{l l2:List α}{k:Nat}{x y:α}(e:l[k]?=some x)(f:l2[k]?=some y)(h:x≠y):l≠l2:=by
 rintro rfl;exact h (Option.some.inj (e.symm.trans f))
theorem getD_some{l:List Nat}{k:Nat}(h:k<l.length):l[k]?=some (l.getD k 0):=by
 rw[zh,List.getElem?_eq_getElem h];rfl
theorem zDx{x y:Bool}(h:x=y):Value.bool x= .bool y:=h▸rfl
include hX in
theorem zLk(ad:Option Addr)(len cap:Nat)(l:List Nat)(h:zN (rd w X) ad len cap l)(A:Option Addr)(j I:Nat)(l2:List Nat)(C:zN (rd w X) A j I l2):Calls Tryz.prog 164 #[.slice ad len cap,.slice A j I] w (Ret E0 w fun _ v=>v= .bool (decide (l=l2))):=by
 obtain rfl:=h.hlen;obtain rfl:=C.hlen;have hcap:=h.hcap;have hbig:=h.hbig;have M:=C.hcap;have L:=C.hbig;refine zen Tryz.func164 ?_;have Q:St E0 w X w X []:=St.start hX;refine zz 15<|zb 10 (b:=((l.length:Int)!=(l2.length:Int))) (fun J=>?_) (fun J=>?_);have T:(l.length:Int)≠(l2.length:Int):=by simpa using J
 refine zz 8<|zr' (v:= .bool false) ?_;exact⟨Q.upd,_,rfl,zDx ((decide_eq_false (fun e=>by rw[e]at T;exact T rfl)).symm)⟩
 have F4:(l.length:Int)=(l2.length:Int):=by simpa using J
 have hlen:l.length=l2.length:=by omega
 refine zz 10<|zlp Tryz.f164 [] [1,1,0,1,0] (fun(k:Nat)=>[(0,.slice ad l.length cap),(1,.slice A l2.length I),(5,.int .i64 (k:Int))]) (fun(k:Nat)w1=>∃(U:Hid),St E0 w X w1 U []∧Le (rd w X) (rd w1 U)∧(l.take k=l2.take k)∧(k≤l.length)) (fun(k:Nat)=>l.length-k) 0 ?_ ?_;refine⟨_,Q,Le.refl _,rfl,Nat.zero_le _⟩;rintro k w5 K5 Z5 ⟨Y5,R,O,f,N⟩;refine zz 9<|zt 14 (p:=(k:Int)<(l.length:Int)) (fun W=>?_) (fun W=>?_);obtain⟨b1,q,rfl,_⟩:=h.addr (by omega)
 have D:=getD_some (l:=l) (k:=k) (by omega)
 obtain⟨b2,z,rfl,_⟩:=C.addr (by omega)
 have G:=getD_some (l:=l2) (k:=k) (by omega)
 refine zz 6<|zdr R<|gz [0,1]<|gi 2 (b:=b1) (off:=q) (len:=l.length) (cap:=cap) (kd:= .i64) (i:=(k:Int)) 1 (q+k)<|gl 3 ((h.cell (i:=k) (by omega)).mono O)<|gz [4,5]<|gi 6 (b:=b2) (off:=z) (len:=l2.length) (cap:=I) (kd:= .i64) (i:=(k:Int)) 1 (z+k)<|gl 7 ((C.cell (i:=k) (by omega)).mono O)<|gz [8] ?_
 refine fJ (fun w7 Y7 S y7=>?_);refine zz 1<|zb 25 (b:=(((l.getD k 0:Nat):Int)!=((l2.getD k 0:Nat):Int))) (fun K=>?_) (fun K=>?_);have Z:((l.getD k 0:Nat):Int)≠((l2.getD k 0:Nat):Int):=by simpa using K
 refine zz 12<|zr' (v:= .bool false) ?_;exact⟨S.upd,_,rfl,zDx ((decide_eq_false (jCe D G (fun e=>Z (by rw[e])))).symm)⟩
 have V:((l.getD k 0:Nat):Int)=((l2.getD k 0:Nat):Int):=by simpa using K
 refine zz 7<|zw 16 (x:=(k:Int)+1)<|zz 2 ?_;refine kL (fun a h=>Z5 (k+1) _ a h ⟨_,S,(Le2 O y7),zBt f D (by rw[show l.getD k 0=l2.getD k 0 by omega];exact G),by omega⟩ ?_)
 first | omega | (simp<;>omega)
 refine zz 12<|zr' (v:= .bool true) ?_;exact⟨R.upd,_,rfl,zDx ((decide_eq_true (dI f hlen (by omega))).symm)⟩
include hX in
theorem vK(ad:Option Addr)(len cap:Nat)(l:List Nat)(h:zN (rd w X) ad len cap l)(f:Option Addr)(e C:Nat)(l2:List Nat)(j:zN (rd w X) f e C l2):Calls Tryz.prog 85 #[.slice ad len cap,.slice f e C] w (Ret E0 w fun _ v=>v= .bool (decide (l=l2))):=by
 obtain rfl:=h.hlen;obtain rfl:=j.hlen;have hcap:=h.hcap;have hbig:=h.hbig;have z:=j.hcap;have q:=j.hbig;refine zen Tryz.func85 ?_;have A:St E0 w X w X []:=St.start hX;refine zz 9<|zc A (zLk _ _ A.lt _ _ _ _ h _ _ _ _ j) ?_;rintro I J D K G rfl;refine zz 4<|zr' (v:= .bool (decide (l=l2))) ?_;exact⟨D.upd,_,rfl,rfl⟩
theorem zNj{a b:Raw}:a=b↔a.neg=b.neg∧a.ln=b.ln∧a.ld=b.ld:=by cases a;cases b;simp
include hX in
theorem zRu(a:Raw)(z:Option Addr)(j e:Nat)(O:zN (rd w X) z j e a.ln)(C:Option Addr)(J G:Nat)(k₁:zN (rd w X) C J G a.ld)(b:Raw)(A:Option Addr)(q f:Nat)(Q:zN (rd w X) A q f b.ln)(D:Option Addr)(K I:Nat)(k₂:zN (rd w X) D K I b.ld):Calls Tryz.prog 37 #[.agg #[.bool a.neg,.slice z j e,.slice C J G],.agg #[.bool b.neg,.slice A q f,.slice D K I]] w (Ret E0 w fun _ v=>v= .bool (decide (a=b))):=by
 refine zen Tryz.func37 ?_;have W:St E0 w X w X []:=St.start hX;refine zz 2<|zn pn (.cells #[.bool a.neg,.slice z j e,.slice C J G] 28 (0,0)) W fun b3 w3 Y3 Z R N3=>zn pn (.cells #[.bool b.neg,.slice A q f,.slice D K I] 28 (0,0)) Z fun b5 w5 Y5 L S N5=>zz 6<|zo 1 L<|zz 1<|zo 0 L<|zz 2<|zb 10 (b:=(a.neg==b.neg)) (fun U=>?_) (fun U=>?_);have F7:a.neg=b.neg:=by simpa using U
 refine zz 1<|zo 1 L<|zz 1<|zo 0 L<|zc L (vK _ _ L.lt _ _ _ _ (O.mono (Le2 R S)) _ _ _ _ (Q.mono (Le2 R S))) ?_;rintro v9 w9 N V N9 rfl;refine zz 2<|zb 17 (b:=(decide (a.ln=b.ln))) (fun M=>?_) (fun M=>?_);have F11:a.ln=b.ln:=of_decide_eq_true M;refine zz 1<|zo 1 N<|zz 1<|zo 0 N<|zc N (vK _ _ N.lt _ _ _ _ (k₁.mono (Le3 R S V)) _ _ _ _ (k₂.mono (Le3 R S V))) ?_;rintro v13 w13 T y13 N13 rfl;refine zz 5<|zr' (v:= .bool (decide (a.ld=b.ld))) ?_;refine⟨T.upd,_,rfl,zDx ?_⟩;refine Bool.eq_iff_iff.2 ?_;rw[show(decide (a=b)=true)↔_ from decide_eq_true_iff.trans zNj];simp_all;have F14:¬(a.ln=b.ln):=of_decide_eq_false M;refine zz 10<|zr' (v:= .bool false) ?_;refine⟨N.upd,_,rfl,zDx ?_⟩;refine Bool.eq_iff_iff.2 ?_;rw[show(decide (a=b)=true)↔_ from decide_eq_true_iff.trans zNj];simp_all;have F15:a.neg≠b.neg:=by simpa using U
 refine zz 17<|zr' (v:= .bool false) ?_;refine⟨L.upd,_,rfl,zDx ?_⟩;refine Bool.eq_iff_iff.2 ?_;rw[show(decide (a=b)=true)↔_ from decide_eq_true_iff.trans zNj];simp_all
end
section
variable (w:World)(X:Hid)(hX:∀k o,X k o→k<w.heap.size)
set_option maxHeartbeats 1000000
include hX in
theorem qTv(M:Option Addr)(L I T:Nat)(h₁:qC (rd w X) M L I T)(N:Option Addr)(Q O R:Nat)(k₁:qC (rd w X) N Q O R)(V:Bool)(J:T<jQ)(j:R<jQ)(G:Option Addr)(C A U:Nat)(h₂:qC (rd w X) G C A U)(e:Option Addr)(z f S:Nat)(k₂:qC (rd w X) e z f S)(D:Bool)(K:U<jQ)(q:S<jQ):Calls Tryz.prog 159 #[.agg #[.slice M L I,.slice N Q O,.bool V],.agg #[.slice G C A,.slice e z f,.bool D]] w (Ret E0 w fun w' v=>∃s m,zSb X w' v s m (R*U)∧m<4294967296^512∧sgn s m=sgn V T*sgn D S):=by
 refine zen Tryz.func159 ?_;have C0:St E0 w X w X []:=St.start hX;have hb:∀{x:Nat},x<jQ→x<4294967296^512:=fun h=>Nat.lt_of_lt_of_le h qEn;have hbn1:=hb J;have hbn2:=hb K;have hbd1:=hb j;have hbd2:=hb q;obtain⟨hp1,hp12⟩:=kD J q K j;have hp2:=(kD K j J q).1;have hpd:=(kD j q j q).1;have hpn:=(kD J K j q).1;refine zz 2<|zn pn (.cells #[.slice M L I,.slice N Q O,.bool V] 132 (0,0)) C0 fun b3 w3 Y3 C3 y3 N3=>zn pn (.cells #[.slice G C A,.slice e z f,.bool D] 132 (0,0)) C3 fun b5 w5 Y5 C5 y5 N5=>zn pn (.cells #[.slice none 0 0,.slice none 0 0,.bool false] 132 (0,0)) C5 fun b7 w7 Y7 C7 y7 N7=>zz 6<|zo 1 C7<|zz 2<|zo 1 C7<|zz 2 ?_;refine zx 1 #[.slice e z f,.slice e z f,.bool D] C7 fun w8 C8 y8=>zz 2<|zx 1 #[.slice e z f,.slice G C A,.bool D] C8 fun w9 C9 y9=>zz 4<|zo 2 C9<|zo 1 C9 ?_;have W:=(Le4 y3 y5 y7 y8).trans y9;refine zc C9 (zKz _ _ C9.lt _ _ _ T (h₁.mono W) _ _ _ R (k₁.mono W) V (by assumption) (by assumption) _ _ _ S (k₂.mono W) _ _ _ U (h₂.mono W) D (by assumption) (by assumption)) ?_
 rintro v11 w11 C11 y11 N11 ⟨sg11,m11,⟨ad11,Z,P11,ae11,le11,ce11,rfl,hN11,hD11⟩,hm11,he11⟩;have J2_:=W.trans y11;refine zx 0 #[.slice ad11 Z P11,.slice ae11 le11 ce11,.bool sg11] C11 fun w12 C12 y12=>zz 3<|zrS [.cell 4 132] (v:= .agg #[.slice ad11 Z P11,.slice ae11 le11 ce11,.bool sg11]) (Res.cM C12 0 Res.nil) ?_;exact⟨C12.upd,_,rfl,_,_,⟨_,_,_,_,_,_,rfl,(hN11.mono y12).mono C12.le,(hD11.mono y12).mono C12.le⟩,hm11,he11⟩
def OpD(f:Nat)(op:Rat→Rat→Rat):Prop:=∀(w:World)(X:Hid)(hX:∀k o,X k o→k<w.heap.size)(G:Option Addr)(A e Q:Nat)(h₁:qC (rd w X) G A e Q)(J:Option Addr)(N L q:Nat)(k₁:qC (rd w X) J N L q)(R:Bool)(V:Q<jQ)(T:q<jQ)(I:Option Addr)(C j D:Nat)(h₂:qC (rd w X) I C j D)(K:Option Addr)(O M z:Nat)(k₂:qC (rd w X) K O M z)(S:Bool)(W:D<jQ)(U:z<jQ)(Z:0<q)(hp₂:0<z)(hz:D≠0),Calls Tryz.prog f #[.agg #[.slice G A e,.slice J N L,.bool R],.agg #[.slice I C j,.slice K O M,.bool S]] w (Ret E0 w fun w' v=>∃s m d,zSb X w' v s m d∧m<4294967296^512∧d<4294967296^512∧0<d∧mkRat (sgn s m) d=op (mkRat (sgn R Q) q) (mkRat (sgn S D) z))
theorem qLt(s:Bool)(a b:Nat):(mkRat (sgn s a) b)⁻¹=mkRat (sgn s b) a:=by
 rw[←Rat.divInt_ofNat,Rat.inv_divInt,←Rat.divInt_ofNat];cases s
 ·rfl
 ·show Rat.divInt b (-(a:Int))=Rat.divInt (-(b:Int)) a;rw[←Rat.neg_divInt_neg,Int.neg_neg]
theorem qTw:OpD 159 (·/ ·):=fun w X hX M A q I h₁ O W R D k₁ K U f N C z J h₂ Q Z S G k₂ L j T V hp₂ hz=>
 (qTv w X hX M A q I h₁ O W R D k₁ K U f N C z J h₂ Q Z S G k₂ L j T).mono (by
  rintro e w' ⟨hu,v,rfl,s,m,hv,hm,he⟩;refine⟨hu,_,rfl,s,m,_,hv,hm,zFm f j,Nat.mul_pos V (Nat.pos_of_ne_zero hz),?_⟩;show _=mkRat (sgn K I) D / mkRat (sgn L J) G;rw[Rat.div_def,qLt,Rat.mkRat_mul_mkRat,he])
theorem zTw(f:Nat)(op:Rat→Rat→Rat)(hcf:∀args w,(callFunc f args).run Tryz.prog w= .ok (.enter f args) w)(hop:OpD f op)(w:World)(X:Hid)(hX:∀k o,X k o→k<w.heap.size)(a:Raw)(D:Option Addr)(A e:Nat)(h₁:zN (rd w X) D A e a.ln)(I:Option Addr)(O K:Nat)(k₁:zN (rd w X) I O K a.ld)(b:Raw)(G:Option Addr)(C j:Nat)(h₂:zN (rd w X) G C j b.ln)(J:Option Addr)(Q L:Nat)(k₂:zN (rd w X) J Q L b.ld)(hb0:val b.ln≠0)(z:Rat)(hz:op a.rat b.rat=z):Calls Tryz.prog 84 #[.agg #[.bool a.neg,.slice D A e,.slice I O K],.agg #[.bool b.neg,.slice G C j,.slice J Q L],.func (.func f) #[] #[]] w (Ret E0 w fun w' v=>∃u,v= .tuple #[u,.int .i64 (opE a b z)]∧rT (old w) w' u (opR a b z)):=by
 refine zen Tryz.func84 ?_;have C0:St E0 w X w X []:=St.start hX;refine zz 2<|zn pn (.cells #[.bool a.neg,.slice D A e,.slice I O K] 28 (0,0)) C0 fun b3 w3 Y3 C3 y3 N3=>zn pn (.cells #[.bool b.neg,.slice G C j,.slice J Q L] 28 (0,0)) C3 fun b5 w5 Y5 C5 y5 N5=>zn pn (.cells #[.bool false,.slice none 0 0,.slice none 0 0] 28 (0,0)) C5 fun b7 w7 Y7 C7 y7 N7=>zz 5<|zdr C7<|gw 0 2<|gw 2 1 ?_;have J1_:=(Le2 y3 y5).trans y7;refine gC 1 (fun w8 Y8 _ C8 y8=>(wM _ _ C8.lt a _ _ _ (h₁.mono (J1_.trans y8)) _ _ _ (k₁.mono (J1_.trans y8)))) ?_;rintro v9 w8 Y9 w9 C8 y9 rfl;have J2_:=J1_.trans y9;refine gC 3 (fun w10 Y10 _ C10 y10=>(wM _ _ C10.lt b _ _ _ (h₂.mono (J2_.trans y10)) _ _ _ (k₂.mono (J2_.trans y10)))) ?_;rintro v11 w10 Y11 w11 C10 y11 rfl;refine gp1 (al 4 14 (fun b=> .slice (some ⟨b,0,none⟩) 2 2) (.cells #[.int .i64 a.chk,.int .i64 b.chk] 46 (0,0))) (fun b12=>?_);refine gC 5 (vs:=#[.slice (some ⟨b12,0,none⟩) 2 2]) (fun w13 Y13 _ C13 y13=>(qGk _ X0 (zZ _) _ _ _ _ [a.chk,b.chk] rfl (by simp) (C13.at0 0 rfl rfl))) ?_
 rintro v14 w13 Y14 w14 C13 y14 rfl;refine gz [6] ?_;refine fJ (fun w15 Y15 C15 y15=>?_);refine zz 7<|zb 17 (b:=((orL [a.chk,b.chk])!=0)) (fun J16=>?_) (fun J16=>?_);have F17:(orL [a.chk,b.chk])≠0:=by simpa using J16
 refine zz 5<|zx 1 #[.bool false,.slice none 0 0,.slice none 0 0] C15 fun w18 C18 y18=>zz 5<|zrS [.cell 6 28,.tmp 7] (v:= .tuple #[.agg #[.bool false,.slice none 0 0,.slice none 0 0],.int .i64 (orL [a.chk,b.chk])]) (Res.cM C18 1 (Res.tZ Res.nil)) ?_;obtain⟨M,N⟩:=zTv (z:=z) F17;exact⟨C18.upd,_,rfl,_,by rw[M],by rw[N];exact rW⟩
 have F19:(orL [a.chk,b.chk])=0:=by simpa using J16
 obtain⟨hca,hcb⟩:=fZ ((zJf _ _).symm.trans (by simpa using F19))
 obtain⟨hla,hma,cna,cda,_,_,_⟩:=Raw.chk_ok hca;have bna:val a.ln<jQ:=(zV h₁.hlt cna 128).1 hla;have bda:a.d<jQ:=by unfold Raw.d;split;exact Nat.one_lt_pow (by omega) (by omega);exact(zV k₁.hlt cda 128).1 hma
 have pda:=Raw.d_pos a;have hNna:=h₁.natR cna;have hNda:=k₁.natR cda;obtain⟨hlb,hmb,cnb,cdb,_,_,_⟩:=Raw.chk_ok hcb;have bnb:val b.ln<jQ:=(zV h₂.hlt cnb 128).1 hlb;have bdb:b.d<jQ:=by unfold Raw.d;split;exact Nat.one_lt_pow (by omega) (by omega);exact(zV k₂.hlt cdb 128).1 hmb
 have pdb:=Raw.d_pos b;have hNnb:=h₂.natR cnb;have hNdb:=k₂.natR cdb;refine zz 4 ?_;refine qRs [0,1,2,3] C15<|gz [0]<|gw 1 3<|gw 3 2<|gp (al 7 9 pn (.cells #[.bool false,.slice none 0 0,.slice none 0 0] 28 (0,0))) ?_;have J3_:=((J2_.trans y11).trans y14).trans y15;refine gC 2 (fun w20 Y20 _ C20 y20=>(zZj _ _ C20.lt a.neg _ _ _ (val a.ln) (hNna.mono (J3_.trans y20)) _ _ _ (val a.ld) (hNda.mono (J3_.trans y20)))) ?_ (hPd:=kP.nil.k);rintro v21 w20 Y21 w21 C20 y21 ⟨ad21,len21,P21,ae21,le21,ce21,rfl,hN21,hD21⟩;have J4_:=J3_.trans y21;refine gC 4 (fun w22 Y22 _ C22 y22=>(zZj _ _ C22.lt b.neg _ _ _ (val b.ln) (hNnb.mono (J4_.trans y22)) _ _ _ (val b.ld) (hNdb.mono (J4_.trans y22)))) ?_ (hPd:=kP.nil.k);rintro v23 w22 Y23 w23 C22 y23 ⟨ad23,len23,P23,ae23,le23,ce23,rfl,hN23,hD23⟩;refine gC 5 (hcall:=(fun w=>hcf _ w)) (fun w24 Y24 _ C24 y24=>(hop _ _ C24.lt _ _ _ (val a.ln) (hN21.mono (Le2 y23 y24)) _ _ _ a.d (hD21.mono (Le2 y23 y24)) a.neg (by assumption) (by assumption) _ _ _ (val b.ln) (hN23.mono y24) _ _ _ b.d (hD23.mono y24) b.neg (by assumption) (by assumption) (by assumption) (by assumption) (by assumption))) ?_ (hPd:=kP.nil.k)
 rintro v25 w24 Y25 w25 C24 y25 ⟨sg25,m25,d25,⟨ad25,len25,P25,ae25,le25,ce25,rfl,hN25,hD25⟩,hm25,hd25,hp25,he25⟩;refine gC 6 (fun w26 Y26 _ S y26=>(zHc _ _ S.lt _ _ _ m25 (hN25.mono y26) _ _ _ d25 (hD25.mono y26) sg25 hm25 hd25 hp25 z (he25.trans hz))) ?_ (hPd:=kP.nil.k);rintro v27 w26 Y27 w27 S y27 ⟨U,q,P27,V,R,W,rfl,hN27,Z⟩;refine gs1 (fun b28=>?_) kP.nil.k;refine gX 8 0 #[.bool (decide (z.num<0)),.slice U q P27,.slice V R W] fun w29 Y29 y29=>?_;refine fJ (fun w30 Y30 T y30=>?_);refine zz 5<|zo 0 T<|zz 3<|zt 31 (p:=(q:Int)>128) (fun F31=>?_) (fun F31=>?_);refine zz 11<|zx 2 #[.bool false,.slice none 0 0,.slice none 0 0] T fun w32 C32 y32=>zz 5<|zrS [.cell 6 28,.tmp 7] (v:= .tuple #[.agg #[.bool false,.slice none 0 0,.slice none 0 0],.int .i64 4]) (Res.cM C32 2 (Res.tZ Res.nil)) ?_;obtain⟨M,N⟩:=zFw (z:=z) F19 (fun hh=>absurd ((hN27.len_le 128).2 hh.1) (by omega))
 exact⟨C32.upd,_,rfl,_,by rw[M],by rw[N];exact rW⟩
 refine zz 1<|zo 0 T<|zz 5<|zt 36 (p:=(R:Int)>128) (fun F33=>?_) (fun F33=>?_);refine zz 4<|zx 2 #[.bool false,.slice none 0 0,.slice none 0 0] T fun w34 C34 y34=>zz 5<|zrS [.cell 6 28,.tmp 7] (v:= .tuple #[.agg #[.bool false,.slice none 0 0,.slice none 0 0],.int .i64 4]) (Res.cM C34 2 (Res.tZ Res.nil)) ?_;obtain⟨M,N⟩:=zFw (z:=z) F19 (fun hh=>absurd ((Z.len_le 128).2 hh.2) (by omega))
 exact⟨C34.upd,_,rfl,_,by rw[M],by rw[N];exact rW⟩
 refine zz 5<|zo 0 T<|zx 2 #[.bool (decide (z.num<0)),.slice U q P27,.slice V R W] T fun w35 C35 y35=>zz 4<|zrS [.cell 6 28,.tmp 7] (v:= .tuple #[.agg #[.bool (decide (z.num<0)),.slice U q P27,.slice V R W],.int .i64 0]) (Res.cM C35 2 (Res.tZ Res.nil)) ?_;obtain⟨M,N⟩:=zWt (z:=z) F19 ⟨(hN27.len_le 128).1 (by omega),(Z.len_le 128).1 (by omega)⟩
 exact⟨C35.upd,_,rfl,_,by rw[M],by rw[N];exact zAc.raw ⟨_,_,_,_,_,_,rfl,((hN27.mono (Le.own S.lt S.upd.size (Le3 y29 y30 y35))).mono Le.orr),((Z.mono (Le.own S.lt S.upd.size (Le3 y29 y30 y35))).mono Le.orr)⟩⟩
include hX in
theorem qZl(a:Raw)(C:Option Addr)(A j:Nat)(U:zN (rd w X) C A j a.ln)(G:Option Addr)(L J:Nat)(k₁:zN (rd w X) G L J a.ld)(b:Raw)(D:Option Addr)(e q:Nat)(N:zN (rd w X) D e q b.ln)(I:Option Addr)(M K:Nat)(k₂:zN (rd w X) I M K b.ld)(hb0:val b.ln≠0):Calls Tryz.prog 80 #[.agg #[.bool a.neg,.slice C A j,.slice G L J],.agg #[.bool b.neg,.slice D e q,.slice I M K]] w (Ret E0 w fun w' v=>∃u,v= .tuple #[u,.int .i64 (opE a b (a.rat / b.rat))]∧rT (old w) w' u (opR a b (a.rat / b.rat))):=by
 refine zen Tryz.func80 ?_;have C0:St E0 w X w X []:=St.start hX;refine zz 2<|zn pn (.cells #[.bool a.neg,.slice C A j,.slice G L J] 28 (0,0)) C0 fun b3 w3 Y3 C3 y3 N3=>zn pn (.cells #[.bool b.neg,.slice D e q,.slice I M K] 28 (0,0)) C3 fun b5 w5 Y5 C5 y5 N5=>zn pn (.cells #[.bool false,.slice none 0 0,.slice none 0 0] 28 (0,0)) C5 fun b7 w7 Y7 C7 y7 N7=>zz 5<|zdr C7<|gw 0 2<|gw 2 1 ?_;have Z:=(Le2 y3 y5).trans y7;refine gC 1 (fun w8 Y8 _ C8 y8=>(wM _ _ C8.lt a _ _ _ (U.mono (Z.trans y8)) _ _ _ (k₁.mono (Z.trans y8)))) ?_;rintro v9 w8 Y9 w9 C8 y9 rfl;have J2_:=Z.trans y9;refine gC 3 (fun w10 Y10 _ C10 y10=>(wM _ _ C10.lt b _ _ _ (N.mono (J2_.trans y10)) _ _ _ (k₂.mono (J2_.trans y10)))) ?_;rintro v11 w10 Y11 w11 C10 y11 rfl;refine gp1 (al 4 11 (fun b=> .slice (some ⟨b,0,none⟩) 2 2) (.cells #[.int .i64 a.chk,.int .i64 b.chk] 46 (0,0))) (fun b12=>?_);refine gC 5 (vs:=#[.slice (some ⟨b12,0,none⟩) 2 2]) (fun w13 Y13 _ C13 y13=>(qGk _ X0 (zZ _) _ _ _ _ [a.chk,b.chk] rfl (by simp) (C13.at0 0 rfl rfl))) ?_
 rintro v14 w13 Y14 w14 C13 y14 rfl;refine gz [6] ?_;refine fJ (fun w15 Y15 f y15=>?_);refine zz 7<|zb 14 (b:=((orL [a.chk,b.chk])!=0)) (fun W=>?_) (fun W=>?_);have F17:(orL [a.chk,b.chk])≠0:=by simpa using W
 refine zz 5<|zx 1 #[.bool false,.slice none 0 0,.slice none 0 0] f fun w18 C18 y18=>zz 5<|zrS [.cell 4 28,.tmp 5] (v:= .tuple #[.agg #[.bool false,.slice none 0 0,.slice none 0 0],.int .i64 (orL [a.chk,b.chk])]) (Res.cM C18 1 (Res.tZ Res.nil)) ?_;obtain⟨he1,he2⟩:=zTv (z:=a.rat / b.rat) F17;exact⟨C18.upd,_,rfl,_,by rw[he1],by rw[he2];exact rW⟩
 have F19:(orL [a.chk,b.chk])=0:=by simpa using W
 refine zz 7<|zo 2 f<|zz 4<|zb 20 (b:=((e:Int)==0)) (fun J20=>?_) (fun J20=>?_);have F21:(e:Int)=0:=by simpa using J20
 exact absurd (by have:=N.hlen;have hl:b.ln=[]:=List.length_eq_zero_iff.1 (by omega);rw[hl];rfl) hb0
 have F22:(e:Int)≠0:=by simpa using J20
 refine zz 5<|zo 3 f<|zo 2 f ?_;have Q:=((J2_.trans y11).trans y14).trans y15;refine zc f (zTw 159 (·/ ·) (fun args w=>Tryz.call159 args w) qTw _ _ f.lt a _ _ _ (U.mono Q) _ _ _ (k₁.mono Q) b _ _ _ (N.mono Q) _ _ _ (k₂.mono Q) hb0 (a.rat / b.rat) rfl) ?_;rintro v24 w24 C24 y24 N24 ⟨u24,rfl,⟨R,O,P24,S,V,T,rfl,hN24,hD24⟩⟩;refine zz 2<|zx 1 #[.bool ((opR a b (a.rat / b.rat)).neg),.slice R O P24,.slice S V T] C24 fun w25 C25 y25=>zz 4<|zrS [.cell 4 28,.tmp 5] (v:= .tuple #[.agg #[.bool ((opR a b (a.rat / b.rat)).neg),.slice R O P24,.slice S V T],.int .i64 (opE a b (a.rat / b.rat))]) (Res.cM C25 1 (Res.tZ Res.nil)) ?_;exact⟨C25.upd,_,rfl,_,rfl,⟨_,_,_,_,_,_,rfl,((hN24.mono (Le.own f.lt f.upd.size y25)).mono Le.orr),((hD24.mono (Le.own f.lt f.upd.size y25)).mono Le.orr)⟩⟩
end
section
variable (w:World)(X:Hid)(hX:∀k o,X k o→k<w.heap.size)
set_option maxHeartbeats 1000000
include hX in
theorem zGl(ad:Option Addr)(len cap:Nat)(l:List Nat)(h:zN (rd w X) ad len cap l):
    Calls Tryz.prog 236 #[.slice ad len cap] w (Ret E0 w fun _ v=>v= .slice ad (qV l) cap):=by
 obtain rfl:=h.hlen;have hl:=h.hlen;have hcap:=h.hcap;have hbig:=h.hbig;refine zen Tryz.func236 ?_;have L:St E0 w X w X []:=St.start hX;refine zz 7<|zlp Tryz.f236 [] [1,0,0] (fun(k:Nat)=>[(0,.slice ad k cap)]) (fun(k:Nat)w1=>∃(J:Hid),St E0 w X w1 J []∧Le (rd w X) (rd w1 J)∧(k≤l.length)∧(yX l k=yX l l.length)) (fun(k:Nat)=>k) l.length ?_ ?_
 ·
  refine⟨_,L,Le.refl _,Nat.le_refl _,rfl⟩
 rintro k w2 R S ⟨U,D,K,A,C⟩;have Z:=A;have ht:=C;refine zz 7<|zt 6 (p:=(k:Int)>0) (fun N=>?_) (fun N=>?_)
 ·
  obtain⟨j,f,rfl,_⟩:=h.addr (by omega)
  have q:=(h.cell (i:=k-1) (by omega))
  refine zz 4<|zw 10 (x:=(k:Int)-1)<|zi (b:=j) (off:=f) (len:=k) (cap:=cap) (kd:= .i64) (i:=(k:Int)-1) 1 (f+(k-1)) ?_ (hoff:=(by first | omega | (simp;done) | (simp;omega)))
  refine zl ((q.mono K)).cells<|zz 4<|zb 14 (b:=(((l.getD (k-1) 0:Nat):Int)==0)) (fun G=>?_) (fun G=>?_)
  ·
   have T:((l.getD (k-1) 0:Nat):Int)=0:=by simpa using G
   have z:=zEn (l:=l) (k:=k) (by omega) (by omega)
   refine zz 9<|zw 18 (x:=(k:Int)-1)<|zop (at1 [R] Tryz.f236 [1,0,0,0,1,0]) 4 (fun V _ O I=>zE (d:=19) (v:= .slice (some ⟨j,f,none⟩) (k-1) cap) O kr (zBm (t:=26) (e:=214) (ad:=(some ⟨j,f,none⟩)) (len:=k) (cap:=cap) (kd:= .i64) (i:=(k:Int)-1) (h':=(k-1)) (g:=false) (m:=1) rfl kr kr kr kr (by omega) (by omega) (by first | omega | (simp;done) | (simp;omega)) _) ?_)
   intro W Q;refine I Q<|zz 3 ?_;refine kL (fun a h=>S (k-1) _ a h ⟨_,D,K,by omega,by omega⟩ ?_)
   first | omega | (simp<;>omega)
  have M:((l.getD (k-1) 0:Nat):Int)≠0:=by simpa using G
  have z:=zEm (l:=l) (k:=k) (by omega) (by omega)
  refine zz 13<|zr' (v:= .slice (some ⟨j,f,none⟩) k cap) ?_;exact⟨D.upd,_,rfl,by unfold qV;first | rw[←ht,z] | rw[←ht];rfl⟩
 obtain rfl:k=0:=by omega
 refine zz 23<|zr' (v:= .slice ad 0 cap) ?_;exact⟨D.upd,_,rfl,by unfold qV;first | rw[←ht,z] | rw[←ht];rfl⟩
include hX in
theorem zOq(ad:Option Addr)(len cap:Nat)(l:List Nat)(h:zN (rd w X) ad len cap l):Calls Tryz.prog 149 #[.slice ad len cap] w (Ret E0 w fun _ v=>v= .int .i64 (jH l)):=by
 obtain rfl:=h.hlen;have hcap:=h.hcap;have hbig:=h.hbig;refine zen Tryz.func149 ?_;have f:St E0 w X w X []:=St.start hX;refine zz 13<|zt 5 (p:=(l.length:Int)>512) (fun z=>?_) (fun z=>?_);refine zz 8<|zr' (v:= .int .i64 4) ?_;exact⟨f.upd,_,rfl,zQ (by unfold jH;(repeat' split)<;>first | rfl | omega)⟩
 refine zz 10<|zt 9 (p:=(l.length:Int)>0) (fun A=>?_) (fun A=>?_);obtain⟨q,e,rfl,_⟩:=h.addr (by omega)
 refine zz 4<|zw 13 (x:=(l.length:Int)-1)<|zi (b:=q) (off:=e) (len:=l.length) (cap:=cap) (kd:= .i64) (i:=(l.length:Int)-1) 1 (e+(l.length-1)) ?_ (hoff:=(by first | omega | (simp;done) | (simp;omega)))
 refine zl ((h.cell (i:=(l.length-1)) (by omega)).mono (Le.refl _)).cells<|zz 4<|zb 17 (b:=(((l.getD (l.length-1) 0:Nat):Int)==0)) (fun j=>?_) (fun j=>?_)
 have C:((l.getD (l.length-1) 0:Nat):Int)=0:=by simpa using j
 refine zz 8<|zr' (v:= .int .i64 2) ?_;exact⟨f.upd,_,rfl,zQ (by unfold jH;(repeat' split)<;>first | rfl | omega)⟩
 have D:((l.getD (l.length-1) 0:Nat):Int)≠0:=by simpa using j
 refine zz 9<|zr' (v:= .int .i64 0) ?_;exact⟨f.upd,_,rfl,zQ (by unfold jH;(repeat' split)<;>first | rfl | omega)⟩
 refine zz 19<|zr' (v:= .int .i64 0) ?_;exact⟨f.upd,_,rfl,zQ (by unfold jH;(repeat' split)<;>first | rfl | omega)⟩
include hX in
theorem nG(ad:Option Addr)(len cap:Nat)(l:List Nat)(h:zN (rd w X) ad len cap l)(i:Nat):Calls Tryz.prog 262 #[.slice ad len cap,.int .i64 (i:Int)] w (Ret E0 w fun _ v=>v= .int .u64 ((l.getD i 0:Nat):Int)):=by
 obtain rfl:=h.hlen;have hcap:=h.hcap;have hbig:=h.hbig;have hlt:=h.getD_lt i;refine zen Tryz.func262 ?_;have j:St E0 w X w X []:=St.start hX;refine zz 14<|zt 8 (p:=(i:Int)<(l.length:Int)) (fun q=>?_) (fun q=>?_);obtain⟨f,e,rfl,_⟩:=h.addr (by omega)
 refine zz 5<|zi (b:=f) (off:=e) (len:=l.length) (cap:=cap) (kd:= .i64) (i:=(i:Int)) 1 (e+i)<|zl ((h.cell (i:=i) (by omega)).mono (Le.refl _)).cells<|zz 1<|zs 13 (v:= .int .u64 (IntKind.u64.wrap (((l.getD i 0:Nat):Int)))) (v':= .int .u64 ((l.getD i 0:Nat):Int)) (zQ (nS (by omega) (by omega)))<|zz 5<|zr' (v:= .int .u64 ((l.getD i 0:Nat):Int)) ?_
 exact⟨j.upd,_,rfl,zQ (by first | rfl | (rw[zh,List.getElem?_eq_none (by omega)];rfl))⟩
 refine zz 9<|zr' (v:= .int .u64 0) ?_;exact⟨j.upd,_,rfl,zQ (by first | rfl | (rw[zh,List.getElem?_eq_none (by omega)];rfl))⟩
end
set_option maxHeartbeats 1000000
theorem zIm{len:Nat}(l:List Nat)(h:len=l.length):qV l≤len:=by rw[h];exact rQ l _
theorem mx1{l l2:List Nat}{k c:Nat}(j:¬0<c)(e:¬k<l.length)(f:¬k<l2.length){v:Nat}(h:v+c*4294967296^k=val (l.take k)+val (l2.take k)):v=val l+val l2:=by
 rw[List.take_of_length_le (by omega),List.take_of_length_le (by omega),show c=0 by omega]at h;omega
theorem zXt{ls:List Nat}{x:Nat}(h:∀y∈ls,y<4294967296)(f:x<4294967296):∀y∈ls++[x],y<4294967296:=fun y j=>by
 rcases List.mem_append.1 j with e | e
 ·exact h y e
 ·obtain rfl:=List.mem_singleton.1 e;exact f
theorem zAr{l:List Nat}{k:Nat}(h:l.length≤k):l.getD k 0=0:=by rw[zh,List.getElem?_eq_none h];rfl
theorem qIa(w:World)(X:Hid)(hX:∀k o,X k o→k<w.heap.size)(ad:Option Addr)(len cap:Nat)(l:List Nat)(h:zN (rd w X) ad len cap l)(C:Option Addr)(z P2:Nat)(l2:List Nat)(h2:zN (rd w X) C z P2 l2)(hm:len≤1000000)(hm2:z≤1000000):Calls Tryz.prog 218 #[.slice ad len cap,.slice C z P2] w (Ret E0 w fun w' v=>gL X w' v (val l+val l2)):=by
 obtain rfl:=h.hlen;obtain rfl:=h2.hlen;have hcap:=h.hcap;have hbig:=h.hbig;have hcap2:=h2.hcap;have hbig2:=h2.hbig;refine zen Tryz.func218 ?_;have C0:St E0 w X w X []:=St.start hX;refine zz 22<|zlp Tryz.f218 [] [1,1,1,0,1,0] (fun((k,j,J,c):Nat×(Option Addr)×Nat×Nat)=>[(0,.slice ad l.length cap),(1,.slice C l2.length P2),(5,.slice j k J),(6,.int .u64 (c:Int)),(7,.int .i64 (k:Int))]) (fun((k,j,J,c):Nat×(Option Addr)×Nat×Nat)w1=>∃(Y1:Hid)(Z:List (Nat×Obj))(ls:List Nat),St E0 w X w1 Y1 (Z)∧Le (rd w X) (rd w1 Y1)∧(gM 214 1 Z j k J (U32 ls))∧(ls.length=k)∧(∀x∈ls,x<4294967296)∧(val ls+c*4294967296^k=val (l.take k)+val (l2.take k))∧(c≤1)∧(k≤max l.length l2.length+1)∧(k=max l.length l2.length+1→c=0)) (fun((k,j,J,c):Nat×(Option Addr)×Nat×Nat)=>max l.length l2.length+1-k) (0,none,0,0) ?_ ?_;refine⟨_,[],[],C0,Le.refl _,gM.nil _ _,rfl,fun _ h=>absurd h (by simp),by simp[val],by omega,Nat.zero_le _,fun _=>rfl⟩
 rintro⟨k,j,J,c⟩ w2 K2 Z2 ⟨Y2,Z,ls,C2,y2,N,O,Q,R,S,T,U⟩;have hrw:=N;have V:=O;have hrt:=Q;have hv:=R;have hc:=S;have hk:=T;have hkc:=U;have hlt1:=h.getD_lt k;have hlt2:=h2.getD_lt k;refine zz 1 ?_;refine jCy (fun(f:Bool)=>[(0,.slice ad l.length cap),(1,.slice C l2.length P2),(5,.slice j k J),(6,.int .u64 (c:Int)),(7,.int .i64 (k:Int)),(22,.bool f)]) (fun f w1=>∃Y1:Hid,St E0 w X w1 Y1 (Z)∧Le (rd w2 Y2) (rd w1 Y1)∧(f=true↔(k<l.length∨k<l2.length∨0<c))) ?_ ?_;rintro f w3 ⟨Y3,C3,y3,G⟩;refine zb 22 (b:=f) (fun J4=>?_) (fun J4=>?_);have F5:f=true:=by simpa using J4
 have hgo:=G.1 F5;refine zz 9<|zc C3 (nG _ X0 (zZ _) _ _ _ l ((h.mono (Le2 y2 y3)).mono Le.x0) k) ?_;rintro v7 w7 C7 y7 N7 rfl;refine zz 2<|zc C7 (nG _ X0 (zZ _) _ _ _ l2 ((h2.mono (Le3 y2 y3 y7)).mono Le.x0) k) ?_;rintro v9 w9 C9 y9 N9 rfl;refine zz 1<|zs 31 (v:= .int .u64 (IntKind.u64.wrap (((l.getD k 0:Nat):Int)+((l2.getD k 0:Nat):Int)))) (v':= .int .u64 (((l.getD k 0:Nat):Int)+((l2.getD k 0:Nat):Int))) (zQ (nS (by omega) (by omega)))<|zz 2<|zs 33 (v:= .int .u64 (IntKind.u64.wrap ((((l.getD k 0:Nat):Int)+((l2.getD k 0:Nat):Int))+(c:Int)))) (v':= .int .u64 (((l.getD k 0+l2.getD k 0+c):Nat):Int)) (zQ ((nS (by omega) (by omega)).trans (by omega)))<|zz 8<|zs 36 (v:= .int .u64 (Int.tmod ((((l.getD k 0+l2.getD k 0+c):Nat):Int)) (4294967296))) (v':= .int .u64 (((l.getD k 0+l2.getD k 0+c) % 4294967296:Nat):Int)) (zQ (by rfl))<|zz 1<|zs 37 (v:= .int .u32 (IntKind.u32.wrap ((((l.getD k 0+l2.getD k 0+c) % 4294967296:Nat):Int)))) (v':= .int .u32 (((l.getD k 0+l2.getD k 0+c) % 4294967296:Nat):Int)) (zQ (qIu (by omega) (by omega)))<|zn (fun b=> .slice (some ⟨b,0,none⟩) 1 1) (.cells #[.int .u32 (((l.getD k 0+l2.getD k 0+c) % 4294967296:Nat):Int)] 214 (0,0)) C9 fun b11 w11 Y11 C11 y11 N11=>?_
 refine zop (at1 [K2] Tryz.f218 [1,1,1,0,1,0,0,1,0,0,1,0]) 5 (fun a12 _ G12 hz12=>zQf (b:=4) (m:=1) (c:=1) (ad:=⟨b11,0,none⟩) (news:=[.int .u32 (((l.getD k 0+l2.getD k 0+c) % 4294967296:Nat):Int)]) (i0:=Tryz.t214) (R1:=[]) 1 G12 C11 rfl hrw (C11.cells 0 rfl rfl) (by omega) (by omega) ?_)
 intro I D P13 w13 Y13 D13 C13 y13 a14 G14;have W:gM 214 1 I D (k+1) P13 (U32 (ls++[(l.getD k 0+l2.getD k 0+c) % 4294967296])):=by rw[←zOf];exact D13
 refine hz12 G14<|zz 6<|zs 41 (v:= .int .u64 (IntKind.u64.wrap (Int.tdiv ((((l.getD k 0+l2.getD k 0+c):Nat):Int)) (4294967296)))) (v':= .int .u64 (((l.getD k 0+l2.getD k 0+c) / 4294967296:Nat):Int)) (zQ (zNy _ (by omega)))<|zz 7<|zw 24 (x:=(k:Int)+1)<|zz 2 ?_
 have J1_:=(Le5 y2 y3 y7 y9 y11).trans y13;refine kL (fun a h=>Z2 ((k+1,D,P13,(l.getD k 0+l2.getD k 0+c) / 4294967296)) _ a h ⟨_,I,(ls++[(l.getD k 0+l2.getD k 0+c) % 4294967296]),C13.tail,J1_,W,by rw[List.length_append,V];rfl,zXt hrt (by omega),qOn _ _ _ _ _ V hv,by omega,by omega,fun hk9=>by have e1:l.getD k 0=0:=zAr (by omega);have e2:l2.getD k 0=0:=zAr (by omega);omega⟩ ?_)
 first | omega | (simp<;>omega)
 have F15:f=false:=by simpa using J4
 have M:¬(k<l.length∨k<l2.length∨0<c):=fun e=>by rw[G.2 e]at F15;cases F15
 have hend:=mx1 (fun e=>M (.inr (.inr e))) (fun e=>M (.inl e)) (fun e=>M (.inr (.inl e))) hv;refine zz 9 ?_;obtain⟨Y17,L,y17,q⟩:=St.pubLimbs (A:=[]) (B:=[]) (fun Z=>(Z)) C3 (fun _=>by simp only[List.append_assoc,List.cons_append,List.nil_append,List.append_nil]) hrw V.symm hrt
 have C17:St E0 w X w3 Y17 []:=L;refine zc C17 (zGl _ _ C17.lt _ _ _ ls q) ?_;rintro v18 w18 C18 y18 N18 rfl;refine zz 4<|zr' (v:= .slice j (qV ls) J) ?_;exact⟨C18.upd,_,rfl,_,_,_,rfl,_,((q.sub (zIm _ q.hlen)).mono (Le.trans y18 C18.le)),qY _,by rw[show List.take (qV ls) ls=Go.Gv.trimmed ls from rfl,jK];exact hend⟩
 intro K19 K;refine zz 6<|zt 13 (p:=(k:Int)<(l.length:Int)) (fun F20=>?_) (fun F20=>?_);refine zz 10 ?_;exact kL (fun a h=>K true _ a h ⟨_,C2,(Le.refl _),by first | exact⟨fun _=>by omega,fun _=>rfl⟩ | exact⟨fun e=>by have:=of_decide_eq_true e;omega,fun e=>decide_eq_true (by omega)⟩⟩)
 refine zz 6<|zt 19 (p:=(k:Int)<(l2.length:Int)) (fun F21=>?_) (fun F21=>?_);refine zz 4 ?_;exact kL (fun a h=>K true _ a h ⟨_,C2,(Le.refl _),by first | exact⟨fun _=>by omega,fun _=>rfl⟩ | exact⟨fun e=>by have:=of_decide_eq_true e;omega,fun e=>decide_eq_true (by omega)⟩⟩)
 refine zz 4 ?_;exact kL (fun a h=>K (decide ((c:Int)>0)) _ a h ⟨_,C2,(Le.refl _),by first | exact⟨fun _=>by omega,fun _=>rfl⟩ | exact⟨fun e=>by have:=of_decide_eq_true e;omega,fun e=>decide_eq_true (by omega)⟩⟩)
set_option maxHeartbeats 1000000
theorem zVj(w:World)(X:Hid)(hX:∀k o,X k o→k<w.heap.size)(ad:Option Addr)(len cap:Nat)(l:List Nat)(h:zN (rd w X) ad len cap l)(D:Option Addr)(z P2:Nat)(l2:List Nat)(V:zN (rd w X) D z P2 l2)(hm:len≤1000000)(hll:l2.length≤l.length)(hle:val l2≤val l):Calls Tryz.prog 220 #[.slice ad len cap,.slice D z P2] w (Ret E0 w fun w' v=>gL X w' v (val l-val l2)):=by
 obtain rfl:=h.hlen;obtain rfl:=V.hlen;have hcap:=h.hcap;have hbig:=h.hbig;have hcap2:=V.hcap;have hbig2:=V.hbig;refine zen Tryz.func220 ?_;have C0:St E0 w X w X []:=St.start hX;refine zz 22<|zlp Tryz.f220 [] [1,1,1,0,1,0] (fun((k,e,R,c):Nat×(Option Addr)×Nat×Nat)=>[(0,.slice ad l.length cap),(1,.slice D l2.length P2),(5,.slice e k R),(6,.int .u64 (c:Int)),(7,.int .i64 (k:Int))]) (fun((k,e,R,c):Nat×(Option Addr)×Nat×Nat)w1=>∃(Y1:Hid)(rb:List (Nat×Obj))(ls:List Nat),St E0 w X w1 Y1 (rb)∧Le (rd w X) (rd w1 Y1)∧(gM 214 1 rb e k R (U32 ls))∧(ls.length=k)∧(∀x∈ls,x<4294967296)∧(val ls+val (l2.take k)=val (l.take k)+c*4294967296^k)∧(c≤1)∧(k≤l.length)) (fun((k,e,R,c):Nat×(Option Addr)×Nat×Nat)=>l.length-k) (0,none,0,0) ?_ ?_;refine⟨_,[],[],C0,Le.refl _,gM.nil _ _,rfl,fun _ h=>absurd h (by simp),by simp[val],by omega,Nat.zero_le _⟩
 rintro⟨k,e,R,c⟩ w2 K2 Z2 ⟨Y2,rb,ls,C2,y2,I,J,K,L,M,N⟩;have hrw:=I;have j:=J;have O:=K;have hv:=L;have hc:=M;have hk:=N;have Z:=h.getD_lt k;have hlt2:=V.getD_lt k;refine zz 9<|zt 12 (p:=(k:Int)<(l.length:Int)) (fun F3=>?_) (fun F3=>?_);refine zz 9<|zc C2 (nG _ X0 (zZ _) _ _ _ l ((h.mono y2).mono Le.x0) k) ?_;rintro v5 w5 C5 y5 N5 rfl;refine zz 1<|zs 18 (v:= .int .u64 (IntKind.u64.wrap ((4294967296:Int)+((l.getD k 0:Nat):Int)))) (v':= .int .u64 ((4294967296:Int)+((l.getD k 0:Nat):Int))) (zQ (nS (by omega) (by omega)))<|zz 2<|zc C5 (nG _ X0 (zZ _) _ _ _ l2 ((V.mono (Le2 y2 y5)).mono Le.x0) k) ?_
 rintro v7 w7 C7 y7 N7 rfl;refine zz 1<|zs 22 (v:= .int .u64 (IntKind.u64.wrap (((4294967296:Int)+((l.getD k 0:Nat):Int))-((l2.getD k 0:Nat):Int)))) (v':= .int .u64 (((4294967296:Int)+((l.getD k 0:Nat):Int))-((l2.getD k 0:Nat):Int))) (zQ (nS (by omega) (by omega)))<|zz 2<|zs 24 (v:= .int .u64 (IntKind.u64.wrap ((((4294967296:Int)+((l.getD k 0:Nat):Int))-((l2.getD k 0:Nat):Int))-(c:Int)))) (v':= .int .u64 (((4294967296+l.getD k 0-l2.getD k 0-c):Nat):Int)) (zQ ((nS (by omega) (by omega)).trans (by omega)))<|zz 8<|zs 27 (v:= .int .u64 (Int.tmod ((((4294967296+l.getD k 0-l2.getD k 0-c):Nat):Int)) (4294967296))) (v':= .int .u64 (((4294967296+l.getD k 0-l2.getD k 0-c) % 4294967296:Nat):Int)) (zQ (by rfl))<|zz 1<|zs 28 (v:= .int .u32 (IntKind.u32.wrap ((((4294967296+l.getD k 0-l2.getD k 0-c) % 4294967296:Nat):Int)))) (v':= .int .u32 (((4294967296+l.getD k 0-l2.getD k 0-c) % 4294967296:Nat):Int)) (zQ (qIu (by omega) (by omega)))<|zn (fun b=> .slice (some ⟨b,0,none⟩) 1 1) (.cells #[.int .u32 (((4294967296+l.getD k 0-l2.getD k 0-c) % 4294967296:Nat):Int)] 214 (0,0)) C7 fun b9 w9 Y9 C9 y9 N9=>?_
 refine zop (at1 [K2] Tryz.f220 [1,1,1,0,1,0,0,1,0,0,1,0]) 5 (fun a10 _ G10 hz10=>zQf (b:=4) (m:=1) (c:=1) (ad:=⟨b9,0,none⟩) (news:=[.int .u32 (((4294967296+l.getD k 0-l2.getD k 0-c) % 4294967296:Nat):Int)]) (i0:=Tryz.t214) (R1:=[]) 1 G10 C9 rfl hrw (C9.cells 0 rfl rfl) (by omega) (by omega) ?_)
 intro C q U w11 Y11 D11 C11 y11 a12 G12;have Q:gM 214 1 C q (k+1) U (U32 (ls++[(4294967296+l.getD k 0-l2.getD k 0-c) % 4294967296])):=by rw[←zOf];exact D11
 refine hz10 G12<|zz 6<|zs 32 (v:= .int .u64 (IntKind.u64.wrap (Int.tdiv ((((4294967296+l.getD k 0-l2.getD k 0-c):Nat):Int)) (4294967296)))) (v':= .int .u64 (((4294967296+l.getD k 0-l2.getD k 0-c) / 4294967296:Nat):Int)) (zQ (zNy _ (by omega)))<|zz 1<|zs 33 (v:= .int .u64 (IntKind.u64.wrap ((1:Int)-(((4294967296+l.getD k 0-l2.getD k 0-c) / 4294967296:Nat):Int)))) (v':= .int .u64 ((1-(4294967296+l.getD k 0-l2.getD k 0-c) / 4294967296:Nat):Int)) (zQ ((nS (by omega) (by omega)).trans (by omega)))<|zz 7<|zw 14 (x:=(k:Int)+1)<|zz 2 ?_
 have J1_:=(Le4 y2 y5 y7 y9).trans y11;refine kL (fun a h=>Z2 ((k+1,q,U,(1-(4294967296+l.getD k 0-l2.getD k 0-c) / 4294967296))) _ a h ⟨_,C,(ls++[(4294967296+l.getD k 0-l2.getD k 0-c) % 4294967296]),C11.tail,J1_,Q,by rw[List.length_append,j];rfl,zXt O (by omega),qCy _ _ _ _ _ j Z hlt2 hc hv,by omega,by omega⟩ ?_)
 first | omega | (simp<;>omega)
 have W:=qCx j (by omega) O hll hle hc hv
 refine zz 9 ?_;obtain⟨Y14,G,y14,f⟩:=St.pubLimbs (A:=[]) (B:=[]) (fun rb=>(rb)) C2 (fun _=>by simp only[List.append_assoc,List.cons_append,List.nil_append,List.append_nil]) hrw j.symm O
 have S:St E0 w X w2 Y14 []:=G;refine zc S (zGl _ _ S.lt _ _ _ ls f) ?_;rintro v15 w15 T y15 N15 rfl;refine zz 4<|zr' (v:= .slice e (qV ls) R) ?_;exact⟨T.upd,_,rfl,_,_,_,rfl,_,((f.sub (zIm _ f.hlen)).mono (Le.trans y15 T.le)),qY _,by rw[show List.take (qV ls) ls=Go.Gv.trimmed ls from rfl,jK];exact W⟩
theorem zQk(w:World)(X:Hid)(hX:∀k o,X k o→k<w.heap.size)(ad:Option Addr)(len cap:Nat)(l:List Nat)(h:zN (rd w X) ad len cap l)(f:Option Addr)(e O:Nat)(l2:List Nat)(q:zN (rd w X) f e O l2)(hm:len≤1000000)(hm2:e≤1000000):Calls Tryz.prog 219 #[.slice ad len cap,.slice f e O] w (Ret E0 w fun _ v=>v= .int .i64 (qM (val l) (val l2))):=by
 obtain rfl:=h.hlen;obtain rfl:=q.hlen;have hcap:=h.hcap;have hbig:=h.hbig;have R:=q.hcap;have Q:=q.hbig;refine zen Tryz.func219 ?_;have C0:St E0 w X w X []:=St.start hX;refine zz 13<|zs 10 (v:= .int .i64 (if(l2.length:Int)>(l.length:Int)then(l2.length:Int)else(l.length:Int))) (v':= .int .i64 ((max l.length l2.length:Nat):Int)) (zQ (by split<;>omega))<|zz 1<|zw 11 (x:=((max l.length l2.length:Nat):Int)-1)<|zz 4<|zlp Tryz.f219 [] [1,0,1,0] (fun(k:Nat)=>[(0,.slice ad l.length cap),(1,.slice f l2.length O),(5,.int .i64 ((k:Int)-1))]) (fun(k:Nat)w1=>∃(Y1:Hid),St E0 w X w1 Y1 []∧Le (rd w X) (rd w1 Y1)∧(k≤max l.length l2.length)∧(∀j,k≤j→l.getD j 0=l2.getD j 0)) (fun(k:Nat)=>k) (max l.length l2.length) ?_ ?_
 refine⟨_,C0,Le.refl _,Nat.le_refl _,fun j S=>(zAr (by omega)).trans (zAr (by omega)).symm⟩
 rintro k w2 K2 Z2 ⟨Y2,W,K,z,A⟩;have hk:=z;have J:=A;have hlt1:=h.getD_lt (k-1);have hlt2:=q.getD_lt (k-1);refine zz 7<|zt 13 (p:=((k:Int)-1)≥0) (fun F3=>?_) (fun F3=>?_);refine zz 10<|zs 17 (v:= .int .i64 ((k:Int)-1)) (v':= .int .i64 ((k-1:Nat):Int)) (zQ (by omega))<|zc W (nG _ X0 (zZ _) _ _ _ l ((h.mono K).mono Le.x0) (k-1)) ?_
 rintro v5 w5 C5 V N5 rfl;refine zz 2<|zs 20 (v:= .int .i64 ((k:Int)-1)) (v':= .int .i64 ((k-1:Nat):Int)) (zQ (by omega))<|zc C5 (nG _ X0 (zZ _) _ _ _ l2 ((q.mono (Le2 K V)).mono Le.x0) (k-1)) ?_
 rintro v7 w7 Z y7 N7 rfl;refine zz 3<|zt 22 (p:=((l.getD (k-1) 0:Nat):Int)<((l2.getD (k-1) 0:Nat):Int)) (fun F8=>?_) (fun F8=>?_);refine zz 13<|zr' (v:= .int .i64 (-1)) ?_;exact⟨Z.upd,_,rfl,zQ (Eq.symm (by have I:=qGl h.hlt (k:=k-1) (fun j S=>J j (by omega)) (by omega);unfold qM;rw[if_pos (by omega)]))⟩
 refine zz 7<|zs 24 (v:= .int .i64 ((k:Int)-1)) (v':= .int .i64 ((k-1:Nat):Int)) (zQ (by omega))<|zc Z (nG _ X0 (zZ _) _ _ _ l ((h.mono (Le3 K V y7)).mono Le.x0) (k-1)) ?_
 rintro v10 w10 L T N10 rfl;refine zz 2<|zs 27 (v:= .int .i64 ((k:Int)-1)) (v':= .int .i64 ((k-1:Nat):Int)) (zQ (by omega)) ?_
 have D:=(Le3 K V y7).trans T;refine zc L (nG _ X0 (zZ _) _ _ _ l2 ((q.mono D).mono Le.x0) (k-1)) ?_;rintro v12 w12 C U N12 rfl;refine zz 3<|zt 29 (p:=((l.getD (k-1) 0:Nat):Int)>((l2.getD (k-1) 0:Nat):Int)) (fun M=>?_) (fun M=>?_);refine zz 12<|zr' (v:= .int .i64 1) ?_;exact⟨C.upd,_,rfl,zQ (Eq.symm (by have I:=qGl q.hlt (k:=k-1) (fun j S=>(J j (by omega)).symm) (by omega);unfold qM;rw[if_neg (by omega),if_pos (by omega)]))⟩
 refine zz 7<|zs 15 (v:= .int .i64 (i64.wrap (((k:Int)-1)-1))) (v':= .int .i64 (((k-1:Nat):Int)-1)) (zQ ((aZ (by omega) (by omega)).trans (by omega)))<|zz 2 ?_
 have N:=D.trans U;refine kL (fun a h=>Z2 (k-1) _ a h ⟨_,C,N,by omega,fun j S=>by rcases Nat.lt_or_ge j k with I | I;obtain rfl:j=k-1:=(by omega);omega;exact J j I⟩ ?_)
 first | omega | (simp<;>omega)
 have G:=zBy l l2 (fun j=>J j (by omega))
 refine zz 12<|zr' (v:= .int .i64 0) ?_;exact⟨W.upd,_,rfl,zQ (Eq.symm (by unfold qM;rw[G,if_neg (Int.lt_irrefl _),if_neg (Int.lt_irrefl _)]))⟩
set_option maxHeartbeats 1000000
theorem zVq(w:World)(X:Hid)(hX:∀k o,X k o→k<w.heap.size)(x:Nat)(I:x<18446744073709551616):Calls Tryz.prog 176 #[.int .u64 (x:Int)] w (Ret E0 w fun w' v=>gL X w' v x):=by
 refine zen Tryz.func176 ?_;have q:St E0 w X w X []:=St.start hX;refine zz 9<|zs 4 (v:= .int .u64 (Int.tmod ((x:Int)) (4294967296))) (v':= .int .u64 ((x % 4294967296:Nat):Int)) (zQ (by rfl))<|zz 1<|zs 5 (v:= .int .u32 (IntKind.u32.wrap (((x % 4294967296:Nat):Int)))) (v':= .int .u32 ((x % 4294967296:Nat):Int)) (zQ (qIu (by omega) (by omega)))<|zz 2<|zs 7 (v:= .int .u64 (IntKind.u64.wrap (Int.tdiv ((x:Int)) (4294967296)))) (v':= .int .u64 ((x / 4294967296:Nat):Int)) (zQ (zNy _ (by omega)))<|zz 1<|zs 8 (v:= .int .u32 (IntKind.u32.wrap (((x / 4294967296:Nat):Int)))) (v':= .int .u32 ((x / 4294967296:Nat):Int)) (zQ (qIu (by omega) (by omega)))<|zn (fun b=> .slice (some ⟨b,0,none⟩) 2 2) (.cells #[.int .u32 ((x % 4294967296:Nat):Int),.int .u32 ((x / 4294967296:Nat):Int)] 214 (0,0)) q fun b3 K G f M C=>?_
 have j:zX 2 2 #[.int .u32 ((x % 4294967296:Nat):Int),.int .u32 ((x / 4294967296:Nat):Int)] [x % 4294967296,x / 4294967296]:=zX.of [x % 4294967296,x / 4294967296] (by intro y A;simp at A;omega) (by simp[maxLen]) (by simp[U32]) (by simp)
 refine zc f (zGl _ X0 (zZ _) _ _ _ ([x % 4294967296,x / 4294967296]) (zX.limbs (Y:=X0) j (f.get 0 rfl) (fun _ h=>h.elim))) ?_ (vs:=#[.slice (some ⟨b3,0,none⟩) 2 2]);rintro J L e N D rfl;refine zz 4<|zr' (v:= .slice (some ⟨b3,0,none⟩) (qV ([x % 4294967296,x / 4294967296])) 2) ?_;exact⟨e.upd,_,rfl,_,_,_,rfl,_,zX.limbs (j.trimmed) (e.get 0 rfl) (fun o z=>Nat.not_lt.2 (e.own_ge 0 rfl) (hX _ _ z)),qY _,by rw[jK];simp only[val];omega⟩
set_option maxHeartbeats 1000000
theorem qKh(w:World)(X:Hid)(hX:∀k o,X k o→k<w.heap.size)(ad:Option Addr)(len cap:Nat)(l:List Nat)(h:zN (rd w X) ad len cap l)(q:Option Addr)(f L:Nat)(l2:List Nat)(A:zN (rd w X) q f L l2)(Z:len≤100000)(V:f≤100000)(S:zW l)(T:zW l2)(hd:0<val l2)(I:l.length<l2.length):Calls Tryz.prog 175 #[.slice ad len cap,.slice q f L] w (Ret E0 w fun w' v=>∃u M,v= .tuple #[u,M]∧gL X w' u (val l / val l2)∧gL X w' M (val l % val l2)):=by
 obtain rfl:=h.hlen;obtain rfl:=A.hlen;have hcap:=h.hcap;have hbig:=h.hbig;have G:=A.hcap;have D:=A.hbig;have j:=jCa h.hlt T I;refine zen Tryz.func175 ?_;have N:St E0 w X w X []:=St.start hX;refine zz 13<|zw 14 (x:=(l.length:Int)-(l2.length:Int))<|zz 1<|zs 15 (v:= .int .i64 (i64.wrap (((l.length:Int)-(l2.length:Int))+1))) (v':= .int .i64 ((l.length:Int)-(l2.length:Int)+1)) (zQ (aZ (by omega) (by omega)))<|zz 10<|zt 17 (p:=((l.length:Int)-(l2.length:Int)+1)≤0) (fun O=>?_) (fun O=>?_)
 refine zz 4<|zop (at1 [] Tryz.f175 [1,1,0,1,0,0]) 1 (fun a3 _ Q J=>zNc (e:=214) (i0:=Tryz.t214) Q N h (by first | omega | (simp;omega)) ?_)
 intro z U w4 K y4 C W R;refine J R<|zz 6<|zr' (v:= .tuple #[.slice none 0 0,.slice z l.length U]) ?_;exact⟨K.upd,_,rfl,_,_,rfl,⟨_,_,_,rfl,[],zN.nil none (by omega),.inl rfl,(Nat.div_eq_of_lt j).symm⟩,⟨_,_,_,rfl,l,(C).mono K.le,S,(Nat.mod_eq_of_lt j).symm⟩⟩
 omega
theorem qKg(w:World)(X:Hid)(hX:∀k o,X k o→k<w.heap.size)(ad:Option Addr)(len cap:Nat)(l:List Nat)(h:zN (rd w X) ad len cap l)(ad2:Option Addr)(len2 P2:Nat)(l2:List Nat)(h2:zN (rd w X) ad2 len2 P2 l2)(hm:len≤100000)(hm2:len2≤100000)(J1:zW l)(J2:zW l2)(hd:0<val l2)(N:Nat)(hN:l.length+1=N+l2.length)(h0:0<N):Calls Tryz.prog 175 #[.slice ad len cap,.slice ad2 len2 P2] w (Ret E0 w fun w' v=>∃u u2,v= .tuple #[u,u2]∧gL X w' u (val l / val l2)∧gL X w' u2 (val l % val l2)):=by
 obtain rfl:=h.hlen;obtain rfl:=h2.hlen;have hcap:=h.hcap;have hbig:=h.hbig;have hcap2:=h2.hcap;have hbig2:=h2.hbig;have hl2:=qNv hd;refine zen Tryz.func175 ?_;have C0:St E0 w X w X []:=St.start hX;refine zz 13<|zw 14 (x:=(l.length:Int)-(l2.length:Int))<|zz 1<|zs 15 (v:= .int .i64 (i64.wrap (((l.length:Int)-(l2.length:Int))+1))) (v':= .int .i64 (N:Int)) (zQ ((aZ (by omega) (by omega)).trans (by omega)))<|zz 10<|zt 17 (p:=(N:Int)≤0) (fun F2=>?_) (fun F2=>?_)
 omega;refine zz 6<|zop (at1 [] Tryz.f175 [1,1,1,0]) 1 (fun a3 _ G3 hz3=>zBd (l:=(N:Int)) (e:=214) (z:= .int .u32 0) (i0:=Tryz.t214) N 4 G3 C0 ?_);intro b4 w4 Y4 C4 y4 N4 a5 G5;have D4:=zX.zeros N (by simp only[maxLen];omega)
 refine hz3 G5<|zz 7<|zop (at1 [] Tryz.f175 [1,1,1,1,0]) 2 (fun a6 _ G6 hz6=>zE (d:=24) (v:= .slice (adF ad cap N) (l.length-N) (cap-N)) G6 kr (zJk (t:=26) (e:=214) (ad:=ad) (len:=l.length) (cap:=cap) (k:=N) (kd:= .i64) (g:=false) rfl kr kr kr kr (by omega) _) ?_)
 intro a7 G7;refine hz6 G7<|zop (at1 [] Tryz.f175 [1,1,1,1,0]) 3 (fun a8 _ G8 hz8=>zNc (e:=214) (i0:=Tryz.t214) G8 C4 ((h.drop (k:=N) (by omega)).mono y4) (by first | omega | (simp;omega)) ?_)
 intro ad9 P9 w9 C9 y9 hL9 a10 G10;refine hz8 G10<|zc C9 (zGl _ _ C9.lt _ _ _ (l.drop N) hL9) ?_;rintro v12 w12 C12 y12 N12 rfl;have hT13:=((hL9.mono y12)).sub (zIm _ ((hL9.mono y12)).hlen);refine zz 8<|zw 28 (x:=(32:Int)*(N:Int))<|zz 1<|zs 29 (v:= .int .i64 (i64.wrap (((32:Int)*(N:Int))-1))) (v':= .int .i64 (((32*N:Nat):Int)-1)) (zQ ((aZ (by omega) (by omega)).trans (by omega)))<|zz 4<|zlp Tryz.f175 [] [1,1,1,1,1,0,1,0] (fun((k,U,J,A):Nat×(Option Addr)×Nat×Nat)=>[(0,.slice ad l.length cap),(1,.slice ad2 l2.length P2),(7,.slice (some ⟨b4,0,none⟩) N N),(8,.slice U J A),(9,.int .i64 ((k:Int)-1))]) (fun((k,U,J,A):Nat×(Option Addr)×Nat×Nat)w1=>∃(Y1:Hid)(C:Array Value)(lq:List Nat)(lr:List Nat)(q:Nat),St E0 w X w1 Y1 [(b4,.cells C 214 (0,0))]∧Le (rd w12 Y4) (rd w1 Y1)∧(zX N N C lq)∧(zN (rd w1 Y1) U J A lr)∧(zW lr)∧(val lq=2^k*q)∧(val l / 2^k=q*val l2+val lr)∧(val lr<val l2)∧(k≤32*N)) (fun((k,U,J,A):Nat×(Option Addr)×Nat×Nat)=>k) ((32*N),ad9,qV (l.drop N),P9) ?_ ?_
 refine⟨_,(List.replicate N (Value.int .u32 0)).toArray,(List.replicate N 0),(Go.Gv.trimmed (l.drop N)),0,C12,Le.refl _,D4,hT13,qY _,by rw[vJ];simp,by rw[Nat.zero_mul,Nat.zero_add,jK];exact qIn l h.hlt N (by omega),by rw[jK];exact qKk h.hlt J2 hd hN,Nat.le_refl _⟩
 rintro⟨k,U,J,A⟩ w14 Z Z14 ⟨Y14,C,lq,lr,q,C14,y14,hp14_0,hp14_1,hp14_2,hp14_3,hp14_4,hp14_5,hp14_6⟩;have f:=hp14_0;have hr:=hp14_1;have hcanr:=hp14_2;have Q:=hp14_3;have hdiv:=hp14_4;have hlt:=hp14_5;have hkN:=hp14_6;have hrlen:=hr.hlen;have hrl:=qB h2.hlt hcanr (Nat.le_of_lt hlt);obtain rfl:=hrlen;refine zz 7<|zt 31 (p:=((k:Int)-1)≥0) (fun F15=>?_) (fun F15=>?_);obtain⟨i,rfl⟩:∃i,k=i+1:=⟨k-1,by omega⟩
 obtain⟨b1,off1,rfl,_⟩:=h.addr (by omega)
 refine zz 9<|zc C14 (qIa _ _ C14.lt _ _ _ lr hr _ _ _ lr hr (by first | omega | (simp;done) | (simp;omega)) (by first | omega | (simp;done) | (simp;omega))) ?_
 rintro v17 w17 C17 y17 N17 ⟨ad17,len17,P17,rfl,K,D,R,hval17⟩;have hlen17:=D.hlen;have hdl17:=zJo R h2.hlt hlt (by omega)
 refine zz 8<|zs 38 (v:= .int .i64 (((i+1:Nat):Int)-1)) (v':= .int .i64 (i:Int)) (zQ (by omega))<|zz 1<|zs 39 (v:= .int .i64 (i64.wrap (Int.tdiv ((i:Int)) (32)))) (v':= .int .i64 ((i / 32:Nat):Int)) (zQ (dJ _ (by omega)))<|zi (b:=b1) (off:=off1) (len:=l.length) (cap:=cap) (kd:= .i64) (i:=((i / 32:Nat):Int)) 1 (off1+i / 32) ?_
 have J1_:=(Le4 y4 y9 y12 y14).trans y17;refine zl ((h.cell (i:=i / 32) (by omega)).mono J1_).cells<|zz 1<|zs 42 (v:= .int .i64 (((i+1:Nat):Int)-1)) (v':= .int .i64 (i:Int)) (zQ (by omega))<|zz 1<|zs 43 (v:= .int .i64 (Int.tmod ((i:Int)) (32))) (v':= .int .i64 ((i % 32:Nat):Int)) (zQ (zDt _))<|zz 1<|zs 44 (v:= .int .u64 (IntKind.u64.wrap (((i % 32:Nat):Int)))) (v':= .int .u64 ((i % 32:Nat):Int)) (zQ (nS (by omega) (by omega)))<|zop (at1 [Z] Tryz.f175 [1,1,1,1,1,0,1,0,0,1,0,0,1,0,0]) 8 (fun a18 _ G18 hz18=>zE (d:=45) (v:= .int .u32 ((l.getD (i / 32) 0 / 2^(i % 32):Nat):Int)) G18 kr (qHo rfl rfl rfl (by omega)) ?_)
 intro a19 G19;refine hz18 G19<|zz 1<|zs 46 (v:= .int .u32 (Int.tmod (((l.getD (i / 32) 0 / 2^(i % 32):Nat):Int)) (2))) (v':= .int .u32 (((val l / 2^i % 2):Nat):Int)) (zQ (by rw[←zGn l h.hlt i (by omega)];rfl))<|zz 3<|zb 47 (b:=((((val l / 2^i % 2):Nat):Int)==1)) (fun J20=>?_) (fun J20=>?_)
 have F21:(((val l / 2^i % 2):Nat):Int)=1:=by simpa using J20
 have j:val l / 2^i % 2=1:=Int.ofNat_inj.1 F21;refine zz 3<|zn (fun b=> .slice (some ⟨b,0,none⟩) 1 1) (.cells #[.int .u32 1] 214 (0,0)) C17 fun b23 w23 Y23 C23 y23 N23=>?_;obtain⟨hSx25,y25,hat25⟩:=St.publish C23 (C23.own_ge 0 rfl);have C25:St E0 w X w23 (zXn b23 Y23) [(b4,.cells C 214 (0,0))]:=hSx25;have hL25:=qYj (x:=1) hat25 (by omega)
 refine zc C25 (qIa _ _ C25.lt _ _ _ K (D.mono (Le2 y23 y25)) _ _ _ ([1]) hL25 (by first | omega | (simp;done) | (simp;omega)) (by first | omega | (simp;done) | (simp;omega))) ?_
 rintro v26 w26 C26 y26 N26 ⟨ad26,len26,P26,rfl,T,G,S,hval26⟩;have hlen26:=G.hlen;have hv126:val [1]=1:=rfl;have hdl26:=zJo S h2.hlt hlt (by omega)
 refine zz 7 ?_;have J2_:=((J1_.trans y23).trans y25).trans y26;refine zc C26 (zQk _ _ C26.lt _ _ _ T G _ _ _ l2 (h2.mono J2_) (by first | omega | (simp;done) | (simp;omega)) (by first | omega | (simp;done) | (simp;omega))) ?_
 rintro v28 w28 C28 V N28 rfl;refine zz 3<|zt 54 (p:=(qM (val T) (val l2))≥0) (fun F29=>?_) (fun F29=>?_);have I:=zAj F29;obtain⟨L,M,O⟩:=zNo lq f.lt i q (by rw[f.len];omega) Q
 refine zz 5 ?_;have J3_:=J2_.trans V;refine zc C28 (zVj _ _ C28.lt _ _ _ T (G.mono V) _ _ _ l2 (h2.mono J3_) (by first | omega | (simp;done) | (simp;omega)) (qB ((G.mono V)).hlt J2 I) (by omega)) ?_
 rintro v31 w31 C31 y31 N31 ⟨ad31,len31,P31,rfl,ls31,hL31,hcan31,hval31⟩;have hlen31:=hL31.hlen;refine zz 6<|zs 59 (v:= .int .i64 (((i+1:Nat):Int)-1)) (v':= .int .i64 (i:Int)) (zQ (by omega))<|zz 1<|zs 60 (v:= .int .i64 (i64.wrap (Int.tdiv ((i:Int)) (32)))) (v':= .int .i64 ((i / 32:Nat):Int)) (zQ (dJ _ (by omega)))<|zz 2<|zs 62 (v:= .int .i64 (((i+1:Nat):Int)-1)) (v':= .int .i64 (i:Int)) (zQ (by omega))<|zz 1<|zs 63 (v:= .int .i64 (i64.wrap (Int.tdiv ((i:Int)) (32)))) (v':= .int .i64 ((i / 32:Nat):Int)) (zQ (dJ _ (by omega)))<|zi (b:=b4) (off:=0) (len:=N) (cap:=N) (kd:= .i64) (i:=((i / 32:Nat):Int)) 1 (i / 32) ?_
 refine zl (ad:=⟨b4,i / 32,none⟩) (C31.rowCells 0 rfl f (by have:=f.len;(try simp only[List.length_set]at *);omega))<|zz 1<|zs 66 (v:= .int .i64 (((i+1:Nat):Int)-1)) (v':= .int .i64 (i:Int)) (zQ (by omega))<|zz 1<|zs 67 (v:= .int .i64 (Int.tmod ((i:Int)) (32))) (v':= .int .i64 ((i % 32:Nat):Int)) (zQ (zDt _))<|zz 1<|zs 68 (v:= .int .u64 (IntKind.u64.wrap (((i % 32:Nat):Int)))) (v':= .int .u64 ((i % 32:Nat):Int)) (zQ (nS (by omega) (by omega)))<|zop (at1 [Z] Tryz.f175 [1,1,1,1,1,0,1,0,0,1,0,0,1,1,1,0,1]) 11 (fun a32 _ G32 hz32=>zE (d:=69) (v:= .int .u32 ((2^(i % 32):Nat):Int)) G32 kr (zLb rfl rfl rfl (by omega)) ?_)
 intro a33 G33;refine hz32 G33<|zz 1<|zs 70 (v:= .int .u32 (rU ((lq.getD (i / 32) 0:Nat):Int) ((2^(i % 32):Nat):Int))) (v':= .int .u32 ((lq.getD (i / 32) 0+2^(i % 32):Nat):Int)) (zQ L)<|zi (b:=b4) (off:=0) (len:=N) (cap:=N) (kd:= .i64) (i:=((i / 32:Nat):Int)) 1 (i / 32)<|zop (at1 [Z] Tryz.f175 [1,1,1,1,1,0,1,0,0,1,0,0,1,1,1,0,1]) 14 (fun a34 _ G34 hz34=>vN (y:=(lq.getD (i / 32) 0+2^(i % 32))) (k:=i / 32) (e:=((lq.getD (i / 32) 0+2^(i % 32):Nat):Int)) 0 G34 C31 (rfl) rfl f (by have:=f.len;(try simp only[List.length_set]at *);omega) (M) ?_)
 intro Q35 w35 D35 C35 y35;refine hz34 G34<|zz 6<|zs 33 (v:= .int .i64 (i64.wrap ((((i+1:Nat):Int)-1)-1))) (v':= .int .i64 ((i:Int)-1)) (zQ ((aZ (by omega) (by omega)).trans (by omega)))<|zz 2 ?_
 have J4_:=(Le7 y14 y17 y23 y25 y26 V y31).trans y35;refine kL (fun a h=>Z14 ((i,ad31,len31,P31)) _ a h ⟨_,Q35,(lq.set (i / 32) (lq.getD (i / 32) 0+2^(i % 32))),ls31,(2*q+1),C35,J4_,D35,(hL31.mono y35),hcan31,by rw[O,Q,Nat.pow_succ,Nat.mul_add,Nat.mul_one];congr 1;ac_rfl,qKi hdiv (by rw[j];omega) (by rw[j];omega),by omega,by omega⟩ ?_)
 first | omega | (simp<;>omega)
 have I:=fC F29;refine zz 7<|zs 33 (v:= .int .i64 (i64.wrap ((((i+1:Nat):Int)-1)-1))) (v':= .int .i64 ((i:Int)-1)) (zQ ((aZ (by omega) (by omega)).trans (by omega)))<|zz 2 ?_
 have J5_:=(Le5 y14 y17 y23 y25 y26).trans V;refine kL (fun a h=>Z14 ((i,ad26,len26,P26)) _ a h ⟨_,C,lq,T,(2*q),C28,J5_,f,(G.mono V),S,by rw[Q,Nat.pow_succ];ac_rfl,qDb hdiv (by rw[j];omega),by omega,by omega⟩ ?_)
 first | omega | (simp<;>omega)
 have F36:(((val l / 2^i % 2):Nat):Int)≠1:=by simpa using J20
 have j:val l / 2^i % 2=0:=(Nat.mod_two_eq_zero_or_one _).resolve_right (fun e=>F36 (congrArg (fun x:Nat=>(x:Int)) e));refine zz 7<|zc C17 (zQk _ _ C17.lt _ _ _ K D _ _ _ l2 (h2.mono J1_) (by first | omega | (simp;done) | (simp;omega)) (by first | omega | (simp;done) | (simp;omega))) ?_
 rintro v38 w38 C38 W N38 rfl;refine zz 3<|zt 54 (p:=(qM (val K) (val l2))≥0) (fun F39=>?_) (fun F39=>?_);have I:=zAj F39;obtain⟨L,M,O⟩:=zNo lq f.lt i q (by rw[f.len];omega) Q
 refine zz 5 ?_;have J6_:=J1_.trans W;refine zc C38 (zVj _ _ C38.lt _ _ _ K (D.mono W) _ _ _ l2 (h2.mono J6_) (by first | omega | (simp;done) | (simp;omega)) (qB ((D.mono W)).hlt J2 I) (by omega)) ?_
 rintro v41 w41 C41 y41 N41 ⟨ad41,len41,P41,rfl,ls41,hL41,hcan41,hval41⟩;have hlen41:=hL41.hlen;refine zz 6<|zs 59 (v:= .int .i64 (((i+1:Nat):Int)-1)) (v':= .int .i64 (i:Int)) (zQ (by omega))<|zz 1<|zs 60 (v:= .int .i64 (i64.wrap (Int.tdiv ((i:Int)) (32)))) (v':= .int .i64 ((i / 32:Nat):Int)) (zQ (dJ _ (by omega)))<|zz 2<|zs 62 (v:= .int .i64 (((i+1:Nat):Int)-1)) (v':= .int .i64 (i:Int)) (zQ (by omega))<|zz 1<|zs 63 (v:= .int .i64 (i64.wrap (Int.tdiv ((i:Int)) (32)))) (v':= .int .i64 ((i / 32:Nat):Int)) (zQ (dJ _ (by omega)))<|zi (b:=b4) (off:=0) (len:=N) (cap:=N) (kd:= .i64) (i:=((i / 32:Nat):Int)) 1 (i / 32) ?_
 refine zl (ad:=⟨b4,i / 32,none⟩) (C41.rowCells 0 rfl f (by have:=f.len;(try simp only[List.length_set]at *);omega))<|zz 1<|zs 66 (v:= .int .i64 (((i+1:Nat):Int)-1)) (v':= .int .i64 (i:Int)) (zQ (by omega))<|zz 1<|zs 67 (v:= .int .i64 (Int.tmod ((i:Int)) (32))) (v':= .int .i64 ((i % 32:Nat):Int)) (zQ (zDt _))<|zz 1<|zs 68 (v:= .int .u64 (IntKind.u64.wrap (((i % 32:Nat):Int)))) (v':= .int .u64 ((i % 32:Nat):Int)) (zQ (nS (by omega) (by omega)))<|zop (at1 [Z] Tryz.f175 [1,1,1,1,1,0,1,0,0,1,0,0,1,1,1,0,1]) 11 (fun a42 _ G42 hz42=>zE (d:=69) (v:= .int .u32 ((2^(i % 32):Nat):Int)) G42 kr (zLb rfl rfl rfl (by omega)) ?_)
 intro a43 G43;refine hz42 G43<|zz 1<|zs 70 (v:= .int .u32 (rU ((lq.getD (i / 32) 0:Nat):Int) ((2^(i % 32):Nat):Int))) (v':= .int .u32 ((lq.getD (i / 32) 0+2^(i % 32):Nat):Int)) (zQ L)<|zi (b:=b4) (off:=0) (len:=N) (cap:=N) (kd:= .i64) (i:=((i / 32:Nat):Int)) 1 (i / 32)<|zop (at1 [Z] Tryz.f175 [1,1,1,1,1,0,1,0,0,1,0,0,1,1,1,0,1]) 14 (fun a44 _ G44 hz44=>vN (y:=(lq.getD (i / 32) 0+2^(i % 32))) (k:=i / 32) (e:=((lq.getD (i / 32) 0+2^(i % 32):Nat):Int)) 0 G44 C41 (rfl) rfl f (by have:=f.len;(try simp only[List.length_set]at *);omega) (M) ?_)
 intro Q45 w45 D45 C45 y45;refine hz44 G44<|zz 6<|zs 33 (v:= .int .i64 (i64.wrap ((((i+1:Nat):Int)-1)-1))) (v':= .int .i64 ((i:Int)-1)) (zQ ((aZ (by omega) (by omega)).trans (by omega)))<|zz 2 ?_
 have J7_:=(Le4 y14 y17 W y41).trans y45;refine kL (fun a h=>Z14 ((i,ad41,len41,P41)) _ a h ⟨_,Q45,(lq.set (i / 32) (lq.getD (i / 32) 0+2^(i % 32))),ls41,(2*q+1),C45,J7_,D45,(hL41.mono y45),hcan41,by rw[O,Q,Nat.pow_succ,Nat.mul_add,Nat.mul_one];congr 1;ac_rfl,qKi hdiv (by rw[j];omega) (by rw[j];omega),by omega,by omega⟩ ?_)
 first | omega | (simp<;>omega)
 have I:=fC F39;refine zz 7<|zs 33 (v:= .int .i64 (i64.wrap ((((i+1:Nat):Int)-1)-1))) (v':= .int .i64 ((i:Int)-1)) (zQ ((aZ (by omega) (by omega)).trans (by omega)))<|zz 2 ?_
 refine kL (fun a h=>Z14 ((i,ad17,len17,P17)) _ a h ⟨_,C,lq,K,(2*q),C38,(Le3 y14 y17 W),f,(D.mono W),R,by rw[Q,Nat.pow_succ];ac_rfl,qDb hdiv (by rw[j];omega),by omega,by omega⟩ ?_)
 first | omega | (simp<;>omega)
 obtain rfl:k=0:=by omega
 obtain⟨he1,he2⟩:=zSu hdiv hlt Q;refine zz 9<|zc C14 (zGl _ X0 (zZ _) _ _ _ lq (zX.limbs (Y:=X0) f (C14.get 0 rfl) (fun _ h=>h.elim))) ?_ (vs:=#[.slice (some ⟨b4,0,none⟩) N N]);rintro v47 w47 C47 y47 N47 rfl;refine zz 6<|zr' (v:= .tuple #[.slice (some ⟨b4,0,none⟩) (qV lq) N,.slice U lr.length A]) ?_;exact⟨C47.upd,_,rfl,_,_,rfl,⟨_,_,_,rfl,_,zX.limbs (f.trimmed) (C47.get 0 rfl) (fun o h9=>Nat.not_lt.2 (C47.own_ge 0 rfl) (hX _ _ h9)),qY _,by rw[jK];exact he1⟩,⟨_,_,_,rfl,lr,((hr.mono y47)).mono C47.le,hcanr,he2⟩⟩
set_option maxHeartbeats 1000000
theorem zSt(w:World)(X:Hid)(hX:∀k o,X k o→k<w.heap.size)(ad:Option Addr)(len cap:Nat)(l:List Nat)(h:zN (rd w X) ad len cap l)(f:Option Addr)(e q:Nat)(l2:List Nat)(C:zN (rd w X) f e q l2)(G:len≤100000)(j:e≤100000)(z:zW l)(A:zW l2)(hd:0<val l2):Calls Tryz.prog 175 #[.slice ad len cap,.slice f e q] w (Ret E0 w fun w' v=>∃u I,v= .tuple #[u,I]∧gL X w' u (val l / val l2)∧gL X w' I (val l % val l2)):=by
 rcases Nat.lt_or_ge l.length l2.length with D | D
 ·exact qKh w X hX ad len cap l h f e q l2 C G j z A hd D
 ·exact qKg w X hX ad len cap l h f e q l2 C G j z A hd (l.length+1-l2.length) (by omega) (by omega)
theorem zYq{x e l2:List Nat}(q:zW e)(j:∀y∈l2,y<4294967296)(f:0<val l2)(h:val e=val x % val l2):e.length≤l2.length:=qB j q (by rw[h];exact Nat.le_of_lt (Nat.mod_lt _ f))
theorem wU{l:List Nat}(e:zW l)(h:0<l.length):0<val l:=by
 have:=xA e;omega
theorem zTe(w:World)(X:Hid)(hX:∀k o,X k o→k<w.heap.size)(ad:Option Addr)(len cap:Nat)(l:List Nat)(h:zN (rd w X) ad len cap l)(I:Option Addr)(G P2:Nat)(l2:List Nat)(Z:zN (rd w X) I G P2 l2)(hm:len≤100000)(hm2:G≤100000)(J1:zW l)(J2:zW l2):Calls Tryz.prog 150 #[.slice ad len cap,.slice I G P2] w (Ret E0 w fun w' v=>gL X w' v (Nat.gcd (val l) (val l2))):=by
 obtain rfl:=h.hlen;obtain rfl:=Z.hlen;have hcap:=h.hcap;have hbig:=h.hbig;have hcap2:=Z.hcap;have hbig2:=Z.hbig;refine zen Tryz.func150 ?_;have C0:St E0 w X w X []:=St.start hX;refine zz 7<|zlp Tryz.f150 [] [1,0,0] (fun((f,z,q,T,j,S):List Nat×(Option Addr)×(List Nat)×Nat×(Option Addr)×Nat)=>[(0,.slice z q.length T),(1,.slice j f.length S)]) (fun((f,z,q,T,j,S):List Nat×(Option Addr)×(List Nat)×Nat×(Option Addr)×Nat)w1=>∃(W:Hid),St E0 w X w1 W []∧Le (rd w X) (rd w1 W)∧(zN (rd w1 W) z q.length T q)∧(zN (rd w1 W) j f.length S f)∧(zW q)∧(zW f)∧(q.length≤100000)∧(f.length≤100000)∧(Nat.gcd (val q) (val f)=Nat.gcd (val l) (val l2))) (fun((f,z,q,T,j,S):List Nat×(Option Addr)×(List Nat)×Nat×(Option Addr)×Nat)=>val f) (l2,ad,l,cap,I,P2) ?_ ?_;refine⟨_,C0,Le.refl _,h,Z,J1,J2,hm,hm2,rfl⟩;rintro⟨f,z,q,T,j,S⟩ w2 K2 Z2 ⟨Y2,C2,y2,K,L,M,N,O,Q,R⟩;have ha:=K;have hb:=L;have V:=M;have J:=N;have hla:=O;have hlb:=Q;have hg:=R;refine zz 8<|zt 9 (p:=(f.length:Int)>0) (fun F3=>?_) (fun F3=>?_);have C:=wU J (by omega)
 refine zz 8<|zc C2 (zSt _ _ C2.lt _ _ _ q ha _ _ _ f hb (by first | omega | (simp;done) | (simp;omega)) (by first | omega | (simp;done) | (simp;omega)) V J C) ?_
 rintro v5 w5 C5 y5 N5 ⟨_,_,rfl,⟨ad5,len5,P5,rfl,ls5,hL5,hcan5,hval5⟩,⟨ae5,le5,ce5,rfl,lr5,U,A,D⟩⟩;obtain rfl:=hL5.hlen;obtain rfl:=U.hlen;refine zz 14 ?_;have hmod:=zYq A hb.hlt C D;have hml:=Nat.mod_lt (val q) C;refine kL (fun a h=>Z2 ((lr5,j,f,S,ae5,ce5)) _ a h ⟨_,C5,(Le2 y2 y5),(hb.mono y5),U,J,A,hlb,by omega,by rw[D,←hg];exact(Nat.gcd_comm _ _).trans ((Nat.gcd_rec (val f) (val q)).symm.trans (Nat.gcd_comm _ _))⟩ ?_)
 first | omega | (simp<;>omega)
 have hz:val f=0:=by rw[List.eq_nil_of_length_eq_zero (l:=f) (by omega)];rfl
 rw[hz,Nat.gcd_zero_right]at hg;refine zz 9<|zop (at1 [K2] Tryz.f150 [1,1,0]) 1 (fun a6 _ G6 hz6=>zNc (e:=214) (i0:=Tryz.t214) G6 C2 ha (by first | omega | (simp;omega)) ?_)
 intro ad7 P7 w7 C7 y7 hL7 a8 G8;refine hz6 G8<|zz 4<|zr' (v:= .slice ad7 q.length P7) ?_;exact⟨C7.upd,_,rfl,_,_,_,rfl,_,(hL7).mono C7.le,V,hg⟩
set_option maxHeartbeats 1000000
theorem zDf(w:World)(X:Hid)(hX:∀k o,X k o→k<w.heap.size):Calls Tryz.prog 104 #[] w (Ret E0 w fun w' v=>∃ad cap,v= .slice ad 1 cap∧zN (rd w' X) ad 1 cap [1]):=by
 refine zen Tryz.func104 ?_;have f:St E0 w X w X []:=St.start hX;refine zz 7<|zn (fun b=> .slice (some ⟨b,0,none⟩) 1 1) (.cells #[.int .u32 1] 214 (0,0)) f fun b3 C A e D z=>zz 4<|zr' (v:= .slice (some ⟨b3,0,none⟩) 1 1) ?_;have j:zX 1 1 #[.int .u32 1] [1]:=zX.of [1] (by simp) (by simp[maxLen]) (by simp[U32]) (by simp)
 exact⟨e.upd,_,rfl,_,_,rfl,zX.limbs j (e.get 0 rfl) (fun o q=>Nat.not_lt.2 (e.own_ge 0 rfl) (hX _ _ q))⟩
theorem zJq:zW [1]:= .inr (by decide)
set_option maxHeartbeats 1000000
theorem tK{l:List Nat}(f:∀x∈l,x<4294967296)(e:zW l):l=[1]↔val l=1:=
 ⟨fun h=>by rw[h];rfl,fun h=>zJp f (by intro x j;simp at j;omega) e zJq (h.trans rfl)⟩
theorem jCd(w:World)(X:Hid)(hX:∀k o,X k o→k<w.heap.size)(ad:Option Addr)(len cap:Nat)(l:List Nat)(h:zN (rd w X) ad len cap l)(ad2:Option Addr)(L P2:Nat)(l2:List Nat)(T:zN (rd w X) ad2 L P2 l2)(sg:Bool)(hm:len≤100000)(hm2:L≤100000)(J1:zW l)(J2:zW l2)(hd:0<val l2):Calls Tryz.prog 102 #[.bool sg,.slice ad len cap,.slice ad2 L P2] w (Ret E0 w fun w' v=>zAc X w' v (mkRat (sgn sg (val l)) (val l2))):=by
 obtain rfl:=h.hlen;obtain rfl:=T.hlen;have hcap:=h.hcap;have hbig:=h.hbig;have hcap2:=T.hcap;have hbig2:=T.hbig;refine zen Tryz.func102 ?_;have C0:St E0 w X w X []:=St.start hX;refine zz 2<|zn pn (.cells #[.bool false,.slice none 0 0,.slice none 0 0] 28 (0,0)) C0 fun b3 w3 Y3 C3 y3 N3=>zz 10<|zb 10 (b:=((l.length:Int)==0)) (fun J4=>?_) (fun J4=>?_);have F5:(l.length:Int)=0:=by simpa using J4
 refine zz 4<|zx 0 #[.bool false,.slice none 0 0,.slice none 0 0] C3 fun w6 C6 y6=>zz 4<|zrS [.cell 6 28] (v:= .agg #[.bool false,.slice none 0 0,.slice none 0 0]) (Res.cM C6 0 Res.nil) ?_;exact⟨C6.upd,_,rfl,by rw[(xA J1).1 (by omega)];exact zRs _⟩
 have F7:(l.length:Int)≠0:=by simpa using J4
 refine zz 7<|zc C3 (zTe _ _ C3.lt _ _ _ l (h.mono y3) _ _ _ l2 (T.mono y3) (by first | omega | (simp;done) | (simp;omega)) (by first | omega | (simp;done) | (simp;omega)) J1 J2) ?_
 rintro v9 w9 C9 y9 N9 ⟨ad9,len9,P9,rfl,W,U,I,f⟩;obtain rfl:=U.hlen;have hgp:0<val W:=by rw[f];exact Nat.gcd_pos_of_pos_right _ hd
 have hgl:=qB T.hlt I (by rw[f];exact Nat.gcd_le_right _ hd)
 refine zz 7<|zc C9 (zSt _ _ C9.lt _ _ _ l (h.mono (Le2 y3 y9)) _ _ _ W U (by first | omega | (simp;done) | (simp;omega)) (by first | omega | (simp;done) | (simp;omega)) J1 I hgp) ?_
 rintro v11 w11 C11 y11 N11 ⟨_,_,rfl,⟨J,len11,N,rfl,q,K,A,C⟩,⟨ae11,le11,ce11,rfl,lr11,hM11,hcam11,hvam11⟩⟩;obtain rfl:=K.hlen;obtain rfl:=hM11.hlen;have hql11:=rJ A (k:=100000) (Nat.lt_of_le_of_lt (C▸Nat.div_le_self _ _) ((zV h.hlt J1 100000).1 (by omega)))
 refine zz 10<|zc C11 (zSt _ _ C11.lt _ _ _ l2 (T.mono (Le3 y3 y9 y11)) _ _ _ W (U.mono y11) (by first | omega | (simp;done) | (simp;omega)) (by first | omega | (simp;done) | (simp;omega)) J2 I hgp) ?_
 rintro v13 w13 C13 y13 N13 ⟨_,_,rfl,⟨Q,len13,P13,rfl,z,G,j,D⟩,⟨ae13,le13,ce13,rfl,lr13,hM13,hcam13,hvam13⟩⟩;obtain rfl:=G.hlen;obtain rfl:=hM13.hlen;have hql13:=rJ j (k:=100000) (Nat.lt_of_le_of_lt (D▸Nat.div_le_self _ _) ((zV T.hlt J2 100000).1 (by omega)))
 refine zz 10<|zc C13 (zDf _ _ C13.lt) ?_;rintro v15 w15 C15 O N15 ⟨ad15,P15,rfl,hL15⟩;refine zc C15 (vK _ _ C15.lt _ _ _ _ (G.mono O) _ _ _ _ hL15) ?_;rintro v17 w17 C17 Z N17 rfl;refine zz 2<|zb 29 (b:=(decide (z=[1]))) (fun S=>?_) (fun S=>?_);have F19:z=[1]:=of_decide_eq_true S;refine zz 11<|zx 0 #[.bool sg,.slice J q.length N,.slice none 0 0] C17 fun w20 R y20=>zz 3<|zrS [.cell 6 28] (v:= .agg #[.bool sg,.slice J q.length N,.slice none 0 0]) (Res.cM R 0 Res.nil) ?_;have V:val l≠0:=fun e=>F7 (by have:=(xA J1).2 e;omega)
 have J1_:=(Le3 y13 O Z).trans y20;exact⟨R.upd,_,rfl,bH V hd ⟨q,((K.mono J1_)).mono R.le,A,by rw[←f];exact C⟩ (by rw[←f,←D,(tK G.hlt j).1 (by simpa using F19)];exact qC.nil none (by omega))⟩
 have F21:¬(z=[1]):=of_decide_eq_false S;refine zz 9<|zx 0 #[.bool sg,.slice J q.length N,.slice Q z.length P13] C17 fun w22 M y22=>zz 3<|zrS [.cell 6 28] (v:= .agg #[.bool sg,.slice J q.length N,.slice Q z.length P13]) (Res.cM M 0 Res.nil) ?_;have V:val l≠0:=fun e=>F7 (by have:=(xA J1).2 e;omega)
 have J2_:=(Le3 y13 O Z).trans y22;exact⟨M.upd,_,rfl,bH V hd ⟨q,((K.mono J2_)).mono M.le,A,by rw[←f];exact C⟩ (by rw[←f,←D,mF,if_neg (fun e=>by have:=(tK G.hlt j).2 e;simp[this]at F21)];exact⟨z,((G.mono (Le3 O Z y22))).mono M.le,j,rfl⟩)⟩
set_option maxHeartbeats 1000000
theorem zZx(w:World)(X:Hid)(hX:∀k o,X k o→k<w.heap.size)(a:Raw)(ad:Option Addr)(len cap:Nat)(h:zN (rd w X) ad len cap a.ln)(Z:Option Addr)(O P2:Nat)(L:zN (rd w X) Z O P2 a.ld):Calls Tryz.prog 73 #[.agg #[.bool a.neg,.slice ad len cap,.slice Z O P2]] w (Ret E0 w fun _ v=>v= .int .i64 a.chk):=by
 obtain rfl:=h.hlen;obtain rfl:=L.hlen;have hcap:=h.hcap;have hbig:=h.hbig;have hcap2:=L.hcap;have hbig2:=L.hbig;refine zen Tryz.func73 ?_;have C0:St E0 w X w X []:=St.start hX;refine zz 2<|zn pn (.cells #[.bool a.neg,.slice ad a.ln.length cap,.slice Z a.ld.length P2] 28 (0,0)) C0 fun b3 w3 Y3 C3 y3 N3=>zz 7<|zo 0 C3<|zz 3<|zt 7 (p:=(a.ln.length:Int)>128) (fun F4=>?_) (fun F4=>?_);refine zz 15<|zr' (v:= .int .i64 4) ?_;exact⟨C3.upd,_,rfl,zQ (zVg (by omega)).symm⟩
 refine zz 1<|zo 0 C3<|zz 5<|zt 12 (p:=(a.ld.length:Int)>128) (fun F5=>?_) (fun F5=>?_);refine zz 8<|zr' (v:= .int .i64 4) ?_;exact⟨C3.upd,_,rfl,zQ (zVg (by omega)).symm⟩
 have f:¬(128<a.ln.length∨128<a.ld.length):=by omega
 refine zz 7<|zo 0 C3<|zc C3 (zOq _ X0 (zZ _) _ _ _ a.ln ((h.mono y3).mono Le.x0)) ?_;rintro v7 w7 C7 y7 N7 rfl;refine zz 2<|zb 17 (b:=((jH a.ln)!=0)) (fun J8=>?_) (fun J8=>?_);have F9:(jH a.ln)≠0:=by simpa using J8
 refine zz 15<|zr' (v:= .int .i64 2) ?_;exact⟨C7.upd,_,rfl,zQ (gZ f (.inl (by simpa using F9))).symm⟩
 have F10:(jH a.ln)=0:=by simpa using J8
 have cn:jH a.ln=0:=by simpa using F10
 have hcn:=(pU cn).2;have hzn:=xA hcn;refine zz 1<|zo 0 C7<|zc C7 (zOq _ X0 (zZ _) _ _ _ a.ld ((L.mono (Le2 y3 y7)).mono Le.x0)) ?_;rintro v12 w12 C12 y12 N12 rfl;refine zz 4<|zb 22 (b:=((jH a.ld)!=0)) (fun Q=>?_) (fun Q=>?_);have F14:(jH a.ld)≠0:=by simpa using Q
 refine zz 8<|zr' (v:= .int .i64 2) ?_;exact⟨C12.upd,_,rfl,zQ (gZ f (.inr (.inl (by simpa using F14)))).symm⟩
 have F15:(jH a.ld)=0:=by simpa using Q
 have cd:jH a.ld=0:=by simpa using F15
 have z:=(pU cd).2;have hzd:=xA z;refine zz 5<|zdr C12<|gz [0]<|gw 1 0<|gz [2,3,4]<|gb 27 (b:=((a.ln.length:Int)==0)) (fun R=>?_) (fun R=>?_);have F17:(a.ln.length:Int)=0:=by simpa using R
 refine gz [5]<|gw 6 0<|gz [7]<|gb 30 (b:=a.neg) (fun S=>?_) (fun S=>?_);have F19:a.neg=true:=by simpa using S
 have un:a.neg=true:=by simpa using F19
 refine gz [8,9,10,11,12,13,14,15,16,17,18,19] ?_;refine fJ (fun w20 Y20 C20 y20=>?_);refine zz 9<|zr' (v:= .int .i64 2) ?_;exact⟨C20.upd,_,rfl,zQ (gZ f (.inr (.inr (.inr ⟨by omega,.inl un⟩)))).symm⟩
 have F21:a.neg=false:=by simpa using S
 have un:a.neg=false:=by simpa using F21
 refine gz [8]<|gw 9 0<|gz [10,11,12,13,14]<|gt 37 (p:=(a.ld.length:Int)>0) (fun F22=>?_) (fun F22=>?_);refine gz [15,16,17,18,19] ?_;refine fJ (fun w23 Y23 C23 y23=>?_);refine zz 9<|zr' (v:= .int .i64 2) ?_;exact⟨C23.upd,_,rfl,zQ (gZ f (.inr (.inr (.inr ⟨by omega,.inr (by omega)⟩)))).symm⟩
 refine gz [15]<|gw 16 0<|gC 17 (fun w24 Y24 _ C24 y24=>(zDf _ _ C24.lt)) ?_;rintro v25 w24 Y25 w25 C24 y25 ⟨ad25,P25,rfl,hL25⟩;have J1_:=(Le3 y3 y7 y12).trans y25;refine gC 18 (fun w26 Y26 _ C26 y26=>(vK _ _ C26.lt _ _ _ _ (L.mono (J1_.trans y26)) _ _ _ _ (hL25.mono y26))) ?_;rintro v27 w26 Y27 w27 C26 y27 rfl;refine gz [19] ?_;refine fJ (fun w28 Y28 j y28=>?_);refine zz 1<|zb 42 (b:=(decide (a.ld=[1]))) (fun T=>?_) (fun T=>?_);have F30:a.ld=[1]:=of_decide_eq_true T;have u1:val a.ld=1:=(tK L.hlt z).1 (by simpa using F30)
 refine zz 8<|zr' (v:= .int .i64 2) ?_;exact⟨j.upd,_,rfl,zQ (gZ f (.inr (.inr (.inl u1)))).symm⟩;have F31:¬(a.ld=[1]):=of_decide_eq_false T;have u1:val a.ld≠1:=fun e=>absurd ((tK L.hlt z).2 e) (by simpa using F31)
 have A:¬(jH a.ln≠0∨jH a.ld≠0∨val a.ld=1∨(val a.ln=0∧(a.neg=true∨0<val a.ld))):=by rintro(e | e | e | ⟨e,e2 | e2⟩);exact e cn;exact e cd;exact u1 e;(first | omega | (rw[un]at e2;cases e2));omega
 refine zz 7<|zo 0 j<|zz 3<|zt 47 (p:=(a.ld.length:Int)>0) (fun F32=>?_) (fun F32=>?_);have hdp:0<val a.ld:=by omega
 refine zz 1<|zo 0 j<|zz 1<|zo 0 j ?_;have J2_:=(J1_.trans y27).trans y28;refine zc j (zTe _ _ j.lt _ _ _ a.ln (h.mono J2_) _ _ _ a.ld (L.mono J2_) (by first | omega | (simp;done) | (simp;omega)) (by first | omega | (simp;done) | (simp;omega)) hcn z) ?_
 rintro v34 w34 C34 y34 N34 ⟨ad34,len34,P34,rfl,M,C,G,J⟩;obtain rfl:=C.hlen;refine zc C34 (zDf _ _ C34.lt) ?_;rintro v36 w36 C36 y36 N36 ⟨ad36,P36,rfl,hL36⟩;refine zc C36 (vK _ _ C36.lt _ _ _ _ (C.mono y36) _ _ _ _ hL36) ?_;rintro v38 w38 C38 y38 N38 rfl;refine zz 4<|zb 56 (b:=!(decide (M=[1]))) (fun U=>?_) (fun U=>?_);have F40:¬(M=[1]):=by simpa using U
 have ug:Nat.gcd (val a.ln) (val a.ld)≠1:=by rw[←J];exact fun e=>absurd ((tK C.hlt G).2 e) (by simpa using F40)
 refine zz 8<|zr' (v:= .int .i64 2) ?_;exact⟨C38.upd,_,rfl,zQ (zVh f A ⟨by omega,ug⟩).symm⟩
 have F41:M=[1]:=by simpa using U
 have ug:Nat.gcd (val a.ln) (val a.ld)=1:=by rw[←J];exact(tK C.hlt G).1 (by simpa using F41)
 refine zz 9<|zr' (v:= .int .i64 0) ?_;exact⟨C38.upd,_,rfl,zQ (zEf f A (fun hh=>hh.2 ug)).symm⟩;refine zz 20<|zr' (v:= .int .i64 0) ?_;exact⟨j.upd,_,rfl,zQ (zEf f A (fun hh=>by omega)).symm⟩
 have F42:(a.ln.length:Int)≠0:=by simpa using R
 refine gz [5,6,7,8,9,10,11,12,13,14,15]<|gw 16 0<|gC 17 (fun w43 Y43 _ C43 y43=>(zDf _ _ C43.lt)) ?_;rintro v44 w43 Y44 w44 C43 y44 ⟨ad44,P44,rfl,hL44⟩;have J3_:=(Le3 y3 y7 y12).trans y44;refine gC 18 (fun w45 Y45 _ C45 y45=>(vK _ _ C45.lt _ _ _ _ (L.mono (J3_.trans y45)) _ _ _ _ (hL44.mono y45))) ?_;rintro v46 w45 Y46 w46 C45 y46 rfl;refine gz [19] ?_;refine fJ (fun w47 Y47 q y47=>?_);refine zz 1<|zb 42 (b:=(decide (a.ld=[1]))) (fun V=>?_) (fun V=>?_);have F49:a.ld=[1]:=of_decide_eq_true V;have u1:val a.ld=1:=(tK L.hlt z).1 (by simpa using F49)
 refine zz 8<|zr' (v:= .int .i64 2) ?_;exact⟨q.upd,_,rfl,zQ (gZ f (.inr (.inr (.inl u1)))).symm⟩;have F50:¬(a.ld=[1]):=of_decide_eq_false V;have u1:val a.ld≠1:=fun e=>absurd ((tK L.hlt z).2 e) (by simpa using F50)
 have A:¬(jH a.ln≠0∨jH a.ld≠0∨val a.ld=1∨(val a.ln=0∧(a.neg=true∨0<val a.ld))):=by rintro(e | e | e | ⟨e,e2 | e2⟩);exact e cn;exact e cd;exact u1 e;(first | omega | (rw[un]at e2;cases e2));omega
 refine zz 7<|zo 0 q<|zz 3<|zt 47 (p:=(a.ld.length:Int)>0) (fun F51=>?_) (fun F51=>?_);have hdp:0<val a.ld:=by omega
 refine zz 1<|zo 0 q<|zz 1<|zo 0 q ?_;have J4_:=(J3_.trans y46).trans y47;refine zc q (zTe _ _ q.lt _ _ _ a.ln (h.mono J4_) _ _ _ a.ld (L.mono J4_) (by first | omega | (simp;done) | (simp;omega)) (by first | omega | (simp;done) | (simp;omega)) hcn z) ?_
 rintro v53 w53 C53 y53 N53 ⟨ad53,len53,P53,rfl,N,D,I,K⟩;obtain rfl:=D.hlen;refine zc C53 (zDf _ _ C53.lt) ?_;rintro v55 w55 C55 y55 N55 ⟨ad55,P55,rfl,hL55⟩;refine zc C55 (vK _ _ C55.lt _ _ _ _ (D.mono y55) _ _ _ _ hL55) ?_;rintro v57 w57 C57 y57 N57 rfl;refine zz 4<|zb 56 (b:=!(decide (N=[1]))) (fun W=>?_) (fun W=>?_);have F59:¬(N=[1]):=by simpa using W
 have ug:Nat.gcd (val a.ln) (val a.ld)≠1:=by rw[←K];exact fun e=>absurd ((tK D.hlt I).2 e) (by simpa using F59)
 refine zz 8<|zr' (v:= .int .i64 2) ?_;exact⟨C57.upd,_,rfl,zQ (zVh f A ⟨by omega,ug⟩).symm⟩
 have F60:N=[1]:=by simpa using W
 have ug:Nat.gcd (val a.ln) (val a.ld)=1:=by rw[←K];exact(tK D.hlt I).1 (by simpa using F60)
 refine zz 9<|zr' (v:= .int .i64 0) ?_;exact⟨C57.upd,_,rfl,zQ (zEf f A (fun hh=>hh.2 ug)).symm⟩;refine zz 20<|zr' (v:= .int .i64 0) ?_;exact⟨q.upd,_,rfl,zQ (zEf f A (fun hh=>by omega)).symm⟩
set_option maxHeartbeats 1000000
theorem qQq(w:World)(X:Hid)(hX:∀k o,X k o→k<w.heap.size)(ad:Option Addr)(len cap:Nat)(l:List Nat)(h:zN (rd w X) ad len cap l)(f:Option Addr)(e j:Nat)(l2:List Nat)(G:zN (rd w X) f e j l2)(A:Bool)(I:len≤100000)(q:e≤100000)(C:zW l)(D:zW l2)(hd:0<val l2)(z:Rat)(J:mkRat (sgn A (val l)) (val l2)=z):Calls Tryz.prog 102 #[.bool A,.slice ad len cap,.slice f e j] w (Ret E0 w fun w' v=>zAc X w' v z):=by
 subst J;exact jCd w X hX ad len cap l h f e j l2 G A I q C D hd
end Go.Proofs.YtdfmdiakjdggbaaGreatDoor
namespace Go.Proofs.YtdfmdiakjdggbaaGreatDoor
open Go Go.Gv Go.RowKit IntKind
set_option maxRecDepth 100000
set_option maxHeartbeats 1000000
section
variable {r x y:Raw}{xs ys:List Raw}{k:Nat}
end
theorem int6(n:Int):mkRat (sgn (decide (n<0)) n.natAbs) 1=(n:Rat):=by rw[zXm];first | exact Rat.mkRat_one _ | simp[Rat.mkRat_one] | (rw[Rat.mkRat_eq_div];simp)
theorem zTq(w:World)(X:Hid)(hX:∀k o,X k o→k<w.heap.size)(n:Int)(N: -9223372036854775808≤n)(O:n≤9223372036854775807):Calls Tryz.prog 103 #[.int .i64 n] w (Ret E0 w fun w' v=>gL X w' v n.natAbs):=by
 refine zen Tryz.func103 ?_;have j:St E0 w X w X []:=St.start hX;refine zz 12<|zt 4 (p:=(n)<0) (fun I=>?_) (fun I=>?_);refine zz 5<|zs 6 (v:= .int .u64 (IntKind.u64.wrap (n))) (v':= .int .u64 (n+18446744073709551616)) (zQ (by rw[lD];omega))<|zz 1<|zs 7 (v:= .int .u64 (IntKind.u64.wrap ((0:Int)-(n+18446744073709551616)))) (v':= .int .u64 ((n.natAbs:Nat):Int)) (zQ (by rw[lD];omega))<|zc j (zVq _ _ j.lt n.natAbs (by omega)) ?_
 rintro Q S D U L ⟨q,e,J,rfl,A⟩;refine zz 5<|zr' (v:= .slice q e J) ?_;exact⟨D.upd,_,rfl,D.lastN A⟩;refine zz 7<|zs 10 (v:= .int .u64 (IntKind.u64.wrap (n))) (v':= .int .u64 ((n.natAbs:Nat):Int)) (zQ (by rw[lD];omega))<|zc j (zVq _ _ j.lt n.natAbs (by omega)) ?_
 rintro R T G V M ⟨z,f,K,rfl,C⟩;refine zz 4<|zr' (v:= .slice z f K) ?_;exact⟨G.upd,_,rfl,G.lastN C⟩
theorem qHj(w:World)(X:Hid)(hX:∀k o,X k o→k<w.heap.size)(n:Int)(h1: -9223372036854775808≤n)(h2:n≤9223372036854775807):Calls Tryz.prog 51 #[.int .i64 n] w (Ret E0 w fun w' v=>rT X w' v (.of (n:Rat))):=by
 refine zen Tryz.func51 ?_;have U:St E0 w X w X []:=St.start hX;refine zz 2<|zn pn (.cells #[.bool false,.slice none 0 0,.slice none 0 0] 28 (0,0)) U fun b3 w3 Y3 N y3 N3=>zz 7<|zc N (zTq _ _ N.lt n (by omega) (by omega)) ?_
 rintro v5 w5 O y5 N5 ⟨W,T,P5,rfl,I,D,e,f⟩;obtain rfl:=D.hlen;have S:I.length≤100000:=by have:=rJ e (k:=3) (by rw[f];exact Nat.lt_of_lt_of_le (show _<18446744073709551616 by omega) (by decide));omega
 refine zc O (zDf _ _ O.lt) ?_;rintro v7 w7 Q y7 N7 ⟨Z,P7,rfl,L⟩;refine zc Q (qQq _ _ Q.lt _ _ _ I (D.mono y7) _ _ _ ([1]) L _ (by omega) (by simp) e zJq (by decide) (n:Rat) (by rw[f];exact int6 n)) ?_
 rintro v9 w9 V y9 N9 ⟨z,q,R,A,G,C,rfl,M,K⟩;refine zx 0 #[.bool (decide ((n:Rat).num<0)),.slice z q R,.slice A G C] V fun w10 j J=>zz 3<|zrS [.cell 2 28] (v:= .agg #[.bool (decide ((n:Rat).num<0)),.slice z q R,.slice A G C]) (Res.cM j 0 Res.nil) ?_;exact⟨j.upd,_,rfl,zAc.raw ⟨_,_,_,_,_,_,rfl,M.mono (Le.trans J j.le),K.mono (Le.trans J j.le)⟩⟩
theorem qZn(w:World)(X:Hid)(hX:∀k o,X k o→k<w.heap.size)(p q:Int)(h1: -9223372036854775808≤p)(h2:p≤9223372036854775807)(h3: -9223372036854775808≤q)(h4:q≤9223372036854775807)(hq:q≠0):Calls Tryz.prog 53 #[.int .i64 p,.int .i64 q] w (Ret E0 w fun w' v=>∃u,v= .tuple #[u,.int .i64 0]∧rT X w' u (.of (mkRat (sgn (decide (p<0)!=decide (q<0)) p.natAbs) q.natAbs))):=by
 refine zen Tryz.func53 ?_;have C0:St E0 w X w X []:=St.start hX;refine zz 2<|zn pn (.cells #[.bool false,.slice none 0 0,.slice none 0 0] 28 (0,0)) C0 fun b3 w3 Y3 C3 y3 N3=>zz 10<|zb 7 (b:=((q)==0)) (fun V=>?_) (fun V=>?_);have F5:(q)=0:=by simpa using V
 omega;have F6:(q)≠0:=by simpa using V
 refine zz 11<|zc C3 (zTq _ _ C3.lt p (by omega) (by omega)) ?_
 rintro v8 w8 C8 y8 N8 ⟨ad8,zCw,P8,rfl,S,Q,j,z⟩;obtain rfl:=Q.hlen;have hsh8:S.length≤100000:=by have:=rJ j (k:=3) (by rw[z];exact Nat.lt_of_lt_of_le (show _<18446744073709551616 by omega) (by decide));omega
 refine zz 1<|zc C8 (zTq _ _ C8.lt q (by omega) (by omega)) ?_
 rintro v10 w10 M y10 N10 ⟨ad10,Z,P10,rfl,L,J,f,e⟩;obtain rfl:=J.hlen;have W:L.length≤100000:=by have:=rJ f (k:=3) (by rw[e];exact Nat.lt_of_lt_of_le (show _<18446744073709551616 by omega) (by decide));omega
 refine zc M (qQq _ _ M.lt _ _ _ S (Q.mono y10) _ _ _ L J _ (by omega) (by omega) j f (by rw[e];omega) (mkRat (sgn (decide (p<0)!=decide (q<0)) p.natAbs) q.natAbs) (by rw[z,e])) ?_
 rintro v12 w12 U y12 N12 ⟨D,A,N,G,K,I,rfl,R,O⟩;refine zx 0 #[.bool (decide ((mkRat (sgn (decide (p<0)!=decide (q<0)) p.natAbs) q.natAbs).num<0)),.slice D A N,.slice G K I] U fun w13 C T=>zz 4<|zrS [.cell 4 28,.tmp 5] (v:= .tuple #[.agg #[.bool (decide ((mkRat (sgn (decide (p<0)!=decide (q<0)) p.natAbs) q.natAbs).num<0)),.slice D A N,.slice G K I],.int .i64 0]) (Res.cM C 0 (Res.tZ Res.nil)) ?_;exact⟨C.upd,_,rfl,_,rfl,zAc.raw ⟨_,_,_,_,_,_,rfl,R.mono (Le.trans T C.le),O.mono (Le.trans T C.le)⟩⟩
end Go.Proofs.YtdfmdiakjdggbaaGreatDoor
namespace Go.Ev
open Go Go.Gv IntKind
inductive Ty where
  | lim
  | int (k:IntKind)
  | bool
  | str
  | list (A:Ty)
  | prod (A B:Ty)
@[reducible] def Ty.den : Ty → Type
  | .lim => Nat
  | .int _ => Int
  | .bool => Bool
  | .str => ByteArray
  | .list A => List A.den
  | .prod A B => A.den × B.den
noncomputable def Ty.size:Ty→Nat
 | .prod A B=>A.size+B.size
 | _=>1
noncomputable def Ty.zero:(A:Ty)→A.den
 | .lim=>(0:Nat)
 | .int _=>(0:Int)
 | .bool=>false
 | .str=>⟨#[]⟩
 | .list _=>[]
 | .prod A B=>(A.zero,B.zero)
inductive Tg where
  | a | n | o
noncomputable def Tg.isN:Tg→Bool
 | .n=>true
 | _=>false
noncomputable def Tg.isA:Tg→Bool
 | .a=>true
 | _=>false
noncomputable def Tg.le:Tg→Tg→Bool
 | .a,_=>true
 | .n,.n=>true
 | .o,.o=>true
 | _,_=>false
inductive T where
  | u
  | v (x:Value)
  | sl (cs:List T) (n:Nat)
  | sn (cs:List T) (n:Nat)
  | st (cs:List T) (n:Nat)
  | fp (cs:List T)
  | os (i o n c:Nat)
  | og (i o n:Nat)
  | op (i o:Nat)
  | ag (cs:List T)
  | tu (cs:List T)
  | fn (f:Nat) (cs:List T)
  | fb (f:Nat) (bs:List T)
  | om (i:Nat)
  | yl (i:Nat)
  | ls (g:Tg) (A:Ty) (l:List A.den)
  | hv (A:Ty) (l:List A.den)
inductive Cs where
  | l (cs:List T)
  | d (g:Tg) (A:Ty) (x:List A.den)
structure MD where
 g:Tg
 K:Ty
 V:Ty
 l:List (K.den×V.den)
inductive TO where
  | row (cs:List T) (e:TypeId)
  | gro (cs:Cs) (e:TypeId)
  | fz (cs:List T)
  | map (l:List (Value×T))
  | mapd (d:MD)
  | loop (L:List T) (ps:List Nat) (a b:Code) (ready:Bool) (pend:Option Code)
  | gone
structure S where
 L:List T
 H:List TO
inductive Ex where
  | n | x (id:Nat) | r | p (t:T)
noncomputable def nth{α:Type}(d:α)(l:List α):Nat→α:=List.rec (fun _=>d) (fun x _ e n=>Nat.rec x (fun m _=>e m) n) l
noncomputable def put{α:Type}(x:α)(l:List α):Nat→List α:=List.rec (fun _=>[]) (fun y l e n=>Nat.rec (x::l) (fun m _=>y::e m) n) l
def ln{α:Type}:List α→Nat
 | []=>0
 | _::l=>Nat.succ (ln l)
def sc:Value→Bool
 | .int .. | .bool _ | .string _ | .slice none 0 0 | .pointer none | .map none | .nilFunc | .nilIface | .iface _ (.int ..)=>true
 | _=>false
def ofV(x:Value):T:=bif sc x then .v x else .u
def ofC:Value→T
 | .agg cs=> .ag (cs.toList.map ofV)
 | .tuple cs=> .tu (cs.toList.map ofV)
 | .func (.func f) ⟨[]⟩ ⟨[]⟩=> .fn f []
 | x=>ofV x
noncomputable def qD(g:Tg):(A:Ty)→A.den→List T
 | .lim,a=>[.v (.int .u32 (.ofNat a))]
 | .int k,a=>[.v (.int k a)]
 | .bool,b=>[.v (.bool b)]
 | .str,s=>[.v (.string s)]
 | .list A,l=>[.ls g A l]
 | .prod A B,x=>qD g A x.1++qD g B x.2
noncomputable def zCd:(A:Ty)→A.den→List T
 | .lim,_=>[.u]
 | .int _,_=>[.u]
 | .bool,b=>[.v (.bool b)]
 | .str,s=>[.v (.string s)]
 | .list A,l=>[.hv A l]
 | .prod A B,x=>zCd A x.1++zCd B x.2
noncomputable def jW(g:Tg)(A:Ty):List A.den→List T
 | []=>[]
 | x::l=>qD g A x++jW g A l
noncomputable def qN(g:Tg)(A:Ty):List A.den→List T
 | []=>[]
 | x::l=>qN g A l++qD g A x
noncomputable def kind:IntKind→Nat
 | .i8=>0 | .i16=>1 | .i32=>2 | .i64=>3 | .u8=>4 | .u16=>5 | .u32=>6 | .u64=>7
noncomputable def Cs.list:Cs→List T
 | .l cs=>cs
 | .d g A x=>qN g A x
noncomputable def Ty.beq:Ty→Ty→Bool
 | .lim,.lim=>true
 | .int j,.int k=>Nat.beq (kind j) (kind k)
 | .bool,.bool=>true
 | .str,.str=>true
 | .list A,.list B=>A.beq B
 | .prod A B,.prod C D=>A.beq C&&B.beq D
 | _,_=>false
theorem Ty.beq_eq:∀{A B:Ty},A.beq B=true→A=B
 | .lim,.lim,_=>rfl
 | .int j,.int k,h=>by have:=Nat.eq_of_beq_eq_true h;cases j<;>cases k<;>first | rfl | cases this
 | .bool,.bool,_=>rfl
 | .str,.str,_=>rfl
 | .list A,.list B,h=>by rw[Ty.beq_eq (A:=A) (B:=B) h]
 | .prod A B,.prod C D,h=>by
  simp only[Ty.beq,zd]at h;rw[Ty.beq_eq h.1,Ty.beq_eq h.2]
noncomputable def tV(A B:Ty)(l:List A.den):Option (List B.den):=if h:A.beq B=true then some (Ty.beq_eq h▸l)else none
noncomputable def dH:Nat→List T→Option (List T)
 | 0,_=>some []
 | _+1,[]=>none
 | n+1,x::l=>match dH n l with
  | some r=>some (x::r)
  | none=>none
noncomputable def gD:List T→Nat→List T
 | [],_=>[]
 | x::l,n=>match n with
  | 0=>x::l
  | n+1=>gD l n
noncomputable def qCj:List T→Option Nat
 | [.v (.int k (.ofNat a))]=>bif Nat.beq (kind k) 6 then some a else none
 | _=>none
noncomputable def qCi(k:IntKind):List T→Option Int
 | [.v (.int e a)]=>bif Nat.beq (kind k) (kind e)then some a else none
 | _=>none
noncomputable def qCh:List T→Option Bool
 | [.v (.bool b)]=>some b
 | _=>none
noncomputable def qCl:List T→Option ByteArray
 | [.v (.string s)]=>some s
 | _=>none
noncomputable def qCk(g:Tg)(A:Ty):List T→Option (List A.den)
 | [.v (.slice none 0 0)]=>some []
 | [.ls f e l]=>bif g.le f then tV e A l else none
 | _=>none
noncomputable def mD(g:Tg):(A:Ty)→List T→Option A.den
 | .lim,ts=>qCj ts
 | .int k,ts=>qCi k ts
 | .bool,ts=>qCh ts
 | .str,ts=>qCl ts
 | .list A,ts=>qCk g A ts
 | .prod A B,ts=>match dH A.size ts with
  | some u=>(match mD g A u,mD g B (gD ts A.size)with
   | some x,some y=>some (x,y)
   | _,_=>none)
  | none=>none
noncomputable def Cs.app:Cs→List T→Cs
 | .l cs,b=> .l (cs++b)
 | .d g A x,b=>match mD g A b with
  | some y=> .d g A (y::x)
  | none=> .l (qN g A x++b)
noncomputable def Cs.apL(b:List T)(g:Tg)(A:Ty)(z:List A.den):Cs→Cs
 | .l []=> .d g A z.reverse
 | .l (c::cs)=> .l ((c::cs)++b)
 | .d f e x=>match tV A e z with
  | some u=>bif f.le g then .d f e (u.reverse++x)else .l (qN f e x++b)
  | none=> .l (qN f e x++b)
noncomputable def Cs.apY(c:Cs)(y:T)(b:List T):Cs:=match y with
 | .ls g A z=>c.apL b g A z
 | _=>c.app b
noncomputable def dn:T→T
 | .sn cs n=> .sl cs n
 | t=>t
noncomputable def unN:Nat→T→T
 | 0,_=> .u
 | k+1,t=>match t with
  | .sn cs n=> .sl (cs.map (unN k)) n
  | .ls _ A l=> .ls .a A l
  | .hv _ _=> .u
  | .sl cs n=> .sl (cs.map (unN k)) n
  | .st cs n=> .st (cs.map (unN k)) n
  | .fp cs=> .fp (cs.map (unN k))
  | .ag cs=> .ag (cs.map (unN k))
  | .tu cs=> .tu (cs.map (unN k))
  | .fn f cs=> .fn f (cs.map (unN k))
  | .fb f cs=> .fb f (cs.map (unN k))
  | t=>t
noncomputable def mkN:Nat→T→T
 | 0,t=>t
 | k+1,t=>match t with
  | .sl cs n=> .sn (cs.map (mkN k)) n
  | .ls _ A l=> .ls .n A l
  | .ag cs=> .ag (cs.map (mkN k))
  | .tu cs=> .tu (cs.map (mkN k))
  | .fn f cs=> .fn f (cs.map (mkN k))
  | t=>t
noncomputable def evO(L:List T):Operand→T
 | .tmp t=>nth .u L t
 | .const x=>ofC x
 | .func f=> .fn f []
 | .global _=> .u
noncomputable def qLm:IntKind→Nat
 | .i8=>128 | .i16=>32768 | .i32=>2147483648 | .i64=>9223372036854775808 | .u8=>256 | .u16=>65536 | .u32=>4294967296 | .u64=>18446744073709551616
noncomputable def wr(k:IntKind):Int→Int
 | .ofNat n=>bif Nat.blt n (qLm k)then .ofNat n else k.wrap (.ofNat n)
 | .negSucc n=>k.wrap (.negSucc n)
noncomputable def ieq:Int→Int→Bool
 | .ofNat a,.ofNat b=>Nat.beq a b
 | .negSucc a,.negSucc b=>Nat.beq a b
 | _,_=>false
noncomputable def ilt:Int→Int→Bool
 | .ofNat a,.ofNat b=>Nat.blt a b
 | .negSucc a,.negSucc b=>Nat.blt b a
 | .negSucc _,.ofNat _=>true
 | .ofNat _,.negSucc _=>false
noncomputable def zYn(op:BinOp)(k:IntKind)(a b:Int):Option Value:=match op with
 | .add=>some (.int k (wr k (Int.add a b)))
 | .sub=>some (.int k (wr k (Int.sub a b)))
 | .mul=>some (.int k (wr k (Int.mul a b)))
 | .eql=>some (.bool (ieq a b))
 | .neq=>some (.bool (!ieq a b))
 | .lss=>some (.bool (ilt a b))
 | .leq=>some (.bool (!ilt b a))
 | .gtr=>some (.bool (ilt b a))
 | .geq=>some (.bool (!ilt a b))
 | _=>none
noncomputable def zYm(a b:Bool):Bool:=match a with | true=>b | false=>!b
noncomputable def bin(op:BinOp)(x y:Value):Option Value:=match x,y with
 | .int k a,.int e b=>bif Nat.beq (kind k) (kind e)then zYn op k a b else none
 | _,_=>none
noncomputable def zer(P:Program)(t:TypeId):Option (List T):=match(P.info? t)with
 | some i=>(match i.zero with | some v=>some (v.cells.toList.map ofV) | none=>none)
 | none=>none
noncomputable def zYy(P:Program)(s f:Nat):Option (Nat×Nat):=match P.underlying s with
 | some (.struct e)=>(match e[f]? with | some x=>some (x.offset,x.type) | none=>none)
 | _=>none
noncomputable def elT(P:Program)(t:TypeId):Option TypeId:=match P.underlying t with
 | some (.slice e)=>some e
 | _=>none
noncomputable def jJ:List T→Nat→List T
 | [],_=>[]
 | x::l,n=>match n with
  | 0=>x::l
  | n+1=>jJ l n
noncomputable def jN:Nat→List T→Option (List T)
 | 0,_=>some []
 | _+1,[]=>none
 | n+1,x::l=>match jN n l with
  | some r=>some (x::r)
  | none=>none
noncomputable def cellsOf:T→List T
 | .ag cs=>cs
 | t=>[t]
noncomputable def mQ:TO→Option (List T)
 | .row cs _=>some cs
 | .gro cs _=>some cs.list
 | .fz cs=>some cs
 | _=>none
noncomputable def pG:TO→Option (List T)
 | .row cs _=>some cs
 | .gro cs _=>some cs.list
 | _=>none
noncomputable def aA(H:List TO):T→Option (List T)
 | .op i o=>(match mQ (nth .gone H i)with | some cs=>some (jJ cs o) | none=>none)
 | .fp cs=>some cs
 | _=>none
noncomputable def mkT(g:Bool)(cs:List T):T:=bif g then .ag cs else(match cs with | x::_=>x | []=> .u)
noncomputable def rV:T→Option Nat
 | .v (.int _ (.ofNat i))=>some i
 | _=>none
noncomputable def jR(cs:List T)(o:Nat):List T→List T
 | []=>cs
 | x::l=>jR (put x cs o) (o+1) l
noncomputable def isU:T→Bool
 | .u=>true
 | _=>false
noncomputable def one:T→Bool
 | .u | .ag _ | .tu _=>false
 | _=>true
noncomputable def vM:List T→Bool
 | []=>true
 | t::l=>one t&&vM l
noncomputable def zEh(sz:Nat→Option (Nat×Nat))(cs:List T):List (Nat×T)→Option (List T)
 | []=>some cs
 | (i,t)::l=>match sz i with
  | none=>none
  | some (o,s)=>bif !isU t&&(Nat.beq (ln (cellsOf t)) s&&Nat.ble (o+s) (ln cs))then zEh sz (jR cs o (cellsOf t)) l else none
noncomputable def reps(z:List T):Nat→List T
 | 0=>[]
 | n+1=>z++reps z n
noncomputable def evP(ρ:Operand→T)(parts:Array (Nat×Operand)):List (Nat×T):=parts.toList.map fun p=>(p.1,ρ p.2)
noncomputable def nQ(x:T)(e f:Nat)(sz:Nat):Option T:=match x with
 | .sl cs n=>bif Nat.ble e f&&Nat.ble f n then some (bif Nat.beq e f then .sl [] 0 else .sl (jJ cs (e*sz)) (f-e))else none
 | .os i o n c=>bif Nat.ble e f&&Nat.ble f c then(bif Nat.beq e c then some (.os i o (f-e) (c-e))else some (.os i (o+e*sz) (f-e) (c-e)))else none
 | .og i o n=>bif Nat.ble e f&&(Nat.ble f n&&(Nat.blt e n&&Nat.blt 0 sz))then some (.og i (o+e*sz) (f-e))else(bif Nat.beq e 0&&Nat.beq f 0 then some (.og i o 0)else(bif Nat.beq e f&&Nat.ble f n then some (.sl [] 0)else none))
 | .st cs n=>bif Nat.ble e f&&Nat.beq f n then some (bif Nat.beq e f then .st [] 0 else .st (jJ cs (e*sz)) (f-e))else none
 | .v (.slice none 0 0)=>bif Nat.beq f 0&&Nat.beq e 0 then some x else none
 | .ls g A l=>bif Nat.beq sz A.size&&(Nat.ble e f&&Nat.ble f l.length)then some (.ls g A ((l.drop e).take (f-e)))else none
 | _=>none
noncomputable def lX(x:T)(e f j:Nat)(sz:Nat):Option T:=match x with
 | .os i o n c=>bif Nat.ble e f&&(Nat.ble f j&&Nat.ble j c)then some (.os i (bif Nat.beq e j then o else o+e*sz) (f-e) (j-e))else none
 | .og i o n=>bif Nat.ble e f&&(Nat.ble f j&&Nat.ble j n)then some (.os i (bif Nat.beq e j then o else o+e*sz) (f-e) (j-e))else none
 | .sl cs n=>bif Nat.ble e f&&(Nat.beq f j&&Nat.ble j n)then some (bif Nat.beq e f then .st [] 0 else .st (jJ cs (e*sz)) (f-e))else none
 | .st cs n=>bif Nat.ble e f&&(Nat.beq f j&&Nat.ble j n)then some (bif Nat.beq e f then .st [] 0 else .st (jJ cs (e*sz)) (f-e))else none
 | .v (.slice none 0 0)=>bif Nat.beq f 0&&(Nat.beq e 0&&Nat.beq j 0)then some x else none
 | .ls _ _ l=>bif(Nat.beq e f&&Nat.beq f j)&&Nat.ble j l.length then some (.st [] 0)else none
 | _=>none
noncomputable def jI:T→Option Nat
 | .sl _ n=>some n
 | .sn _ n=>some n
 | .st _ n=>some n
 | .os _ _ n _=>some n
 | .og _ _ n=>some n
 | .v (.slice none 0 0)=>some 0
 | .ls _ _ l=>some l.length
 | .hv _ l=>some l.length
 | _=>none
noncomputable def qG(H:List TO)(sz:Nat):T→Option (List T)
 | .sl cs n=>jN (n*sz) cs
 | .sn cs n=>jN (n*sz) cs
 | .st cs n=>jN (n*sz) cs
 | .os i o n _=>(match mQ (nth .gone H i)with | some cs=>jN (n*sz) (jJ cs o) | none=>none)
 | .og i o n=>(match mQ (nth .gone H i)with | some cs=>jN (n*sz) (jJ cs o) | none=>none)
 | .v (.slice none 0 0)=>some []
 | .ls g A l=>bif Nat.beq sz A.size then some (jW g A l)else none
 | _=>none
abbrev R1:=Option (T×Option TO)
noncomputable def zHk(P:Program)(op:BinOp)(t:TypeId):R1:=match elT P t with
 | some _=>(match op with
  | .eql=>some (.v (.bool false),none)
  | .neq=>some (.v (.bool true),none)
  | _=>none)
 | none=>none
noncomputable def val(t:T):R1:=some (t,none)
noncomputable def qAg:Option T→R1
 | some t=>some (t,none)
 | none=>none
noncomputable def zKx(c a b:T):R1:=match c with
 | .v (.bool c)=>val (bif c then a else b)
 | _=>none
noncomputable def zTz(P:Program)(k:Nat)(e:TypeId):R1:=match zer P e with
 | some cs=>some (.op k 0,some (.row cs e))
 | none=>none
noncomputable def qYw(k:Nat)(e:TypeId)(x:T):R1:=bif isU x then none else some (.op k 0,some (.row (cellsOf x) e))
noncomputable def zUd(P:Program):List Field→Option (List (Nat×Nat))
 | []=>some []
 | f::l=>match ldT P f.type,zUd P l with
  | some (_,s),some r=>some ((f.offset,s)::r)
  | _,_=>none
noncomputable def qHe(P:Program)(t:TypeId):Option (Nat→Option (Nat×Nat)):=match P.underlying t with
 | some (.struct f)=>(match zUd P f.toList with
  | some l=>some fun i=>l[i]?
  | none=>none)
 | some (.array _ e)=>(match ldT P e with
  | some (_,s)=>some fun i=>some (i*s,s)
  | none=>none)
 | _=>none
noncomputable def zUa(P:Program)(t:TypeId)(ps:List (Nat×T)):R1:=match zer P t,qHe P t with
 | some z,some f=>(match zEh f z ps with | some cs=>val (.ag cs) | none=>none)
 | _,_=>none
noncomputable def dA(P:Program)(k:Nat)(t:TypeId)(n:Nat)(ps:List (Nat×T)):R1:=match elT P t with
 | some e=>(match zer P e,ldT P e with
  | some z,some (_,s)=>bif Nat.ble (n*s) 16777216&&(Nat.beq (ln z) s&&Nat.blt 0 s)then(match zEh (fun i=>some (i*s,s)) (reps z n) ps with | some cs=>some (.os k 0 n n,some (.row cs e)) | none=>none)else none
  | _,_=>none)
 | none=>none
noncomputable def zBh(P:Program)(H:List TO)(t:TypeId)(a:T):R1:=match ldT P t with
 | some (g,s)=>(match aA H a with
  | some cs=>(match jN s cs with | some cs=>bif g||Nat.beq s 1 then val (mkT g cs)else none | none=>none)
  | none=>none)
 | none=>none
noncomputable def qNs(x:T):R1:=match x with
 | .op i o=>val (.op i o)
 | .fp cs=>val (.fp cs)
 | .fn f cs=>val (.fn f cs)
 | .yl i=>val (.yl i)
 | _=>none
noncomputable def qEj(P:Program)(k:IntKind)(o:Nat)(f:Field):Bool:=match P.underlying f.type with
 | some (.int e)=>Nat.beq (kind k) (kind e)&&(Nat.beq f.offset o&&!(f.name== "_"))
 | _=>false
noncomputable def wR(P:Program)(t:TypeId):Ty→Bool
 | .int k=>(match P.underlying t with | some (.int z)=>Nat.beq (kind k) (kind z) | _=>false)
 | .str=>(match P.underlying t with | some .string=>true | _=>false)
 | .prod (.int i) (.prod (.int j) (.int k))=>(match P.underlying t with
  | some (.struct ⟨[e,f,q]⟩)=>!P.stoodInHeld t&&(qEj P i 0 e&&(qEj P j 1 f&&qEj P k 2 q))
  | _=>false)
 | _=>false
noncomputable def eq3(P:Program)(op:BinOp)(t:TypeId)(xs ys:List T):R1:=match xs,ys with
 | [.v (.int i a),.v (.int j b),.v (.int k c)],[.v (.int f a'),.v (.int q e),.v (.int z c')]=>bif wR P t (.prod (.int i) (.prod (.int j) (.int k)))&&(!P.eqGuardType P.depth t&&(Nat.beq (kind i) (kind f)&&(Nat.beq (kind j) (kind q)&&Nat.beq (kind k) (kind z))))then(match op with
  | .eql=>val (.v (.bool (ieq a a'&&(ieq b e&&ieq c c'))))
  | .neq=>val (.v (.bool (!(ieq a a'&&(ieq b e&&ieq c c')))))
  | _=>none)else none
 | _,_=>none
noncomputable def zZs(P:Program)(op:BinOp)(t:TypeId)(x y:T):R1:=match x,y with
 | .v a,.v b=>(match bin op a b with | some c=>val (.v c) | none=>none)
 | .os ..,.v (.slice none 0 0)=>zHk P op t
 | .og ..,.v (.slice none 0 0)=>zHk P op t
 | .sl (_::_) _,.v (.slice none 0 0)=>zHk P op t
 | .st (_::_) _,.v (.slice none 0 0)=>zHk P op t
 | .ag xs,.ag ys=>eq3 P op t xs ys
 | _,_=>none
noncomputable def qGx(P:Program)(k:Nat)(t:TypeId)(l c:T):R1:=match elT P t,rV l,rV c with
 | some e,some l,some c=>(match zer P e,ldT P e,P.info? e with
  | some z,some (_,s),some i=>bif(Nat.ble l c&&Nat.ble c 1000000)&&(Nat.ble i.bytes 1000000&&(Nat.beq (ln z) s&&Nat.blt 0 s))then some (.os k 0 l c,some (.row (reps z c) e))else none
  | _,_,_=>none)
 | _,_,_=>none
noncomputable def opt(ρ:Operand→T)(d:Nat):Option Operand→Option Nat
 | some x=>rV (ρ x)
 | none=>some d
noncomputable def tL(ρ:Operand→T)(x:T)(s j f:Nat)(e:Option Operand):Option Operand→R1
 | none=>qAg (nQ x j f s)
 | some m=>(match e with
  | some _=>(match rV (ρ m)with
   | some m=>qAg (lX x j f m s)
   | none=>none)
  | none=>none)
noncomputable def nN(P:Program)(t:TypeId)(x:T)(ρ:Operand→T)(j f q:Option Operand):R1:=match elT P t with
 | some e=>(match ldT P e,jI x with
  | some (_,s),some n=>(match opt ρ 0 j,opt ρ n f with
   | some l,some h=>tL ρ x s l h f q
   | _,_=>none)
  | _,_=>none)
 | none=>none
noncomputable def lS(P:Program)(s:TypeId)(x:T)(f:Nat):R1:=match zYy P s f with
 | some (o,t)=>(match ldT P t with
  | some (_,z)=>bif Nat.beq z 0 then none else(match x with
   | .op i j=>val (.op i (j+o))
   | .fp cs=>val (.fp (jJ cs o))
   | _=>none)
  | none=>none)
 | none=>none
noncomputable def zNd(P:Program)(s:TypeId)(x:T)(f:Nat):R1:=match zYy P s f with
 | some (o,t)=>(match x with
  | .ag cs=>(match ldT P t with
   | some (g,s)=>(match jN s (jJ cs o)with | some cs=>bif g||Nat.beq s 1 then val (mkT g cs)else none | none=>none)
   | none=>none)
  | _=>none)
 | none=>none
noncomputable def sJ(P:Program)(t:TypeId)(x i:T):R1:=match rV i with
 | some i=>(match P.underlying t with
  | some (.slice e)=>(match ldT P e with
   | some (_,s)=>(match x with
    | .sl cs n=>bif Nat.blt i n then val (.fp (jJ cs (i*s)))else none
    | .st cs n=>bif Nat.blt i n then val (.fp (jJ cs (i*s)))else none
    | .os j o n _=>bif Nat.blt i n then val (.op j (o+i*s))else none
    | .og j o n=>bif Nat.blt i n then val (.op j (o+i*s))else none
    | .ls g A l=>bif Nat.beq s A.size&&Nat.blt i l.length then val (.fp (qD g A (nth A.zero l i)))else none
    | .hv A l=>bif Nat.beq s A.size&&Nat.blt i l.length then val (.fp (zCd A (nth A.zero l i)))else none
    | _=>none)
   | none=>none)
  | some (.array n e)=>(match ldT P e with
   | some (_,s)=>(match x with
    | .op j o=>bif Nat.blt i n then val (.op j (o+i*s))else none
    | .fp cs=>bif Nat.blt i n then val (.fp (jJ cs (i*s)))else none
    | _=>none)
   | none=>none)
  | _=>none)
 | none=>none
noncomputable def qNp(P:Program)(t:TypeId)(x i:T):R1:=match rV i with
 | some i=>(match P.underlying t with
  | some (.array n e)=>(match ldT P e with
   | some (g,s)=>(match x with
    | .ag cs=>bif Nat.blt i n&&(g||Nat.beq s 1)then(match jN s (jJ cs (i*s))with | some cs=>val (mkT g cs) | none=>none)else none
    | _=>none)
   | none=>none)
  | _=>none)
 | none=>none
noncomputable def zBg(x:T)(i:Nat):R1:=match x with
 | .tu vs=>(match vs[i]? with | some t=>val t | none=>none)
 | _=>none
noncomputable def qYx(x:T):R1:=match jI x with
 | some n=>val (.v (.int .i64 (.ofNat n)))
 | none=>none
noncomputable def pMkF(fn:Fn)(first cs:List T):R1:=match fn,first with
 | .func f,[]=>val (.fn f cs)
 | .func f,bs=>(match cs with | []=>val (.fb f bs) | _=>none)
 | _,_=>none
noncomputable def zJj{α:Type}(P:Program):Sem α→Option α
 | .pure a=>some a
 | .program k=>zJj P (k P)
 | _=>none
noncomputable def vOf:T→Option Value
 | .v x=>some x
 | _=>none
noncomputable def zUp:List T→Option (List Value)
 | []=>some []
 | t::l=>match vOf t,zUp l with
  | some x,some r=>some (x::r)
  | _,_=>none
noncomputable def sOf:T→Option Value
 | .v x=>some x
 | .ag cs=>(match zUp cs with | some l=>some (.agg l.toArray) | none=>none)
 | _=>none
noncomputable def zMk(d:TypeDesc)(k:Value):List (Value×T)→Nat→Option (Option Nat)
 | [],_=>some none
 | e::es,i=>match Instr.sameNow d k e.1 with
  | some true=>some (some i)
  | some false=>zMk d k es (i+1)
  | none=>none
noncomputable def qEo(P:Program)(t:TypeId)(k:Value):List (Value×T)→Nat→Option (Option Nat)
 | [],_=>some none
 | e::es,i=>match zJj P (Op.equal t k e.1)with
  | some true=>some (some i)
  | some false=>qEo P t k es (i+1)
  | none=>none
noncomputable def zKg(P:Program)(t:TypeId)(k:Value)(l:List (Value×T)):Option (Option Nat):=match P.underlying t with
 | some d=>(match zMk d k l 0 with
  | some r=>some r
  | none=>qEo P t k l 0)
 | none=>none
noncomputable def kOk(P:Program)(e:Bool)(t:TypeId)(k:Value):Bool:=match zJj P (Instr.checkKey e 10000 t k)with
 | some _=>true
 | none=>false
noncomputable def emp{α:Type}:List α→Bool
 | []=>true
 | _=>false
noncomputable def zHf(P:Program)(t:TypeId):Option (TypeId×TypeId):=match P.underlying t with
 | some (.map k v)=>some (k,v)
 | _=>none
noncomputable def qOy(P:Program)(e:TypeId):Option T:=match P.info? e with
 | some i=>(match i.zero with | some v=>some (ofC v) | none=>none)
 | none=>none
noncomputable def zJx(H:List TO):T→Option (List (Value×T))
 | .v (.map none)=>some []
 | .om i=>(match nth .gone H i with
  | .map l=>some l
  | _=>none)
 | _=>none
noncomputable def okT(ok:Bool)(t:T)(b:Bool):T:=bif ok then .tu [t,.v (.bool b)]else t
noncomputable def qXy(l:List (Value×T))(i:Nat):Option T:=match l[i]? with
 | some e=>some e.2
 | none=>none
noncomputable def zLu:(A:Ty)→A.den→List Value
 | .int k,a=>[.int k a]
 | .str,s=>[.string s]
 | .prod A B,x=>zLu A x.1++zLu B x.2
 | _,_=>[]
noncomputable def vD:(K:Ty)→K.den→Value
 | .int k,a=> .int k a
 | .str,s=> .string s
 | .prod A B,x=> .agg (zLu (.prod A B) x).toArray
 | _,_=> .nilIface
noncomputable def unT(g:Tg)(V:Ty)(x:V.den):T:=match qD g V x with
 | [t]=>t
 | l=> .ag l
noncomputable def MD.ents(d:MD):List (Value×T):=d.l.map fun e=>(vD d.K e.1,unT d.g d.V e.2)
noncomputable def keq:(K:Ty)→K.den→K.den→Bool
 | .int _,a,b=>ieq a b
 | .str,a,b=>decide (a=b)
 | .prod A B,a,b=>keq A a.1 b.1&&keq B a.2 b.2
 | _,_,_=>false
noncomputable def zTf(K:Ty){α:Type}(k:K.den):List (K.den×α)→Bool
 | []=>false
 | e::l=>keq K k e.1||zTf K k l
noncomputable def rE(K:Ty){α:Type}(z:α)(k:K.den):List (K.den×α)→α
 | []=>z
 | e::l=>bif keq K k e.1 then e.2 else rE K z k l
noncomputable def bW(K:Ty){α:Type}(k:K.den)(x:α):List (K.den×α)→List (K.den×α)
 | []=>[(k,x)]
 | e::l=>bif keq K k e.1 then(k,x)::l else e::bW K k x l
noncomputable def zJr(g:Tg)(A:Ty):T→Option A.den
 | .ag cs=>bif Nat.blt 1 A.size then mD g A cs else none
 | t=>bif Nat.beq A.size 1 then mD g A [t]else none
noncomputable def dOf(H:List TO):T→Option MD
 | .om i=>(match nth .gone H i with
  | .mapd d=>some d
  | _=>none)
 | _=>none
noncomputable def lkD(P:Program)(e f:TypeId)(d:MD)(k:T)(ok:Bool):R1:=match zJr .a d.K k,qOy P f with
 | some key,some z=>(match zJr d.g d.V z with
  | some z0=>bif wR P e d.K then val (okT ok (unT d.g d.V (rE d.K z0 key d.l)) (zTf d.K key d.l))else none
  | none=>none)
 | _,_=>none
noncomputable def zHw(P:Program)(H:List TO)(t:TypeId)(m k:T)(ok:Bool):R1:=match zHf P t,zJx H m,sOf k with
 | some (e,j),some l,some f=>bif kOk P (emp l) e f then(match zKg P e f l with
  | some (some i)=>(match qXy l i with | some x=>val (okT ok x true) | none=>none)
  | some none=>(match qOy P j with | some z=>val (okT ok z false) | none=>none)
  | none=>none)else none
 | _,_,_=>none
noncomputable def zNe(P:Program)(H:List TO)(t:TypeId)(m k:T)(ok:Bool):R1:=match dOf H m with
 | some d=>(match zHf P t with
  | some (e,f)=>lkD P e f d k ok
  | none=>none)
 | none=>zHw P H t m k ok
noncomputable def qGu(H:List TO)(m:T):R1:=match dOf H m with
 | some d=>val (.v (.int .i64 (.ofNat d.l.length)))
 | none=>(match zJx H m with
  | some l=>val (.v (.int .i64 (.ofNat (ln l))))
  | none=>none)
noncomputable def zEk(P:Program)(H:List TO)(ρ:Operand→T)(c:Call):R1:=match c.callee,c.args.toList,c.argTypes.toList with
 | .builtin .len,[x],[t]=>(match elT P t with
  | some _=>qYx (ρ x)
  | none=>(match zHf P t with
   | some _=>qGu H (ρ x)
   | none=>none))
 | _,_,_=>none
noncomputable def kX(P:Program)(H:List TO)(k:Nat)(ρ:Operand→T)(op:Op):R1:=match op with
 | .move x=>val (ρ x)
 | .assign x=>val (ρ x)
 | .pick c a b=>zKx (ρ c) (ρ a) (ρ b)
 | .alloc e=>zTz P k e
 | .box e x=>qYw k e (ρ x)
 | .build t parts=>zUa P t (evP ρ parts)
 | .buildSlice t n parts=>dA P k t n (evP ρ parts)
 | .load t a=>zBh P H t (ρ a)
 | .nilCheck x=>qNs (ρ x)
 | .binOp op t x y _=>zZs P op t (dn (ρ x)) (dn (ρ y))
 | .makeFunc fn first caps=>pMkF fn (first.toList.map ρ) (caps.toList.map ρ)
 | .makeSlice t l c=>qGx P k t (ρ l) (ρ c)
 | .slice t x q j z=>nN P t (dn (ρ x)) (fun y=>dn (ρ y)) q j z
 | .fieldAddr s x f=>lS P s (ρ x) f
 | .field s x f=>zNd P s (ρ x) f
 | .indexAddr t x i=>sJ P t (dn (ρ x)) (dn (ρ i))
 | .index t x i=>qNp P t (dn (ρ x)) (dn (ρ i))
 | .extract x i=>zBg (ρ x) i
 | .call c=>zEk P H (fun y=>dn (ρ y)) c
 | .makeMap _ none=>some (.om k,some (.map []))
 | .lookup t m x ok=>zNe P H t (ρ m) (ρ x) ok
 | _=>none
noncomputable def qAa(H:List TO)(i o:Nat)(vs:List T):Option (List TO):=match nth .gone H i with
 | .row cs e=>bif Nat.ble (o+ln vs) (ln cs)then some (put (.row (jR cs o vs) e) H i)else none
 | .gro cs e=>bif Nat.ble (o+ln vs) (ln cs.list)then some (put (.gro (.l (jR cs.list o vs)) e) H i)else none
 | _=>none
noncomputable def qSt(H:List TO)(e:TypeId)(y:T)(a b:List T)(n m:Nat):T×List TO:=(.og (ln H) 0 (n+m),H++[.gro ((Cs.l a).apY y b) e])
noncomputable def qJn(H:List TO)(x:T):Option (T×List TO):=match x with
 | .v _=>some (x,H)
 | .og .. =>some (x,H)
 | .os _ _ n c=>bif Nat.ble n c then some (x,H)else none
 | .st .. =>some (x,H)
 | _=>none
noncomputable def qSs(H:List TO)(e:TypeId)(s:Nat)(y:T)(a b:List T)(i o n m:Nat):TO→Option (T×List TO)
 | .gro cs f=>bif Nat.beq o 0&&(Nat.beq (ln cs.list) (n*s)&&Nat.beq e f)then some (.og (ln H) 0 (n+m),put .gone H i++[.gro (cs.apY y b) e])else none
 | _=>none
noncomputable def qJp(H:List TO)(e:TypeId)(s:Nat)(y:T)(a b:List T)(n m:Nat)(x:T):Option (T×List TO):=match x with
 | .v _=>some (qSt H e y a b n m)
 | .st .. =>some (qSt H e y a b n m)
 | .os _ _ f c=>bif Nat.beq f c then some (qSt H e y a b n m)else none
 | .og i o n=>qSs H e s y a b i o n m (nth .gone H i)
 | _=>none
noncomputable def apM(b:Nat):Nat:=(281474976710656 / b-192)*4 / 5
noncomputable def zAd(P:Program)(e:TypeId)(s N:Nat):Bool:=match P.info? e,zer P e with
 | some i,some z=>Nat.beq (ln z) s&&(Nat.ble N (apM i.bytes)&&Nat.blt 0 s)
 | _,_=>false
noncomputable def zSd(P:Program)(H:List TO)(t:TypeId)(x y:T):Option (T×List TO):=match elT P t with
 | none=>none
 | some e=>match ldT P e with
  | none=>none
  | some (_,s)=>match qG H s x,qG H s y,jI x,jI y with
   | some a,some b,some n,some m=>bif Nat.beq m 0 then qJn H x else bif zAd P e s (n+m)&&vM b then qJp H e s y a b n m x else none
   | _,_,_,_=>none
noncomputable def qOl(P:Program)(H:List TO)(t:TypeId)(a x:T):Option (List TO):=match ldT P t,a with
 | some (_,m),.op i o=>bif vM (cellsOf x)&&Nat.beq (ln (cellsOf x)) m then qAa H i o (cellsOf x)else none
 | _,_=>none
noncomputable def jAq(P:Program)(j:TypeId)(f:Value)(x:T)(l:List (Value×T)):Option (List (Value×T)):=bif kOk P false j f then(match zKg P j f l with
 | some (some i)=>(match l[i]? with
  | some e=>bif Instr.sameBits 10000 e.1 f then some (put (f,x) l i)else none
  | none=>none)
 | some none=>some (l++[(f,x)])
 | none=>none)else none
noncomputable def jAp(P:Program)(e:TypeId)(d:MD)(k x:T):Option MD:=match zJr .a d.K k,zJr d.g d.V x with
 | some key,some y=>bif wR P e d.K then some ⟨d.g,d.K,d.V,bW d.K key y d.l⟩else none
 | _,_=>none
noncomputable def qOs(P:Program)(H:List TO)(t:TypeId)(m k x:T):Option (List TO):=match m with
 | .om i=>(match nth .gone H i with
  | .map l=>(match zHf P t,sOf k with
   | some (e,_),some f=>(match jAq P e f x l with
    | some l=>some (put (.map l) H i)
    | none=>none)
   | _,_=>none)
  | .mapd d=>(match zHf P t with
   | some (e,_)=>(match jAp P e d k x with
    | some d=>some (put (.mapd d) H i)
    | none=>none)
   | none=>none)
  | _=>none)
 | _=>none
noncomputable def qKc(P:Program)(H:List TO)(t:TypeId)(x y:T):Option (T×List TO):=match x with
 | .os i o n _=>(match elT P t with
  | some e=>(match ldT P e with
   | some (_,s)=>(match qG H s y,jI y with
    | some b,some m=>(match jN (Nat.min m n*s) b with
     | some us=>bif vM us&&Nat.blt 0 (Nat.min m n*s)then(match qAa H i o us with | some H'=>some (.v (.int .i64 (.ofNat (Nat.min m n))),H') | none=>none)else none
     | none=>none)
    | _,_=>none)
   | none=>none)
  | none=>none)
 | _=>none
noncomputable def zCg(P:Program)(H:List TO)(ρ:Operand→T)(op:Op):Option (Option T×List TO):=match op with
 | .store t a x=>(match qOl P H t (ρ a) (ρ x)with | some H=>some (none,H) | none=>none)
 | .mapUpdate t m k x=>(match qOs P H t (ρ m) (ρ k) (ρ x)with | some H=>some (none,H) | none=>none)
 | .call c=>(match c.callee,c.args.toList,c.argTypes.toList with
  | .builtin .append,[x,y],[t,e]=>bif Nat.beq t e then(match zSd P H t (ρ x) (ρ y)with | some (v,H)=>some (some v,H) | none=>none)else none
  | .builtin .copy,[x,y],[t,_]=>(match qKc P H t (ρ x) (ρ y)with | some (v,H)=>some (some v,H) | none=>none)
  | _,_,_=>none)
 | _=>none
noncomputable def zRf(ρ:Operand→T):List Operand→Bool
 | []=>true
 | x::l=>(match sOf (ρ x)with | some _=>zRf ρ l | none=>false)
noncomputable def sAt(ρ:Operand→T)(x:Operand):Value:=match sOf (ρ x)with
 | some v=>v
 | none=>undef
noncomputable def qFi:Option Next→Option T
 | some (.value v)=>some (ofC v)
 | _=>none
noncomputable def zBa(P:Program)(ρ:Operand→T)(o:Oper):Option T:=bif zPz o.op&&zRf ρ o.op.operands.toList then qFi (zJj P (execOp (sAt ρ) o))else none
noncomputable def kK(ops:Array Oper)(L:List T)(o:Oper):Option Bool:=match o.guard with
 | none=>some true
 | some (j,b)=>match(match ops[j]? with | some p=>p.dst | none=>none)with
  | some t=>(match nth .u L t with
   | .v (.bool c)=>some (zYm c b)
   | .v (.int .u8 _)=>none
   | .tu []=>some false
   | _=>none)
  | none=>none
noncomputable def dst(d:Option Nat)(t:T)(L:List T):List T:=match d with
 | some d=>put t L d
 | none=>L
abbrev Cl:=Nat→List T→List TO→Option (T×List TO)
abbrev Po:=Nat→List T→Option (T×Bool)
abbrev Oo:=List TO→Nat→List T→Option T
abbrev Rn:=Code→S→Option (Ex×S)
noncomputable def zOz(d:Option Nat)(L:List T)(H:List TO)(r:T×Option TO):Option S:=match r.2 with
 | none=>some ⟨dst d r.1 L,H⟩
 | some ob=>some ⟨dst d r.1 L,H++[ob]⟩
noncomputable def zPa(d:Option Nat)(L:List T)(r:Option T×List TO):Option S:=match r.1 with
 | some t=>some ⟨dst d t L,r.2⟩
 | none=>(match d with
  | none=>some ⟨L,r.2⟩
  | some _=>none)
noncomputable def zCk(d:Option Nat)(L:List T):Option (T×List TO)→Option S
 | some (t,H)=>some ⟨dst d t L,H⟩
 | none=>none
noncomputable def jT(P:Program)(f:Nat):Bool:=match P.funcs[f]? with
 | some fn=>bif fn.name== "runtime.NumGoroutine" then false else fn.body.isSome
 | none=>false
noncomputable def zEd(P:Program)(cl yd:Cl)(d:Option Nat)(L:List T)(H:List TO)(az:List T):T→Option S
 | .fn f cs=>bif jT P f then zCk d L (cl f (az++cs) H)else none
 | .fb f bs=>bif jT P f then zCk d L (cl f (bs++az) H)else none
 | .yl l=>zCk d L (yd l az H)
 | _=>none
noncomputable def opC(P:Program)(cl yd:Cl)(d:Option Nat)(L:List T)(H:List TO):Op→Option S
 | .call c=>(match c.callee with
  | .value f=>zEd P cl yd d L H (c.args.toList.map (evO L)) (evO L f)
  | _=>none)
 | _=>none
noncomputable def qFv(P:Program)(o:Oper)(L:List T)(H:List TO):Option S:=match zBa P (evO L) o with
 | some t=>some ⟨dst o.dst t L,H⟩
 | none=>none
noncomputable def zQe(P:Program)(cl yd:Cl)(o:Oper)(L:List T)(H:List TO):Option S:=match zCg P H (evO L) o.op with
 | some r=>zPa o.dst L r
 | none=>match opC P cl yd o.dst L H o.op with
  | some s=>some s
  | none=>qFv P o L H
noncomputable def fU(P:Program)(cl yd:Cl)(o:Oper)(L:List T)(H:List TO):Option S:=match kX P H (ln H) (evO L) o.op with
 | some r=>zOz o.dst L H r
 | none=>zQe P cl yd o L H
noncomputable def opE(P:Program)(cl yd:Cl)(ops:Array Oper)(o:Oper)(s:S):Option S:=match kK ops s.L o with
 | none=>none
 | some false=>some ⟨dst o.dst (.tu []) s.L,s.H⟩
 | some true=>fU P cl yd o s.L s.H
noncomputable def zQj(P:Program)(cl yd:Cl)(ops:Array Oper):List Oper→S→Option S
 | [],s=>some s
 | o::l,s=>match opE P cl yd ops o s with
  | some s=>zQj P cl yd ops l s
  | none=>none
noncomputable def kV:Op→Bool
 | .defer _=>false
 | _=>true
noncomputable def qZa(L:List T):Op→Option T
 | .panic x=>(match evO L x with
  | .v (.iface t (.int k n))=>some (.v (.iface t (.int k n)))
  | _=>none)
 | _=>none
noncomputable def qTh(P:Program)(e:Cl)(s:S):Op→Option (T×List TO)
 | .call c=>(match c.callee with
  | .value f=>(match evO s.L f with
   | .fn f cs=>bif jT P f then e f (c.args.toList.map (evO s.L)++cs) s.H else none
   | .fb f bs=>bif jT P f then e f (bs++c.args.toList.map (evO s.L)) s.H else none
   | _=>none)
  | _=>none)
 | _=>none
noncomputable def qVh(L:List T):Option (T×List TO)→Option (Ex×S)
 | some (t,H)=>some (.p t,⟨L,H⟩)
 | none=>none
noncomputable def opP(P:Program)(e:Cl)(ops:Array Oper)(o:Oper)(s:S):Option (Ex×S):=match kK ops s.L o with
 | some true=>(match qZa s.L o.op with
  | some t=>some (.p t,s)
  | none=>qVh s.L (qTh P e s o.op))
 | _=>none
noncomputable def qGg(P:Program)(cl yd e:Cl)(ops:Array Oper):List Oper→S→Option (Ex×S)
 | [],s=>some (.n,s)
 | o::l,s=>match opE P cl yd ops o s with
  | some s=>qGg P cl yd e ops l s
  | none=>opP P e ops o s
noncomputable def zZn(P:Program)(cl yd:Cl)(ops:Array Oper):List Oper→S→Option (T×S)
 | [],_=>none
 | o::l,s=>bif kV o.op then(match opE P cl yd ops o s with
  | some s=>zZn P cl yd ops l s
  | none=>none)else(match l,o.op,o.guard,o.dst with
   | [],.defer c,none,none=>(match c.callee,c.args.toList with
    | .value f,[]=>(match evO s.L f with
     | .fn f cs=>bif jT P f then some (.fn f cs,s)else none
     | _=>none)
    | _,_=>none)
   | _,_,_,_=>none)
noncomputable def qOe(P:Program)(H:List TO)(x:T)(e:TypeId):Option T:=match ldT P e with
 | some (g,s)=>(match aA H x with
  | some cs=>(match jN s cs with
   | some cs=>bif g||Nat.beq s 1 then some (mkT g cs)else none
   | none=>none)
  | none=>none)
 | none=>none
noncomputable def dC(P:Program)(L:List T)(H:List TO):List ResultVar→Option (List T)
 | []=>some []
 | .tmp t::l=>(match dC P L H l with | some r=>some (nth .u L t::r) | none=>none)
 | .cell t e::l=>(match qOe P H (nth .u L t) e,dC P L H l with
  | some x,some r=>some (x::r)
  | _,_=>none)
noncomputable def zQp:List T→T
 | [t]=>t
 | l=> .tu l
noncomputable def us:Nat→List T
 | 0=>[]
 | n+1=> .u::us n
noncomputable def rest(n:Nat)(az:List T):List T:=az++us (n-ln az)
noncomputable def zJh:List T→List Nat→List T→List T
 | L,p::ps,a::az=>zJh (put a L p) ps az
 | L,_,_=>L
noncomputable def zRa(P:Program)(fn:Func):Option (Ex×S)→Option (T×List TO)
 | some (.x _,_)=>none
 | some (.p _,_)=>none
 | some (_,s)=>(match dC P s.L s.H fn.results.toList with
  | some r=>some (zQp r,s.H)
  | none=>none)
 | none=>none
noncomputable def clean:Nat→T→Bool
 | 0,_=>false
 | k+1,t=>match t with
  | .v _=>true
  | .ls g _ _=>g.isA
  | .sl cs _=>cs.all (clean k)
  | .st cs _=>cs.all (clean k)
  | .fp cs=>cs.all (clean k)
  | .ag cs=>cs.all (clean k)
  | .tu cs=>cs.all (clean k)
  | .fn _ cs=>cs.all (clean k)
  | _=>false
noncomputable def vW(f:T→Option T):List T→Option (List T)
 | []=>some []
 | t::l=>match f t,vW f l with
  | some x,some r=>some (x::r)
  | _,_=>none
noncomputable def gK:Ty→Bool
 | .lim=>false
 | .prod A B=>gK A&&gK B
 | _=>true
noncomputable def zTd(nw:Bool)(o n:Nat):TO→Option T
 | .gro (.d g A x) _=>bif(Nat.beq o 0&&(gK A&&(!nw||g.isN)))&&Nat.beq n x.length then some (.ls .a A x.reverse)else none
 | _=>none
noncomputable def jY(nw:Bool)(H:List TO):Nat→T→Option T
 | 0,_=>none
 | k+1,t=>match t with
  | .v x=>some (.v x)
  | .ls g A l=>bif nw then(bif g.isN then some (.ls .a A l)else none)else some (.ls .a A l)
  | .sl cs n=>bif nw then(match cs,n with | [],0=>some (.sl [] 0) | _,_=>none)else(bif clean 9 (.sl cs n)then some (.sl cs n)else none)
  | .sn cs n=>(match vW (jY nw H k) cs with | some l=>some (.sl l n) | none=>none)
  | .st cs n=>bif nw then(match cs,n with | [],0=>some (.st [] 0) | _,_=>none)else(bif clean 9 (.st cs n)then some (.st cs n)else none)
  | .fp cs=>bif nw then none else(bif clean 9 (.fp cs)then some (.fp cs)else none)
  | .ag cs=>(match vW (jY nw H k) cs with | some l=>some (.ag l) | none=>none)
  | .tu cs=>(match vW (jY nw H k) cs with | some l=>some (.tu l) | none=>none)
  | .fn f cs=>(match vW (jY nw H k) cs with | some l=>some (.fn f l) | none=>none)
  | .os i o n c=>bif Nat.ble n c&&Nat.ble c 9223372036854775807 then(match pG (nth .gone H i)with
   | some cs=>(match vW (jY nw H k) (jJ cs o)with | some l=>some (.sl l n) | none=>none)
   | none=>none)else none
  | .og i o n=>(match zTd nw o n (nth .gone H i)with
   | some t=>some t
   | none=>(match pG (nth .gone H i)with
    | some cs=>(match vW (jY nw H k) (jJ cs o)with | some l=>some (.sl l n) | none=>none)
    | none=>none))
  | .op i o=>(match pG (nth .gone H i)with
   | some cs=>(match vW (jY nw H k) (jJ cs o)with | some l=>some (.fp l) | none=>none)
   | none=>none)
  | _=>none
noncomputable def qGr:Nat→T→Bool
 | 0,_=>true
 | k+1,t=>match t with
  | .os .. | .og .. | .op .. | .om _ | .yl _=>true
  | .ag cs=>cs.any (qGr k)
  | .tu cs=>cs.any (qGr k)
  | .fn _ cs=>cs.any (qGr k)
  | .fb _ cs=>cs.any (qGr k)
  | _=>false
noncomputable def zZq(l:List T):Bool:=l.any (qGr 6)
noncomputable def poC(po:Po)(H:List TO)(f:Nat)(az:List T):Option T:=bif zZq az then(match vW (jY false H 12) az with
  | some e=>(match po f e with
   | some (t,true)=>some (mkN 12 t)
   | _=>none)
  | none=>none)
 else(match po f az with
  | some (t,nw)=>some (bif nw then mkN 12 t else t)
  | none=>none)
noncomputable def endY(l:Nat):Option (Ex×S)→Option (T×List TO)
 | some (e,s)=>(match nth .gone s.H l with
  | .loop L ps a b false none=>(match e with
   | .n=>some (.v (.bool true),put (.loop L ps a b true none) s.H l)
   | .r=>some (.v (.bool false),put (.loop L ps a b false (some .ret)) s.H l)
   | .x id=>some (.v (.bool false),put (.loop L ps a b false (some (.exit id))) s.H l)
   | .p _=>none)
  | _=>none)
 | none=>none
noncomputable def qQa(rn:Rn)(l:Nat)(e:Code):Option (Ex×S)→Option (T×List TO)
 | some (.n,s)=>(match nth .gone s.H l with
  | .loop L ps a b true none=>endY l (rn e ⟨s.L,put (.loop L ps a b false none) s.H l⟩)
  | _=>none)
 | _=>none
noncomputable def zIv(rn:Rn):Cl:=fun l az H=>match nth .gone H l with
 | .loop L ps a b true none=>bif Nat.beq (ln ps) (ln az)then qQa rn l b (rn a ⟨zJh L ps az,H⟩)else none
 | _=>none
noncomputable def zFi(rn:Rn)(y:Code):Option (Ex×S)→Option (Ex×S)
 | some (.n,s)=>rn y s
 | r=>r
noncomputable def qQe(rn:Rn)(x y:Code)(s:S):T→Option (Ex×S)
 | .v (.bool b)=>rn (bif b then x else y) s
 | _=>none
noncomputable def zYo(id:Nat):Option (Ex×S)→Option (Ex×S)
 | some (.x j,s)=>some (bif Nat.beq j id then .n else .x j,s)
 | r=>r
noncomputable def qOd:Option S→Option (Ex×S)
 | some s=>some (.n,s)
 | none=>none
noncomputable def qVd(l:Nat)(L:List T):Option (T×List TO)→Option (Ex×S)
 | some (_,H)=>(match nth .gone H l with
  | .loop _ _ _ _ true none=>some (.n,⟨L,put .gone H l⟩)
  | .loop _ _ _ _ false (some .ret)=>some (.r,⟨L,put .gone H l⟩)
  | .loop _ _ _ _ false (some (.exit id))=>some (.x id,⟨L,put .gone H l⟩)
  | _=>none)
 | none=>none
noncomputable def qZt(P:Program)(cl:Cl)(ps:List Nat)(a b:Code)(L:List T)(H:List TO):T→Option (Ex×S)
 | .fn f cs=>bif jT P f then qVd (ln H) L (cl f (.yl (ln H)::cs) (H++[.loop L ps a b true none]))else none
 | _=>none
noncomputable def noR:Code→Bool
 | .seq x y=>noR x&&noR y
 | .cond _ x y=>noR x&&noR y
 | .block _ x=>noR x
 | .loop x=>noR x
 | .rangeFunc .. =>false
 | .scope _=>false
 | _=>true
noncomputable def fQ(ops:Array Oper):Bool:=ops.toList.all fun o=>kV o.op
noncomputable def zPm(o:Oper):Bool:=match o.op with
 | .call c=>(match c.callee,c.args.toList with
  | .builtin .recover,[]=>true
  | _,_=>false)
 | _=>false
noncomputable def noG(o:Oper):Bool:=match o.guard with
 | none=>true
 | some _=>false
noncomputable def zMd:List Nat→List Nat→Bool
 | [],[]=>true
 | a::l,b::m=>Nat.beq a b&&zMd l m
 | _,_=>false
noncomputable def zXi(ops:Array Oper):Bool:=
 zMd (Region.ready .any ops #[false,false,false,false]) [0,1]&&(zMd (Region.ready .any ops #[true,false,false,false]) [1]&&(zMd (Region.ready .any ops #[false,true,false,false]) [0]&&
 (zMd (Region.ready .any ops #[true,true,false,false]) [2]&&(zMd (Region.ready .any ops #[true,true,true,false]) [3]&&zMd (Region.ready .any ops #[true,true,true,true]) []))))
noncomputable def qOc(P:Program)(cl yd:Cl)(ops:Array Oper)(x:T)(s:S):Option S:=match ops.toList with
 | [f,j,A,C]=>bif zPm f&&(noG f&&(noG j&&(zXi ops&&(kV A.op&&kV C.op))))then(match f.dst,j.dst,j.op with
  | some e,some q,.load t (.tmp a)=>bif !Nat.beq e q&&!Nat.beq e a then(match zBh P s.H t (nth .u s.L a)with
   | some (z,none)=>zQj P cl yd ops [A,C] ⟨put z (put x s.L e) q,s.H⟩
   | _=>none)else none
  | _,_,_=>none)else none
 | _=>none
noncomputable def zSn(P:Program)(cl yd:Cl)(rn:Rn)(x:T)(H:List TO):T→Option (List TO)
 | .fn f cs=>(match P.funcs[f]? with
  | some fn=>(match fn.body,fn.results.toList with
   | some (.seq (.region _ ops true) c),[]=>bif Nat.ble (ln cs) fn.ntmps&&noR c then(match qOc P cl yd ops x ⟨rest fn.ntmps cs,H⟩with
    | some s=>(match rn c s with
     | some (.n,s)=>some s.H
     | some (.r,s)=>some s.H
     | _=>none)
    | none=>none)else none
   | _,_=>none)
  | none=>none)
 | _=>none
noncomputable def zZe(P:Program)(fn:Func)(s:S):Option (List TO)→Option (T×List TO)
 | some H=>(match dC P s.L H fn.results.toList with
  | some r=>some (zQp r,H)
  | none=>none)
 | none=>none
noncomputable def zYt(P:Program)(cl yd:Cl)(rn:Rn)(fn:Func)(g:T):Option (Ex×S)→Option (T×List TO)
 | some (.n,s)=>zZe P fn s (zSn P cl yd rn (.v .nilIface) s.H g)
 | some (.r,s)=>zZe P fn s (zSn P cl yd rn (.v .nilIface) s.H g)
 | some (.p t,s)=>zZe P fn s (zSn P cl yd rn t s.H g)
 | _=>none
noncomputable def defE(P:Program)(cl yd:Cl)(rn:Rn)(fn:Func)(s:S):Code→Option (T×List TO)
 | .seq e (.seq (.region _ ops false) f)=>(match rn e s with
  | some (.n,s)=>(match zZn P cl yd ops ops.toList s with
   | some (g,s)=>zYt P cl yd rn fn g (rn f s)
   | none=>none)
  | _=>none)
 | _=>none
noncomputable def nK(P:Program)(rn:Rn)(f:Nat)(az:List T)(H:List TO):Option (T×List TO):=match P.funcs[f]? with
 | none=>none
 | some fn=>match fn.body with
  | none=>none
  | some c=>bif Nat.ble (ln az) fn.ntmps then zRa P fn (rn c ⟨rest fn.ntmps az,H⟩)else none
noncomputable def zSx(P:Program)(rn:Rn)(f:Nat)(az:List T)(H:List TO):Option (T×List TO):=match P.funcs[f]? with
 | none=>none
 | some fn=>match fn.body with
  | none=>none
  | some c=>bif Nat.ble (ln az) fn.ntmps then defE P (nK P rn) (fun _ _ _=>none) rn fn ⟨rest fn.ntmps az,H⟩ c else none
noncomputable def fF(P:Program)(rn:Rn)(f:Nat)(az:List T)(H:List TO):Option (T×List TO):=match nK P rn f az H with
 | some r=>some r
 | none=>zSx P rn f az H
noncomputable def zZw:Option (Ex×S)→Option (T×List TO)
 | some (.p t,s)=>some (t,s.H)
 | _=>none
noncomputable def zSy(P:Program)(rn:Rn):Cl:=fun f az H=>match P.funcs[f]? with
 | none=>none
 | some fn=>match fn.body with
  | none=>none
  | some c=>bif Nat.ble (ln az) fn.ntmps then zZw (rn c ⟨rest fn.ntmps az,H⟩)else none
noncomputable def zJm(P:Program)(e:Oo)(O:Po)(rn:Rn):Cl:=fun f az H=>match e H f az with
 | some r=>some (r,H)
 | none=>match poC O H f az with
  | some r=>some (r,H)
  | none=>fF P rn f az H
noncomputable def gF:Nat→List TO
 | 0=>[]
 | n+1=> .gone::gF n
noncomputable def qDt(H:List TO)(t:T):Option (T×Bool):=match jY true H 12 t with
 | some t=>some (t,true)
 | none=>match jY false H 12 t with
  | some t=>some (t,false)
  | none=>none
noncomputable def kH(P:Program)(rn:Rn)(k:Nat):Po:=fun f az=>match fF P rn f (az.map (unN 12)) (gF k)with
 | some (t,H)=>qDt H t
 | none=>none
noncomputable def zIb(P:Program)(O:Po)(rn:Rn)(k:Nat):Po:=fun f az=>match O f az with
 | some t=>some t
 | none=>kH P rn k f az
noncomputable def gG(P:Program)(po:Po)(H:List TO)(L:List T):Op→Option T
 | .call c=>(match c.callee with
  | .value f=>(match evO L f with
   | .fn f cs=>bif jT P f then poC po H f (c.args.toList.map (evO L)++cs)else none
   | _=>none)
  | _=>none)
 | _=>none
noncomputable def qBx(H0 f:List TO)(e:TypeId)(s:Nat)(z:Option Nat)(x:T):Option (Cs×Nat):=match z with
 | none=>(match x with
  | .v (.slice none 0 0)=>some (.l [],0)
  | .os _ _ n c=>bif Nat.beq n c then(match qG f s x with | some a=>some (.l a,n) | none=>none)else none
  | .st _ n=>(match qG f s x with | some a=>some (.l a,n) | none=>none)
  | _=>none)
 | some q=>(match x with
  | .og i o n=>bif Nat.beq i q&&Nat.beq o 0 then(match nth .gone H0 i with
   | .gro cs j=>bif Nat.beq (ln cs.list) (n*s)&&Nat.beq e j then some (cs,n)else none
   | _=>none)else none
  | _=>none)
noncomputable def zYl(P:Program)(H0 f:List TO)(q:Option Nat)(t:TypeId)(x y:T):R1:=match elT P t with
 | none=>none
 | some e=>match ldT P e with
  | none=>none
  | some (_,s)=>match qBx H0 f e s q x,qG f s y,jI y with
   | some (a,nx),some b,some j=>bif !Nat.beq j 0&&(zAd P e s (nx+j)&&vM b)then some (.og (ln f) 0 (nx+j),some (.gro (a.apY y b) e))else none
   | _,_,_=>none
noncomputable def zJa(P:Program)(H0 e:List TO)(f:Option Nat)(L:List T):Op→R1
 | .call c=>(match c.callee,c.args.toList,c.argTypes.toList with
  | .builtin .append,[x,y],[t,j]=>bif Nat.beq t j then zYl P H0 e f t (evO L x) (evO L y)else none
  | _,_,_=>none)
 | _=>none
noncomputable def pK(L:List T):Op→Option Nat
 | .call c=>(match c.callee,c.args.toList with
  | .builtin .append,[x,_]=>(match evO L x with
   | .og q _ _=>some q
   | _=>none)
  | _,_=>none)
 | _=>none
noncomputable def mH(P:Program)(po:Po)(H0 H e:List TO)(L:List T)(o:Oper):R1:=match pK L o.op with
 | some q=>zJa P H0 e (some q) L o.op
 | none=>match kX P H (ln e) (evO L) o.op with
  | some z=>some z
  | none=>match gG P po e L o.op with
   | some t=>some (t,none)
   | none=>match zJa P H0 e none L o.op with
    | some z=>some z
    | none=>match zBa P (evO L) o with
     | some t=>some (t,none)
     | none=>none
noncomputable def xE(P:Program)(po:Po)(H0 H e:List TO)(L:List T)(ops:Array Oper)(o:Oper):R1:=match kK ops L o with
 | none=>none
 | some false=>some (.tu [],none)
 | some true=>mH P po H0 H e L o
noncomputable def nxH(H:List TO):Option TO→List TO
 | none=>H
 | some ob=>H++[ob]
noncomputable def zRh(o:Oper)(seen:List Nat):List Nat:=(match o.dst with | some d=>[d] | none=>[])++(o.op.operands.toList.filterMap (fun | .tmp t=>some t | _=>none)++seen)
noncomputable def zNn(o:Oper)(seen:List Nat):Bool:=match o.dst with
 | some d=>seen.any (Nat.beq d)
 | none=>false
noncomputable def sW(P:Program)(po:Po)(H0 H:List TO)(ops:Array Oper):List Oper→List Nat→List TO→List T→List (T×Option TO)
 | [],_,_,_=>[]
 | o::l,seen,e,L=>bif zNn o seen then[]else match xE P po H0 H e L ops o with
  | some z=>z::sW P po H0 H ops l (zRh o seen) (nxH e z.2) (dst o.dst z.1 L)
  | none=>[]
noncomputable def kI:List Oper→List (T×Option TO)→List T→List T
 | o::l,z::rs,L=>kI l rs (dst o.dst z.1 L)
 | _,_,L=>L
noncomputable def qI:List (T×Option TO)→List TO
 | []=>[]
 | (_,some ob)::rs=>ob::qI rs
 | (_,none)::rs=>qI rs
noncomputable def zUq(o:Oper)(i:Nat):Bool:=o.after.toList.any fun e=>Region.binds .any e&&Nat.beq e.on i
noncomputable def wrt(t:Nat):List Oper→Nat→Option Nat
 | [],_=>none
 | o::l,i=>match o.dst with
  | some d=>bif Nat.beq d t then some i else wrt t l (i+1)
  | none=>wrt t l (i+1)
noncomputable def zDr(hd:List Oper)(o:Oper)(i t:Nat):Bool:=match wrt t hd 0 with
 | none=>true
 | some j=>Nat.blt j i&&zUq o j
noncomputable def qGe(hd:List Oper)(o:Oper)(i:Nat):Operand→Bool
 | .tmp t=>zDr hd o i t
 | _=>true
noncomputable def qEd(ops:Array Oper)(hd:List Oper)(o:Oper)(i:Nat):Bool:=match o.guard with
 | none=>true
 | some (j,_)=>match ops[j]? with
  | some p=>(match p.dst with
   | some t=>zDr hd o i t
   | none=>true)
  | none=>true
noncomputable def zGw(ops:Array Oper)(hd:List Oper):List Oper→Nat→Bool
 | [],_=>true
 | o::l,i=>(o.op.operands.toList.all (qGe hd o i)&&qEd ops hd o i)&&((match o.dst with
  | some d=>(match wrt d l 0 with
   | none=>true
   | some _=>false)
  | none=>true)&&zGw ops hd l (i+1))
noncomputable def zHg(acc:List Nat):List Edge→Nat
 | []=>0
 | e::l=>bif Region.binds .any e then Nat.lor (Nat.lor (Nat.pow 2 e.on) (nth 0 acc e.on)) (zHg acc l)else zHg acc l
noncomputable def wY:List Oper→List Nat→List Nat
 | [],acc=>acc
 | o::l,acc=>wY l (acc++[zHg acc o.after.toList])
noncomputable def yA(o:Oper):Bool:=(match o.guard with | none=>true | some _=>false)&&(match o.op with
 | .move _=>true
 | .assign _=>true
 | .pick .. =>true
 | .nilCheck _=>true
 | .binOp .. =>true
 | .unOp .. =>true
 | .convert .. =>true
 | .slice .. =>true
 | .fieldAddr .. =>true
 | .field .. =>true
 | .indexAddr .. =>true
 | .index .. =>true
 | .extract .. =>true
 | _=>false)
noncomputable def fP(d:Nat):Operand→Bool
 | .tmp t=>!Nat.beq t d
 | _=>true
noncomputable def bZ(ops:Array Oper)(o p:Oper):Bool:=match p.dst with
 | none=>false
 | some d=>o.op.operands.toList.all (fP d)&&((match o.guard with
  | none=>true
  | some (j,_)=>(match ops[j]? with
   | some g=>(match g.dst with
    | some t=>!Nat.beq t d
    | none=>true)
   | none=>true))&&(match o.dst with
  | none=>true
  | some x=>!Nat.beq x d&&p.op.operands.toList.all (fP x)))
noncomputable def eqV:Value→Value→Bool
 | .int j a,.int k b=>Nat.beq (kind j) (kind k)&&ieq a b
 | .bool a,.bool b=>zYm a b
 | .slice none 0 0,.slice none 0 0=>true
 | .pointer none,.pointer none=>true
 | .map none,.map none=>true
 | _,_=>false
noncomputable def fH(e:T→T→Bool):List T→List T→Bool
 | [],[]=>true
 | a::l,b::m=>e a b&&fH e l m
 | _,_=>false
noncomputable def eqU:Nat→T→T→Bool
 | 0,_,_=>false
 | k+1,a,b=>match a,b with
  | .v x,.v y=>eqV x y
  | .sl cs n,.sl ds m=>Nat.beq n m&&fH (eqU k) cs ds
  | .st cs n,.st ds m=>Nat.beq n m&&fH (eqU k) cs ds
  | .fp cs,.fp ds=>fH (eqU k) cs ds
  | .ag cs,.ag ds=>fH (eqU k) cs ds
  | .tu cs,.tu ds=>fH (eqU k) cs ds
  | .fn f cs,.fn g ds=>Nat.beq f g&&fH (eqU k) cs ds
  | .os i o n c,.os e o' q c'=>Nat.beq i e&&(Nat.beq o o'&&(Nat.beq n q&&Nat.beq c c'))
  | .og i o n,.og e o' q=>Nat.beq i e&&(Nat.beq o o'&&Nat.beq n q)
  | .op i o,.op e o'=>Nat.beq i e&&Nat.beq o o'
  | .om i,.om j=>Nat.beq i j
  | _,_=>false
noncomputable def bU(p:Oper):Bool:=(match p.guard with | none=>true | some _=>false)&&(match p.op with
 | .load .. =>true
 | _=>false)
noncomputable def inN(i:Nat):List Nat→Bool
 | []=>false
 | j::l=>Nat.beq j i||inN i l
noncomputable def xX(m:Nat)(ld e:List Nat)(i:Nat)(p:Oper):Bool:=bif Nat.blt i m then yA p||(bU p&&inN i ld)else yA p&&inN i e
noncomputable def wfr(o p:Oper):Bool:=match o.dst with
 | none=>true
 | some x=>(match p.dst with
  | some d=>!Nat.beq x d
  | none=>true)&&p.op.operands.toList.all (fP x)
noncomputable def slf(o:Oper):Bool:=match o.dst with
 | none=>true
 | some x=>o.op.operands.toList.all (fP x)
noncomputable def qBq(o:Oper):List Oper→Bool
 | []=>true
 | p::l=>(bif yA p||bU p then wfr o p else true)&&qBq o l
noncomputable def vlE:List Oper→List Oper→Nat→List Nat
 | _,[],_=>[]
 | pre,o::l,j=>bif yA o&&(slf o&&qBq o pre)then j::vlE (pre++[o]) l (j+1)else vlE (pre++[o]) l (j+1)
noncomputable def vlR(ops:Array Oper)(m:Nat):List Nat:=vlE (ops.toList.take m) (ops.toList.drop m) m
noncomputable def qXj(K:Nat):List Oper→Nat→List Nat
 | [],_=>[]
 | p::l,i=>bif bU p&&!Nat.testBit K i then i::qXj K l (i+1)else qXj K l (i+1)
noncomputable def andM:List Nat→Nat→Nat
 | [],k=>k
 | m::l,k=>andM l (Nat.land m k)
noncomputable def aN(ops:Array Oper)(m:Nat):List Nat:=qXj (andM ((wY ops.toList []).drop m) (Nat.sub (Nat.pow 2 m) 1)) (ops.toList.take m) 0
noncomputable def qXh(P:Program)(s:S)(p:Oper):Bool:=match p.op,p.dst with
 | .load t x,some d=>(match zBh P s.H t (evO s.L x)with
  | some (z,none)=>eqU 12 z (nth .u s.L d)
  | _=>false)
 | _,_=>false
noncomputable def nE(P:Program)(ops:Array Oper)(s:S):List Nat→Bool
 | []=>true
 | i::l=>(match ops[i]? with | some p=>qXh P s p | none=>false)&&nE P ops s l
noncomputable def zAx(ops:Array Oper)(m:Nat)(ld e:List Nat)(o:Oper):List Oper→Nat→Nat
 | [],_=>0
 | p::l,i=>bif xX m ld e i p&&bZ ops o p then Nat.lor (Nat.pow 2 i) (zAx ops m ld e o l (i+1))else zAx ops m ld e o l (i+1)
noncomputable def aW(ops:Array Oper)(m:Nat)(ld e:List Nat)(hd:List Oper):List Nat→List Oper→Nat→Bool
 | k::ks,o::l,j=>(bif Nat.beq k (Nat.sub (Nat.pow 2 j) 1)then true else Nat.beq (Nat.lor k (zAx ops m ld e o hd 0)) (Nat.sub (Nat.pow 2 j) 1))&&aW ops m ld e (hd++[o]) ks l (j+1)
 | _,_,_=>true
noncomputable def zGo:List Oper→Nat→Bool
 | [],_=>true
 | o::l,i=>o.after.toList.all (fun e=>!Region.binds .any e||Nat.blt e.on i)&&zGo l (i+1)
noncomputable def qDd(ops:Array Oper)(m:Nat):Bool:=zGw ops (ops.toList.take m) (ops.toList.take m) 0&&(aW ops m (aN ops m) (vlR ops m) (ops.toList.take m) ((wY ops.toList []).drop m) (ops.toList.drop m) m&&zGo ops.toList 0)
noncomputable def ksE:List Oper→List (T×Option TO)→List T→List (Option Nat)
 | o::l,z::rs,L=>(match z.2 with | some _=>pK L o.op | none=>none)::ksE l rs (dst o.dst z.1 L)
 | _,_,_=>[]
noncomputable def xV:List (Option Nat)→List TO→List TO
 | [],H=>H
 | some q::ks,H=>xV ks (put .gone H q)
 | none::ks,H=>xV ks H
noncomputable def qSq:List (Option Nat)→Bool
 | []=>false
 | some _::_=>true
 | none::ks=>qSq ks
noncomputable def qEk:TO→Bool
 | .gone=>true
 | _=>false
noncomputable def zJc(q:Nat):List (Option Nat)→Bool
 | []=>false
 | some k::ks=>Nat.beq k q||zJc q ks
 | none::ks=>zJc q ks
noncomputable def zMl(H:List TO):List (Option Nat)→Bool
 | []=>true
 | some q::ks=>!zJc q ks&&(qEk (nth .gone H q)&&zMl H ks)
 | none::ks=>zMl H ks
noncomputable def dG(P:Program)(cl yd:Cl)(ops:Array Oper)(ld:List Nat):List Oper→S→Option S
 | [],s=>some s
 | o::l,s=>match opE P cl yd ops o s with
  | some s=>bif nE P ops s ld then dG P cl yd ops ld l s else none
  | none=>none
noncomputable def jAl(P:Program)(cl yd:Cl)(ops:Array Oper)(ld:List Nat)(l:List Oper)(s:S):Option S:=bif nE P ops s ld then dG P cl yd ops ld l s else none
noncomputable def drF(P:Program)(cl yd:Cl)(ops:Array Oper)(s:S)(H:List TO)(rs:List (T×Option TO)):Option S:=
 bif qDd ops (ln rs)&&zMl H (ksE ops.toList rs s.L)then jAl P cl yd ops (aN ops (ln rs)) (ops.toList.drop (ln rs)) ⟨kI ops.toList rs s.L,xV (ksE ops.toList rs s.L) s.H++qI rs⟩else none
noncomputable def qQn(o:Oper):Bool:=match o.op with
 | .call _=>true
 | _=>false
noncomputable def tlK(ops:Array Oper)(i:Nat):Bool:=(match aN ops i with | []=>true | _=>false)&&aW ops i (aN ops i) (vlR ops i) (ops.toList.take i) ((wY ops.toList []).drop i) (ops.toList.drop i) i
noncomputable def qKd(ops:Array Oper):List Oper→List (T×Option TO)→Nat→Nat
 | o::l,rs,i=>bif qQn o&&tlK ops i then i else match rs with
  | _::rs=>qKd ops l rs (i+1)
  | []=>i
 | [],_,i=>i
noncomputable def drG(P:Program)(po:Po)(cl yd:Cl)(ops:Array Oper)(s:S)(k:Nat)(rs:List (T×Option TO)):Option S:=
 bif qSq (ksE ops.toList rs s.L)then drF P cl yd ops s (xV (ksE ops.toList rs s.L) s.H) ((sW P po s.H (xV (ksE ops.toList rs s.L) s.H) ops ops.toList [] (xV (ksE ops.toList rs s.L) s.H) s.L).take k)else drF P cl yd ops s s.H rs
noncomputable def drU(P:Program)(po:Po)(cl yd:Cl)(ops:Array Oper)(s:S)(rs:List (T×Option TO)):Option S:=
 drG P po cl yd ops s (qKd ops ops.toList rs 0) (rs.take (qKd ops ops.toList rs 0))
noncomputable def drE(P:Program)(O:Po)(rn:Rn)(cl yd:Cl)(ops:Array Oper)(s:S):Option S:=
 drU P (zIb P O rn (ln s.H+ops.size)) cl yd ops s (sW P (zIb P O rn (ln s.H+ops.size)) s.H s.H ops ops.toList [] s.H s.L)
noncomputable def sN(P:Program)(e:Oo)(O:Po)(rn:Rn)(c:Code)(s:S):Option (Ex×S):=match c with
 | .skip=>some (.n,s)
 | .label _=>some (.n,s)
 | .seq x y=>zFi rn y (rn x s)
 | .cond c x y=>qQe rn x y s (evO s.L c)
 | .block id x=>zYo id (rn x s)
 | .exit id=>some (.x id,s)
 | .ret=>some (.r,s)
 | .scope x=>rn x s
 | .loop x=>zFi rn (.loop x) (rn x s)
 | .region _ ops false=>bif fQ ops then qGg P (zJm P e O rn) (zIv rn) (zSy P rn) ops ops.toList s else none
 | .region _ ops true=>qOd (bif fQ ops then drE P O rn (zJm P e O rn) (zIv rn) ops s else none)
 | .rangeFunc f ps a b=>bif noR a&&noR b then qZt P (zJm P e O rn) ps.toList a b s.L s.H (evO s.L f)else none
 | _=>none
noncomputable def evC(P:Program)(e:Oo)(O:Rn→Po):Nat→Rn
 | 0=>fun _ _=>none
 | k+1=>sN P e (O (evC P e O k)) (evC P e O k)
noncomputable def noS:Oo:=fun _ _ _=>none
noncomputable def qWh(f:Nat):List Nat→Bool
 | []=>false
 | g::l=>Nat.beq g f||qWh f l
noncomputable def zSm:Option (T×Bool)→Option (T×Bool)
 | some (t,b)=>bif clean 12 t then some (t,b)else none
 | none=>none
noncomputable def orF(P:Program)(O:Po)(e:List Nat)(rn:Rn):Po:=fun f az=>match O f az with
 | some r=>some r
 | none=>bif qWh f e&&(az.map (unN 12)).all (clean 12)then zSm (kH P rn 0 f (az.map (unN 12)))else none
end Go.Ev
namespace Go.Ev
open Go Go.Gv Go.RowKit IntKind
structure Bm where
 f:Nat→Option (Nat×Nat)
 N:Nat
instance:CoeFun Bm fun _=>Nat→Option (Nat×Nat):=⟨Bm.f⟩
structure BLe(B B':Bm):Prop where
 le:∀i p,B i=some p→B' i=some p
 n:B.N=B'.N
instance (B B':Bm):CoeFun (BLe B B') fun _=>∀i p,B i=some p→B' i=some p:=⟨BLe.le⟩
def Bm.In(B:Bm)(g:Tg)(b:Nat):Prop:=(g= .n→B.N≤b)∧(g= .o→b<B.N)
theorem Bm.In.any{B:Bm}{b:Nat}:B.In .a b:=⟨fun e=>(by cases e),fun e=>(by cases e)⟩
theorem Bm.In.eqN{B B':Bm}(h:B.N=B'.N){g:Tg}{b:Nat}(k:B.In g b):B'.In g b:=⟨fun e=>h▸k.1 e,fun e=>h▸k.2 e⟩
theorem Bm.In.nw{B:Bm}{b:Nat}(h:B.N≤b):B.In .n b:=⟨fun _=>h,fun e=>(by cases e)⟩
theorem Bm.In.le{B:Bm}{g f:Tg}{b:Nat}(h:g.le f=true)(k:B.In f b):B.In g b:=by
 cases g<;>cases f<;>first | exact k | (cases h;done) | exact⟨fun e=>Tg.noConfusion e,fun e=>Tg.noConfusion e⟩
theorem BLe.refl(B:Bm):BLe B B:=⟨fun _ _ h=>h,rfl⟩
theorem BLe.trans{A B C:Bm}(h:BLe A B)(k:BLe B C):BLe A C:=⟨fun i p e=>k.le i p (h.le i p e),h.n.trans k.n⟩
def rG(B:Bm)(i:Nat)(p:Nat×Nat):Bm:=⟨fun j=>if j=i then some p else B j,B.N⟩
theorem BLe.set{B:Bm}{i:Nat}{p:Nat×Nat}(h:B i=none):BLe B (rG B i p):=⟨fun j q e=>by
 show(if j=i then some p else B j)=some q
 split
 ·rename_i f;rw[f,h]at e;cases e
 ·exact e,rfl⟩
theorem qJ(B:Bm)(i:Nat)(p:Nat×Nat):rG B i p i=some p:=by simp[rG]
theorem jU(B:Bm){i j:Nat}(p:Nat×Nat)(h:j≠i):rG B i p j=B j:=by simp[rG,h]
def zGd{α:Type}(r:Rd)(p:Nat→Prop)(s:Nat)(R:α→List Value→Prop)(ad:Option Addr)(c:Nat)(l:List α):Prop:=
 l.length≤c∧c≤maxLen∧(l=[]∨∃b o,ad=some ⟨b,o,none⟩∧p b∧∀(i:Nat)(x:α),l[i]?=some x→∃vs:List Value,vs.length=s∧R x vs∧∀(j:Nat)(v:Value),vs[j]?=some v→r ⟨b,o+(i*s+j),none⟩=some v)
def jG(r:Rd)(p:Nat→Prop):(A:Ty)→A.den→List Value→Prop
 | .lim,a,vs=>vs=[.int .u32 (.ofNat a)]∧a<4294967296
 | .int k,a,vs=>vs=[.int k a]
 | .bool,b,vs=>vs=[.bool b]
 | .str,s,vs=>vs=[.string s]
 | .list A,l,vs=>∃ad c,vs=[.slice ad l.length c]∧zGd r p A.size (fun x us=>jG r p A x us) ad c l
 | .prod A B,x,vs=>∃u w,vs=u++w∧jG r p A x.1 u∧jG r p B x.2 w
theorem zGd.mono{α:Type}{r r':Rd}{p q:Nat→Prop}{s:Nat}{R f:α→List Value→Prop}{ad:Option Addr}{c:Nat}{l:List α}(hr:Le r r')(hp:∀b,p b→q b)(D:∀x vs,R x vs→f x vs)(h:zGd r p s R ad c l):zGd r' q s f ad c l:=
 ⟨h.1,h.2.1,h.2.2.imp id fun⟨b,o,e,hb,k⟩=>⟨b,o,e,hp b hb,fun i x G=>by
  obtain⟨vs,z,A,C⟩:=k i x G;exact⟨vs,z,D _ _ A,fun j v hv=>hr _ _ (C j v hv)⟩⟩⟩
theorem jG.mono{r r':Rd}{p f:Nat→Prop}(hr:Le r r')(hp:∀b,p b→f b):∀(A:Ty)(x:A.den)(vs:List Value),jG r p A x vs→jG r' f A x vs
 | .lim,_,_,h=>h
 | .int _,_,_,h=>h
 | .bool,_,_,h=>h
 | .str,_,_,h=>h
 | .list A,_,_,⟨ad,c,e,h⟩=>⟨ad,c,e,h.mono hr hp fun x vs=>jG.mono hr hp A x vs⟩
 | .prod A B,_,_,⟨u,w,e,j,q⟩=>⟨u,w,e,jG.mono hr hp A _ _ j,jG.mono hr hp B _ _ q⟩
theorem Ty.size_pos:∀A:Ty,0<A.size
 | .lim=>Nat.one_pos
 | .int _=>Nat.one_pos
 | .bool=>Nat.one_pos
 | .str=>Nat.one_pos
 | .list _=>Nat.one_pos
 | .prod A _=>Nat.lt_of_lt_of_le (Ty.size_pos A) (Nat.le_add_right _ _)
theorem jG.new{r:Rd}{p q:Nat→Prop}(hr:∀b j v,r ⟨b,j,none⟩=some v→q b):∀(A:Ty)(x:A.den)(vs:List Value),jG r p A x vs→jG r q A x vs
 | .lim,_,_,h=>h
 | .int _,_,_,h=>h
 | .bool,_,_,h=>h
 | .str,_,_,h=>h
 | .list _,[],_,⟨ad,c,e,h⟩=>⟨ad,c,e,h.1,h.2.1,.inl rfl⟩
 | .list A,x0::l,_,⟨ad,c,e,h⟩=>⟨ad,c,e,h.1,h.2.1,.inr (by
  rcases h.2.2 with h | ⟨b,o,e,_,k⟩
  ·cases h
  ·refine⟨b,o,e,?_,fun i x D=>?_⟩
   ·obtain⟨vs,f,_,C⟩:=k 0 x0 rfl;cases vs with
    | nil=>have:=A.size_pos;simp at f;omega
    | cons v vs=>exact hr _ _ _ (C 0 v rfl)
   ·obtain⟨vs,f,z,C⟩:=k i x D;exact⟨vs,f,jG.new hr A x vs z,C⟩)⟩
 | .prod A B,_,_,⟨u,w,e,f,z⟩=>⟨u,w,e,jG.new hr A _ _ f,jG.new hr B _ _ z⟩
theorem jG.far{r r':Rd}{p q:Nat→Prop}(f:∀b,q b)(hr:∀b j v,p b→r ⟨b,j,none⟩=some v→r' ⟨b,j,none⟩=some v):∀(A:Ty)(x:A.den)(vs:List Value),jG r p A x vs→jG r' q A x vs
 | .lim,_,_,h=>h
 | .int _,_,_,h=>h
 | .bool,_,_,h=>h
 | .str,_,_,h=>h
 | .list A,l,_,⟨ad,c,e,h⟩=>⟨ad,c,e,h.1,h.2.1,h.2.2.imp id fun⟨b,o,e,hp,k⟩=>⟨b,o,e,f b,fun i x G=>by
  obtain⟨vs,z,C,D⟩:=k i x G;exact⟨vs,z,jG.far f hr A x vs C,fun j v hv=>hr _ _ _ hp (D j v hv)⟩⟩⟩
 | .prod A B,_,_,⟨u,w,e,z,C⟩=>⟨u,w,e,jG.far f hr A _ _ z,jG.far f hr B _ _ C⟩
def nV(r:Rd)(p:Nat→Prop):(A:Ty)→A.den→List Value→Prop
 | .lim,_,vs=>∃a,vs=[.int .u32 a]
 | .int k,_,vs=>∃a,vs=[.int k a]
 | .bool,b,vs=>vs=[.bool b]
 | .str,s,vs=>vs=[.string s]
 | .list A,l,vs=>∃ad c,vs=[.slice ad l.length c]∧zGd r p A.size (fun x us=>nV r p A x us) ad c l
 | .prod A B,x,vs=>∃u w,vs=u++w∧nV r p A x.1 u∧nV r p B x.2 w
theorem nV.mono{r r':Rd}{p f:Nat→Prop}(hr:Le r r')(hp:∀b,p b→f b):∀(A:Ty)(x:A.den)(vs:List Value),nV r p A x vs→nV r' f A x vs
 | .lim,_,_,h=>h
 | .int _,_,_,h=>h
 | .bool,_,_,h=>h
 | .str,_,_,h=>h
 | .list A,_,_,⟨ad,c,e,h⟩=>⟨ad,c,e,h.mono hr hp fun x vs=>nV.mono hr hp A x vs⟩
 | .prod A B,_,_,⟨u,w,e,j,q⟩=>⟨u,w,e,nV.mono hr hp A _ _ j,nV.mono hr hp B _ _ q⟩
theorem jG.h{r:Rd}{p:Nat→Prop}:∀(A:Ty)(x:A.den)(vs:List Value),jG r p A x vs→nV r p A x vs
 | .lim,_,_,h=>⟨_,h.1⟩
 | .int _,_,_,h=>⟨_,h⟩
 | .bool,_,_,h=>h
 | .str,_,_,h=>h
 | .list A,_,_,⟨ad,c,e,h⟩=>⟨ad,c,e,h.mono (Le.refl _) (fun _ h=>h) fun x vs=>jG.h A x vs⟩
 | .prod A B,_,_,⟨u,w,e,f,j⟩=>⟨u,w,e,jG.h A _ _ f,jG.h B _ _ j⟩
inductive Rep (B:Bm) (r:Rd):T→Value→Prop
  | u {x:Value}:Rep B r .u x
  | v {x:Value} (h:sc x=true):Rep B r (.v x) x
  | sl {cs:List T} {n b o c:Nat} (hn:n≤c) (f:Nat→Value) (h:∀j t,cs[j]?=some t→r ⟨b,o+j,none⟩=some (f j)) (g:∀j t,cs[j]?=some t→Rep B r t (f j)) (hm:c≤maxLen):Rep B r (.sl cs n) (.slice (some ⟨b,o,none⟩) n c)
  | sl0 {ad:Option Addr} {c:Nat} (hm:c≤maxLen):Rep B r (.sl [] 0) (.slice ad 0 c)
  | sn {cs:List T} {n b o c:Nat} (hn:n≤c) (f:Nat→Value) (h:∀j t,cs[j]?=some t→r ⟨b,o+j,none⟩=some (f j)) (g:∀j t,cs[j]?=some t→Rep B r t (f j)) (hm:c≤maxLen) (hb:∀(j:Nat)(t:T),cs[j]?=some t→B.N≤b):Rep B r (.sn cs n) (.slice (some ⟨b,o,none⟩) n c)
  | sn0 {ad:Option Addr} {c:Nat} (hm:c≤maxLen):Rep B r (.sn [] 0) (.slice ad 0 c)
  | st {cs:List T} {n b o:Nat} (f:Nat→Value) (h:∀j t,cs[j]?=some t→r ⟨b,o+j,none⟩=some (f j)) (g:∀j t,cs[j]?=some t→Rep B r t (f j)):Rep B r (.st cs n) (.slice (some ⟨b,o,none⟩) n n)
  | st0 {ad:Option Addr}:Rep B r (.st [] 0) (.slice ad 0 0)
  | fp {cs:List T} {b o:Nat} (f:Nat→Value) (h:∀j t,cs[j]?=some t→r ⟨b,o+j,none⟩=some (f j)) (g:∀j t,cs[j]?=some t→Rep B r t (f j)):Rep B r (.fp cs) (.pointer (some ⟨b,o,none⟩))
  | os {i o n c b C:Nat} (h:B i=some (b,C)):Rep B r (.os i o n c) (.slice (some ⟨b,o,none⟩) n c)
  | og {i o n c b C:Nat} (h:B i=some (b,C)) (h1:n≤c) (h2:o=0→c=C) (h3:c≤maxLen):Rep B r (.og i o n) (.slice (some ⟨b,o,none⟩) n c)
  | op {i o b C:Nat} (h:B i=some (b,C)):Rep B r (.op i o) (.pointer (some ⟨b,o,none⟩))
  | ag {cs:List T} {vs:Array Value} (f:Nat→Value) (hl:cs.length=vs.size) (h:∀j t,cs[j]?=some t→vs[j]?=some (f j)) (g:∀j t,cs[j]?=some t→Rep B r t (f j)):Rep B r (.ag cs) (.agg vs)
  | tu {cs:List T} {vs:Array Value} (f:Nat→Value) (hl:cs.length=vs.size) (h:∀j t,cs[j]?=some t→vs[j]?=some (f j)) (g:∀j t,cs[j]?=some t→Rep B r t (f j)):Rep B r (.tu cs) (.tuple vs)
  | fn {k:Nat} {cs:List T} {vs:Array Value} (f:Nat→Value) (hl:cs.length=vs.size) (h:∀j t,cs[j]?=some t→vs[j]?=some (f j)) (g:∀j t,cs[j]?=some t→Rep B r t (f j)):Rep B r (.fn k cs) (.func (.func k) #[] vs)
  | fb {k:Nat} {cs:List T} {vs:Array Value} (f:Nat→Value) (hl:cs.length=vs.size) (h:∀j t,cs[j]?=some t→vs[j]?=some (f j)) (g:∀j t,cs[j]?=some t→Rep B r t (f j)):Rep B r (.fb k cs) (.func (.func k) vs #[])
  | om {i b C:Nat} (h:B i=some (b,C)):Rep B r (.om i) (.map (some b))
  | yl {i b C:Nat} (h:B i=some (b,C)):Rep B r (.yl i) (.func (.yield b) #[] #[])
  | ls {g:Tg} {A:Ty} {l:List A.den} {v:Value} (h:jG r (B.In g) (.list A) l [v]):Rep B r (.ls g A l) v
  | hv {A:Ty} {l:List A.den} {v:Value} (h:nV r (B.In .n) (.list A) l [v]):Rep B r (.hv A l) v
theorem Rep.mono{B B':Bm}{r r':Rd}(z:BLe B B')(hr:Le r r'){t:T}{v:Value}(h:Rep B r t v):Rep B' r' t v:=by
 induction h with
 | u=>exact .u
 | v h=>exact .v h
 | sl hn f h g C q=>exact .sl hn f (fun j t e=>hr _ _ (h j t e)) q C
 | sl0 C=>exact .sl0 C
 | sn hn f h g C hb q=>exact .sn hn f (fun j t e=>hr _ _ (h j t e)) q C (fun j t e=>z.n▸hb j t e)
 | sn0 C=>exact .sn0 C
 | st f h g q=>exact .st f (fun j t e=>hr _ _ (h j t e)) q
 | st0=>exact .st0
 | fp f h g q=>exact .fp f (fun j t e=>hr _ _ (h j t e)) q
 | os h=>exact .os (z _ _ h)
 | og h D G I=>exact .og (z _ _ h) D G I
 | op h=>exact .op (z _ _ h)
 | ag f A h g q=>exact .ag f A h q
 | tu f A h g q=>exact .tu f A h q
 | fn f A h g q=>exact .fn f A h q
 | fb f A h g q=>exact .fb f A h q
 | om h=>exact .om (z _ _ h)
 | yl h=>exact .yl (z _ _ h)
 | ls h=>exact .ls (jG.mono hr (fun b h=>h.eqN z.n) _ _ _ h)
 | hv h=>exact .hv (nV.mono hr (fun b h=>h.eqN z.n) _ _ _ h)
theorem Rep.dn{B:Bm}{r:Rd}{t:T}{v:Value}(h:Rep B r t v):Rep B r (dn t) v:=by
 cases h with
 | sn hn f h g j hb=>exact .sl hn f h g j
 | sn0 j=>exact .sl0 j
 | u=>exact .u
 | v h=>exact .v h
 | sl hn f h g j=>exact .sl hn f h g j
 | sl0 j=>exact .sl0 j
 | st f h g=>exact .st f h g
 | st0=>exact .st0
 | fp f h g=>exact .fp f h g
 | os h=>exact .os h
 | og h q z A=>exact .og h q z A
 | op h=>exact .op h
 | ag f e h g=>exact .ag f e h g
 | tu f e h g=>exact .tu f e h g
 | fn f e h g=>exact .fn f e h g
 | fb f e h g=>exact .fb f e h g
 | om h=>exact .om h
 | yl h=>exact .yl h
 | ls h=>exact .ls h
 | hv h=>exact .hv h
theorem Rep.unN{B B2:Bm}{r:Rd}(C:∀i p,B i=some p→B2 i=some p):∀(k:Nat){t:T}{v:Value},Rep B r t v→Rep B2 r (unN k t) v
 | 0,_,_,_=> .u
 | k+1,t,y,h=>by
  have all:∀{cs:List T}{f:Nat→Value}{q:Nat→Option Value},(∀j t,cs[j]?=some t→q j=some (f j))→(∀j t,cs[j]?=some t→Rep B r t (f j))→(∀j t,(cs.map (Ev.unN k))[j]?=some t→q j=some (f j))∧∀j t,(cs.map (Ev.unN k))[j]?=some t→Rep B2 r t (f j):=fun G I=>by
   refine⟨fun j t e=>?_,fun j t e=>?_⟩
   ·rw[List.getElem?_map]at e;obtain⟨J,D,rfl⟩:=Option.map_eq_some_iff.1 e;exact G j J D
   ·rw[List.getElem?_map]at e;obtain⟨J,D,rfl⟩:=Option.map_eq_some_iff.1 e;exact Rep.unN C k (I j J D)
  cases h with
  | sn hn f h g A hb=>exact .sl hn f (all h g).1 (all h g).2 A
  | sn0 A=>exact .sl0 A
  | u=>exact .u
  | v h=>exact .v h
  | sl hn f h g A=>exact .sl hn f (all h g).1 (all h g).2 A
  | sl0 A=>exact .sl0 A
  | st f h g=>exact .st f (all h g).1 (all h g).2
  | st0=>exact .st0
  | fp f h g=>exact .fp f (all h g).1 (all h g).2
  | os h=>exact .os (C _ _ h)
  | og h G I K=>exact .og (C _ _ h) G I K
  | op h=>exact .op (C _ _ h)
  | @ag cs vs f z h g=>exact .ag f (by simpa using z) (all (q:=fun j=>vs[j]?) h g).1 (all (q:=fun j=>vs[j]?) h g).2
  | @tu cs vs f z h g=>exact .tu f (by simpa using z) (all (q:=fun j=>vs[j]?) h g).1 (all (q:=fun j=>vs[j]?) h g).2
  | @fn _ cs vs f z h g=>exact .fn f (by simpa using z) (all (q:=fun j=>vs[j]?) h g).1 (all (q:=fun j=>vs[j]?) h g).2
  | @fb _ cs vs f z h g=>exact .fb f (by simpa using z) (all (q:=fun j=>vs[j]?) h g).1 (all (q:=fun j=>vs[j]?) h g).2
  | om h=>exact .om (C _ _ h)
  | yl h=>exact .yl (C _ _ h)
  | ls h=>exact .ls (jG.mono (Le.refl _) (fun b _=>Bm.In.any) _ _ _ h)
  | hv h=>exact .u
theorem Rep.mkN{B:Bm}{r:Rd}(hr:∀b j v,r ⟨b,j,none⟩=some v→B.N≤b):∀(k:Nat){t:T}{v:Value},Rep B r t v→Rep B r (mkN k t) v
 | 0,_,_,h=>h
 | k+1,t,y,h=>by
  have all:∀{cs:List T}{f:Nat→Value}{q:Nat→Option Value},(∀j t,cs[j]?=some t→q j=some (f j))→(∀j t,cs[j]?=some t→Rep B r t (f j))→(∀j t,(cs.map (Ev.mkN k))[j]?=some t→q j=some (f j))∧∀j t,(cs.map (Ev.mkN k))[j]?=some t→Rep B r t (f j):=fun D G=>by
   refine⟨fun j t e=>?_,fun j t e=>?_⟩
   ·rw[List.getElem?_map]at e;obtain⟨I,C,rfl⟩:=Option.map_eq_some_iff.1 e;exact D j I C
   ·rw[List.getElem?_map]at e;obtain⟨I,C,rfl⟩:=Option.map_eq_some_iff.1 e;exact Rep.mkN hr k (G j I C)
  cases h with
  | sl hn f h g A=>exact .sn hn f (all h g).1 (all h g).2 A (fun j t e=>hr _ _ _ ((all h g).1 j t e))
  | sl0 A=>exact .sn0 A
  | sn hn f h g A hb=>exact .sn hn f h g A hb
  | sn0 A=>exact .sn0 A
  | u=>exact .u
  | v h=>exact .v h
  | st f h g=>exact .st f h g
  | st0=>exact .st0
  | fp f h g=>exact .fp f h g
  | os h=>exact .os h
  | og h D G J=>exact .og h D G J
  | op h=>exact .op h
  | @ag cs vs f z h g=>exact .ag f (by simpa using z) (all (q:=fun j=>vs[j]?) h g).1 (all (q:=fun j=>vs[j]?) h g).2
  | @tu cs vs f z h g=>exact .tu f (by simpa using z) (all (q:=fun j=>vs[j]?) h g).1 (all (q:=fun j=>vs[j]?) h g).2
  | @fn _ cs vs f z h g=>exact .fn f (by simpa using z) (all (q:=fun j=>vs[j]?) h g).1 (all (q:=fun j=>vs[j]?) h g).2
  | fb f z h g=>exact .fb f z h g
  | om h=>exact .om h
  | yl h=>exact .yl h
  | ls h=>exact .ls (jG.new (fun b j v e=>Bm.In.nw (hr b j v e)) _ _ _ h)
  | hv h=>exact .hv h
theorem zQb{α:Type}(d x:α)(l:List α):nth d (x::l) 0=x:=rfl
theorem mP{α:Type}(d x:α)(l:List α)(n:Nat):nth d (x::l) (n+1)=nth d l n:=rfl
theorem qNz{α:Type}(x:α)(n:Nat):Ev.put x [] n=[]:=rfl
theorem zQs{α:Type}(x y:α)(l:List α):Ev.put x (y::l) 0=x::l:=rfl
theorem zId{α:Type}(x y:α)(l:List α)(n:Nat):Ev.put x (y::l) (n+1)=y::Ev.put x l n:=rfl
def zO(B:Bm)(r:Rd):List T→List Value→Prop
 | [],[]=>True
 | t::ts,v::vs=>Rep B r t v∧zO B r ts vs
 | _,_=>False
section
variable {B B':Bm}{r r':Rd}
theorem zO.mono(e:BLe B B')(hr:Le r r'):∀{ts:List T}{vs:List Value},zO B r ts vs→zO B' r' ts vs
 | [],[],_=>trivial
 | _::_,_::_,h=>⟨h.1.mono e hr,zO.mono e hr h.2⟩
 | [],_::_,h=>h.elim
 | _::_,[],h=>h.elim
theorem zO.unN{B2:Bm}(e:∀i p,B i=some p→B2 i=some p)(k:Nat):∀{ts:List T}{vs:List Value},zO B r ts vs→zO B2 r (ts.map (unN k)) vs
 | [],[],_=>trivial
 | _::_,_::_,h=>⟨h.1.unN e k,zO.unN e k h.2⟩
 | [],_::_,h=>h.elim
 | _::_,[],h=>h.elim
theorem zO.length:∀{ts:List T}{vs:List Value},zO B r ts vs→ts.length=vs.length
 | [],[],_=>rfl
 | _::_,_::_,h=>congrArg (·+1) (zO.length h.2)
 | [],_::_,h=>h.elim
 | _::_,[],h=>h.elim
theorem zO.get:∀{ts:List T}{vs:List Value},zO B r ts vs→∀{j:Nat}{t:T},ts[j]?=some t→∃v,vs[j]?=some v∧Rep B r t v
 | _::_,v::_,h,0,t,e=>by simp at e;subst e;exact⟨v,rfl,h.1⟩
 | _::_,_::_,h,j+1,t,e=>by simpa using zO.get h.2 (by simpa using e)
 | [],_,_,_,_,e=>by simp at e
 | _::_,[],h,_,_,_=>h.elim
theorem zO.getD:∀{ts:List T}{vs:List Value},zO B r ts vs→∀(j:Nat),Rep B r (nth .u ts j) (vs.getD j undef)
 | _::_,v::_,h,0=>by rw[zQb];simpa using h.1
 | _::_,_::_,h,j+1=>by rw[mP];simpa using zO.getD h.2 j
 | [],_,_,_=> .u
 | _::_,[],h,_=>h.elim
theorem zO.of:∀{ts:List T}{vs:List Value},ts.length=vs.length→(∀(j:Nat)(t:T)(v:Value),ts[j]?=some t→vs[j]?=some v→Rep B r t v)→zO B r ts vs
 | [],[],_,_=>trivial
 | t::ts,v::vs,f,h=>⟨h 0 t v rfl rfl,zO.of (by simpa using f) fun j t v e q=>h (j+1) t v (by simpa using e) (by simpa using q)⟩
 | [],_::_,f,_=>by simp at f
 | _::_,[],f,_=>by simp at f
theorem zO.app:∀{ts us:List T}{vs ws:List Value},zO B r ts vs→zO B r us ws→zO B r (ts++us) (vs++ws)
 | [],_,[],_,_,h=>h
 | _::_,_,_::_,_,h,k=>⟨h.1,zO.app h.2 k⟩
 | [],_,_::_,_,h,_=>h.elim
 | _::_,_,[],_,h,_=>h.elim
theorem zO.split:∀{ts us:List T}{vs:List Value},zO B r (ts++us) vs→zO B r ts (vs.take ts.length)∧zO B r us (vs.drop ts.length)
 | [],_,_,h=>⟨trivial,h⟩
 | _::ts,us,v::vs,h=>by
  obtain⟨e,f⟩:=zO.split (ts:=ts) (us:=us) h.2;exact⟨⟨h.1,e⟩,f⟩
 | _::_,_,[],h=>h.elim
theorem zO.drop:∀(n:Nat){ts:List T}{vs:List Value},zO B r ts vs→zO B r (jJ ts n) (vs.drop n)
 | 0,[],[],h=>h
 | 0,_::_,_::_,h=>h
 | n+1,_::_,_::_,h=>by simpa[jJ]using zO.drop n h.2
 | _+1,[],[],_=>trivial
 | _,[],_::_,h=>h.elim
 | _,_::_,[],h=>h.elim
theorem zO.take:∀{n:Nat}{ts us:List T}{vs:List Value},zO B r ts vs→jN n ts=some us→zO B r us (vs.take n)∧(vs.take n).length=n
 | 0,_,_,_,_,e=>by simp[jN]at e;subst e;exact⟨trivial,by simp⟩
 | n+1,_::ts,us,v::vs,h,e=>by
  simp only[jN]at e;cases f:jN n ts with
  | none=>simp[f]at e
  | some x=>
   simp only[f,za]at e;subst e;obtain⟨j,q⟩:=zO.take h.2 f;exact⟨⟨h.1,j⟩,by simp[q]⟩
 | _+1,[],_,_,_,e=>by simp[jN]at e
 | _+1,_::_,_,[],h,_=>h.elim
theorem zO.put:∀{ts:List T}{vs:List Value},zO B r ts vs→∀(j:Nat){t:T}{v:Value},Rep B r t v→zO B r (put t ts j) (vs.set j v)
 | [],[],_,_,_,_,_=>trivial
 | _::_,_::_,h,0,_,_,k=>⟨k,h.2⟩
 | _::_,_::_,h,j+1,_,_,k=>⟨h.1,zO.put h.2 j k⟩
 | [],_::_,h,_,_,_,_=>h.elim
 | _::_,[],h,_,_,_,_=>h.elim
theorem qU{α:Type}:∀l:List α,ln l=l.length
 | []=>rfl
 | _::l=>by simp[ln,qU l]
theorem qX{α:Type}(d:α):∀(l:List α)(n:Nat),nth d l n=l.getD n d
 | [],_=>rfl
 | _::_,0=>rfl
 | _::l,n+1=>by rw[mP];simpa using qX d l n
theorem yJ{α:Type}(x:α):∀(l:List α)(n:Nat),Ev.put x l n=l.set n x
 | [],_=>rfl
 | _::_,0=>rfl
 | _::l,n+1=>by rw[zId];simp[yJ x l n]
theorem pX:∀(l:List T)(n:Nat),jJ l n=l.drop n
 | [],_=>by simp[jJ]
 | _::_,0=>rfl
 | _::l,n+1=>by simp[jJ,pX l n]
theorem zBt:∀{n:Nat}{l u:List T},jN n l=some u→n≤l.length∧u=l.take n
 | 0,_,_,h=>by simp[jN]at h;subst h;simp
 | n+1,x::l,u,h=>by
  simp only[jN]at h;cases e:jN n l with
  | none=>simp[e]at h
  | some y=>
   simp only[e,za]at h;obtain⟨f,j⟩:=zBt e;subst h;subst j;simpa using f
 | _+1,[],_,h=>by simp[jN]at h
theorem dI:∀l:List T,jN l.length l=some l
 | []=>rfl
 | _::l=>by simp[jN,dI l]
def Cls(B:Bm)(r:Rd)(b o:Nat)(cs:List T):Prop:=∀j t,cs[j]?=some t→∃v,r ⟨b,o+j,none⟩=some v∧Rep B r t v
theorem Cls.mono(z:BLe B B')(hr:Le r r'){b o:Nat}{cs:List T}(h:Cls B r b o cs):Cls B' r' b o cs:=fun j t e=>by
 obtain⟨v,f,q⟩:=h j t e;exact⟨v,hr _ _ f,q.mono z hr⟩
theorem Cls.drop{b o:Nat}{cs:List T}(h:Cls B r b o cs)(n:Nat):Cls B r b (o+n) (jJ cs n):=fun j t e=>by
 rw[pX,List.getElem?_drop]at e;obtain⟨v,f,q⟩:=h _ t e;exact⟨v,by rw[Nat.add_assoc];exact f,q⟩
theorem Cls.fun{b o:Nat}{cs:List T}(h:Cls B r b o cs):∃f:Nat→Value,(∀j t,cs[j]?=some t→r ⟨b,o+j,none⟩=some (f j))∧∀j t,cs[j]?=some t→Rep B r t (f j):=by
 refine⟨fun j=>(r ⟨b,o+j,none⟩).getD undef,fun j t e=>?_,fun j t e=>?_⟩<;>obtain⟨v,q,z⟩:=h j t e
 ·simp[q]
 ·simpa[q]using z
theorem Cls.sl{b o n c:Nat}{cs:List T}(h:Cls B r b o cs)(hn:n≤c)(q:c≤maxLen):Rep B r (.sl cs n) (.slice (some ⟨b,o,none⟩) n c):=by
 obtain⟨f,e,j⟩:=h.fun;exact .sl hn f e j q
theorem Cls.st{b o n:Nat}{cs:List T}(h:Cls B r b o cs):Rep B r (.st cs n) (.slice (some ⟨b,o,none⟩) n n):=by
 obtain⟨f,e,j⟩:=h.fun;exact .st f e j
theorem Cls.fp{b o:Nat}{cs:List T}(h:Cls B r b o cs):Rep B r (.fp cs) (.pointer (some ⟨b,o,none⟩)):=by
 obtain⟨f,e,j⟩:=h.fun;exact .fp f e j
theorem zLr{cs:List T}{vs:Array Value}(h:zO B r cs vs.toList):∃f:Nat→Value,cs.length=vs.size∧(∀j t,cs[j]?=some t→vs[j]?=some (f j))∧∀j t,cs[j]?=some t→Rep B r t (f j):=by
 refine⟨fun j=>vs.getD j undef,by simpa using h.length,fun j t e=>?_,fun j t e=>?_⟩<;>obtain⟨v,q,z⟩:=h.get e
 ·have:vs[j]?=some v:=by simpa using q
  simp[this]
 ·have:vs[j]?=some v:=by simpa using q
  simpa[this]using z
theorem zHp{cs:List T}{vs:Array Value}(f:Nat→Value)(C:cs.length=vs.size)(h:∀j t,cs[j]?=some t→vs[j]?=some (f j))(g:∀j t,cs[j]?=some t→Rep B r t (f j)):zO B r cs vs.toList:=
 zO.of (by simpa using C) fun j t v e z=>by
  have A:=h j t e;have q:vs[j]?=some v:=by simpa using z
  rw[A]at q;cases q;exact g j t e
theorem Rep.mkAg{cs:List T}{vs:List Value}(h:zO B r cs vs):Rep B r (.ag cs) (.agg vs.toArray):=by
 obtain⟨f,e,j,q⟩:=zLr (vs:=vs.toArray) (by simpa using h)
 exact .ag f e j q
theorem Rep.mkTu{cs:List T}{vs:List Value}(h:zO B r cs vs):Rep B r (.tu cs) (.tuple vs.toArray):=by
 obtain⟨f,e,j,q⟩:=zLr (vs:=vs.toArray) (by simpa using h)
 exact .tu f e j q
theorem Rep.mkFn{k:Nat}{cs:List T}{vs:List Value}(h:zO B r cs vs):Rep B r (.fn k cs) (.func (.func k) #[] vs.toArray):=by
 obtain⟨f,e,j,q⟩:=zLr (vs:=vs.toArray) (by simpa using h)
 exact .fn f e j q
theorem Rep.agI{cs:List T}{v:Value}(h:Rep B r (.ag cs) v):∃vs:List Value,v= .agg vs.toArray∧zO B r cs vs:=by
 cases h with
 | @ag _ vs f e h g=>exact⟨vs.toList,by simp,zHp f e h g⟩
theorem Rep.tuI{cs:List T}{v:Value}(h:Rep B r (.tu cs) v):∃vs:List Value,v= .tuple vs.toArray∧zO B r cs vs:=by
 cases h with
 | @tu _ vs f e h g=>exact⟨vs.toList,by simp,zHp f e h g⟩
theorem Rep.fbI{k:Nat}{cs:List T}{v:Value}(h:Rep B r (.fb k cs) v):∃vs:List Value,v= .func (.func k) vs.toArray #[]∧zO B r cs vs:=by
 cases h with
 | @fb _ _ vs f e h g=>exact⟨vs.toList,by simp,zHp f e h g⟩
theorem Rep.mkFb{k:Nat}{cs:List T}{vs:List Value}(h:zO B r cs vs):Rep B r (.fb k cs) (.func (.func k) vs.toArray #[]):=by
 obtain⟨f,e,j,q⟩:=zLr (vs:=vs.toArray) (by simpa using h)
 exact .fb f e j q
theorem Rep.fnI{k:Nat}{cs:List T}{v:Value}(h:Rep B r (.fn k cs) v):∃vs:List Value,v= .func (.func k) #[] vs.toArray∧zO B r cs vs:=by
 cases h with
 | @fn _ _ vs f e h g=>exact⟨vs.toList,by simp,zHp f e h g⟩
theorem Rep.fpI{cs:List T}{v:Value}(h:Rep B r (.fp cs) v):∃b o,v= .pointer (some ⟨b,o,none⟩)∧Cls B r b o cs:=by
 cases h with
 | @fp _ b o f h g=>exact⟨b,o,rfl,fun j t e=>⟨f j,h j t e,g j t e⟩⟩
theorem Rep.slI{cs:List T}{n:Nat}{v:Value}(h:Rep B r (.sl cs n) v):∃ad c,v= .slice ad n c∧n≤c∧((n=0∧cs=[])∨∃b o,ad=some ⟨b,o,none⟩∧Cls B r b o cs):=by
 cases h with
 | @sl _ _ b o c hn f h g q=>exact⟨_,c,rfl,hn,.inr ⟨b,o,rfl,fun j t e=>⟨f j,h j t e,g j t e⟩⟩⟩
 | @sl0 ad c q=>exact⟨ad,c,rfl,Nat.zero_le _,.inl ⟨rfl,rfl⟩⟩
theorem Rep.slB{cs:List T}{n m c:Nat}{ad:Option Addr}(h:Rep B r (.sl cs n) (.slice ad m c)):c≤maxLen:=by
 cases h with
 | sl hn f h g e=>exact e
 | sl0 e=>exact e
theorem Rep.ogB{i o n m c:Nat}{ad:Option Addr}(h:Rep B r (.og i o n) (.slice ad m c)):c≤maxLen:=by
 cases h with
 | og h f j e=>exact e
theorem Rep.stI{cs:List T}{n:Nat}{v:Value}(h:Rep B r (.st cs n) v):∃ad,v= .slice ad n n∧((n=0∧cs=[])∨∃b o,ad=some ⟨b,o,none⟩∧Cls B r b o cs):=by
 cases h with
 | @st _ _ b o f h g=>exact⟨_,rfl,.inr ⟨b,o,rfl,fun j t e=>⟨f j,h j t e,g j t e⟩⟩⟩
 | @st0 ad=>exact⟨ad,rfl,.inl ⟨rfl,rfl⟩⟩
theorem Rep.vI{x v:Value}(h:Rep B r (.v x) v):v=x∧sc x=true:=by
 cases h with
 | v h=>exact⟨rfl,h⟩
theorem Rep.osI{i o n c:Nat}{v:Value}(h:Rep B r (.os i o n c) v):∃b C,v= .slice (some ⟨b,o,none⟩) n c∧B i=some (b,C):=by
 cases h with
 | @os _ _ _ _ b C h=>exact⟨b,C,rfl,h⟩
theorem Rep.ogI{i o n:Nat}{v:Value}(h:Rep B r (.og i o n) v):∃b C c,v= .slice (some ⟨b,o,none⟩) n c∧B i=some (b,C)∧n≤c∧(o=0→c=C):=by
 cases h with
 | @og _ _ _ c b C h e f j=>exact⟨b,C,c,rfl,h,e,f⟩
theorem Rep.opI{i o:Nat}{v:Value}(h:Rep B r (.op i o) v):∃b C,v= .pointer (some ⟨b,o,none⟩)∧B i=some (b,C):=by
 cases h with
 | @op _ _ b C h=>exact⟨b,C,rfl,h⟩
theorem Rep.omI{i:Nat}{v:Value}(h:Rep B r (.om i) v):∃b C,v= .map (some b)∧B i=some (b,C):=by
 cases h with
 | @om _ b C h=>exact⟨b,C,rfl,h⟩
theorem Rep.ylI{i:Nat}{v:Value}(h:Rep B r (.yl i) v):∃b C,v= .func (.yield b) #[] #[]∧B i=some (b,C):=by
 cases h with
 | @yl _ b C h=>exact⟨b,C,rfl,h⟩
theorem Rep.lsI{g:Tg}{A:Ty}{l:List A.den}{v:Value}(h:Rep B r (.ls g A l) v):∃ad c,v= .slice ad l.length c∧zGd r (B.In g) A.size (fun x us=>jG r (B.In g) A x us) ad c l:=by
 cases h with
 | ls h=>
  obtain⟨ad,c,e,h⟩:=h;cases e;exact⟨ad,c,rfl,h⟩
theorem jG.reps{g:Tg}:∀(A:Ty)(x:A.den)(vs:List Value),jG r (B.In g) A x vs→zO B r (qD g A x) vs
 | .lim,_,_,h=>by rw[h.1];exact⟨.v rfl,trivial⟩
 | .int _,_,_,h=>by rw[show _=_ from h];exact⟨.v rfl,trivial⟩
 | .bool,_,_,h=>by rw[show _=_ from h];exact⟨.v rfl,trivial⟩
 | .str,_,_,h=>by rw[show _=_ from h];exact⟨.v rfl,trivial⟩
 | .list _,_,_,h=>by
  obtain⟨ad,c,e,h'⟩:=h;subst e;exact⟨.ls ⟨ad,c,rfl,h'⟩,trivial⟩
 | .prod A B,_,_,⟨u,w,e,f,j⟩=>by rw[e];exact zO.app (jG.reps A _ _ f) (jG.reps B _ _ j)
theorem Rep.hvI{A:Ty}{l:List A.den}{v:Value}(h:Rep B r (.hv A l) v):∃ad c,v= .slice ad l.length c∧zGd r (B.In .n) A.size (fun x us=>nV r (B.In .n) A x us) ad c l:=by
 cases h with
 | hv h=>
  obtain⟨ad,c,e,h⟩:=h;cases e;exact⟨ad,c,rfl,h⟩
theorem nV.reps:∀(A:Ty)(x:A.den)(vs:List Value),nV r (B.In .n) A x vs→zO B r (zCd A x) vs
 | .lim,_,_,h=>by obtain⟨a,rfl⟩:=h;exact⟨.u,trivial⟩
 | .int _,_,_,h=>by obtain⟨a,rfl⟩:=h;exact⟨.u,trivial⟩
 | .bool,_,_,h=>by rw[show _=_ from h];exact⟨.v rfl,trivial⟩
 | .str,_,_,h=>by rw[show _=_ from h];exact⟨.v rfl,trivial⟩
 | .list _,_,_,h=>by
  obtain⟨ad,c,e,h'⟩:=h;subst e;exact⟨.hv ⟨ad,c,rfl,h'⟩,trivial⟩
 | .prod A B,_,_,⟨u,w,e,f,j⟩=>by rw[e];exact zO.app (nV.reps A _ _ f) (nV.reps B _ _ j)
theorem jL(g:Tg):∀(A:Ty)(x:A.den),(qD g A x).length=A.size
 | .lim,_=>rfl
 | .int _,_=>rfl
 | .bool,_=>rfl
 | .str,_=>rfl
 | .list _,_=>rfl
 | .prod A B,x=>by rw[qD,List.length_append,jL g A,jL g B];rfl
theorem dX(g:Tg)(A:Ty):∀l:List A.den,(jW g A l).length=l.length*A.size
 | []=>by simp[jW]
 | x::l=>by rw[jW,List.length_append,jL,dX g A l,List.length_cons,Nat.succ_mul,Nat.add_comm]
theorem zKa(g:Tg)(A:Ty):∀(l:List A.den)(j:Nat)(t:T),(jW g A l)[j]?=some t→∃i x q,j=i*A.size+q∧l[i]?=some x∧(qD g A x)[q]?=some t
 | [],_,_,h=>by simp[jW]at h
 | x::l,j,t,h=>by
  rw[jW,List.getElem?_append]at h;split at h
  ·exact⟨0,x,j,by simp,rfl,h⟩
  ·rename_i z;rw[jL]at h z;obtain⟨i,y,q,C,e,f⟩:=zKa g A l _ t h;exact⟨i+1,y,q,by rw[Nat.succ_mul];omega,by simpa using e,f⟩
theorem Rep.lsS{g:Tg}{A:Ty}{l:List A.den}{v:Value}(h:Rep B r (.ls g A l) v):Rep B r (.sl (jW g A l) l.length) v:=by
 obtain⟨ad,c,rfl,hn,f,hh⟩:=h.lsI;rcases hh with rfl | ⟨b,o,rfl,hb,k⟩
 ·exact .sl0 f
 ·refine Cls.sl (fun j t e=>?_) hn f;obtain⟨i,x,q,I,J,K⟩:=zKa g A l j t e;obtain⟨vs,g1,D,G⟩:=k i x J;obtain⟨v,z,C⟩:=(jG.reps A x vs D).get K;exact⟨v,by rw[I];exact G q v z,C⟩
theorem Rep.lsE{g:Tg}{A:Ty}{l:List A.den}{v:Value}(h:Rep B r (.ls g A l) v){i:Nat}(f:i<l.length):∃b o n c,v= .slice (some ⟨b,o,none⟩) n c∧Cls B r b (o+i*A.size) (qD g A (nth A.zero l i)):=by
 obtain⟨ad,c,rfl,hn,I,hh⟩:=h.lsI;rcases hh with rfl | ⟨b,o,rfl,hb,k⟩
 ·simp at f
 ·refine⟨b,o,_,_,rfl,fun j t e=>?_⟩;have G:l[i]?=some (nth A.zero l i):=by rw[qX];simp[f]
  obtain⟨vs,g1,C,D⟩:=k i _ G;obtain⟨v,q,z⟩:=(jG.reps A _ vs C).get e;exact⟨v,by rw[Nat.add_assoc];exact D j v q,z⟩
theorem Rep.hvE{A:Ty}{l:List A.den}{v:Value}(h:Rep B r (.hv A l) v){i:Nat}(f:i<l.length):∃b o n c,v= .slice (some ⟨b,o,none⟩) n c∧Cls B r b (o+i*A.size) (zCd A (nth A.zero l i)):=by
 obtain⟨ad,c,rfl,hn,I,hh⟩:=h.hvI;rcases hh with rfl | ⟨b,o,rfl,hb,k⟩
 ·simp at f
 ·refine⟨b,o,_,_,rfl,fun j t e=>?_⟩;have G:l[i]?=some (nth A.zero l i):=by rw[qX];simp[f]
  obtain⟨vs,g1,C,D⟩:=k i _ G;obtain⟨v,q,z⟩:=(nV.reps A _ vs C).get e;exact⟨v,by rw[Nat.add_assoc];exact D j v q,z⟩
theorem Rep.lsP{g:Tg}{A:Ty}{l:List A.den}{b o n c f k:Nat}(h:Rep B r (.ls g A l) (.slice (some ⟨b,o,none⟩) n c))(G:f+k≤l.length):Rep B r (.ls g A ((l.drop f).take k)) (.slice (some ⟨b,o+f*A.size,none⟩) k (c-f)):=by
 obtain⟨ad,c',e,hn,I,hh⟩:=h.lsI;cases e;refine .ls ⟨some ⟨b,o+f*A.size,none⟩,c-f,?_,?_,by omega,?_⟩
 ·rw[List.length_take,List.length_drop,Nat.min_eq_left (by omega)]
 ·rw[List.length_take,List.length_drop,Nat.min_eq_left (by omega)];omega
 rcases hh with rfl | ⟨D,o',e,hb,kk⟩
 ·left;simp
 ·cases e;right;refine⟨_,_,rfl,hb,fun i x q=>?_⟩;have q:l[f+i]?=some x:=by
   rw[List.getElem?_take]at q;split at q
   ·rwa[List.getElem?_drop]at q
   ·cases q
  obtain⟨vs,g1,z,C⟩:=kk _ x q;refine⟨vs,g1,z,fun j v hv=>?_⟩;have:=C j v hv;rwa[show o+f*A.size+(i*A.size+j)=o+((f+i)*A.size+j)by rw[Nat.add_mul];omega]
theorem Rep.cells{t:T}{v:Value}(ht:t≠.u)(h:Rep B r t v):zO B r (cellsOf t) v.cells.toList:=by
 have one:∀{t:T}{v:Value},v.cells=#[v]→cellsOf t=[t]→Rep B r t v→zO B r (cellsOf t) v.cells.toList:=fun z A h=>by rw[z,A];exact⟨h,trivial⟩
 cases h with
 | u=>exact absurd rfl ht
 | v h'=>refine one ?_ rfl (.v h');cases v<;>first | rfl | (simp[sc]at h')
 | ag f j h g=>exact zHp f j h g
 | sl hn f h g q=>exact one rfl rfl (.sl hn f h g q)
 | sl0 q=>exact one rfl rfl (.sl0 q)
 | sn hn f h g q hb=>exact one rfl rfl (.sn hn f h g q hb)
 | sn0 q=>exact one rfl rfl (.sn0 q)
 | st f h g=>exact one rfl rfl (.st f h g)
 | st0=>exact one rfl rfl .st0
 | fp f h g=>exact one rfl rfl (.fp f h g)
 | os h=>exact one rfl rfl (.os h)
 | og h C D G=>exact one rfl rfl (.og h C D G)
 | op h=>exact one rfl rfl (.op h)
 | tu f j h g=>exact one rfl rfl (.tu f j h g)
 | fn f j h g=>exact one rfl rfl (.fn f j h g)
 | fb f j h g=>exact one rfl rfl (.fb f j h g)
 | om h=>exact one rfl rfl (.om h)
 | yl h=>exact one rfl rfl (.yl h)
 | ls h=>exact one (by obtain⟨_,_,e,_⟩:=h;cases e;rfl) rfl (.ls h)
 | hv h=>exact one (by obtain⟨_,_,e,_⟩:=h;cases e;rfl) rfl (.hv h)
theorem zWo(x:Value):Rep B r (ofV x) x:=by
 unfold ofV;cases h:sc x with
 | true=>exact .v h
 | false=>exact .u
theorem mU:∀l:List Value,zO B r (l.map ofV) l
 | []=>trivial
 | x::l=>⟨zWo x,mU l⟩
theorem zBb(x:Value):Rep B r (ofC x) x:=by
 unfold ofC;split
 ·rename_i cs;have:=Rep.mkAg (B:=B) (r:=r) (mU cs.toList);simpa using this
 ·rename_i cs;have:=Rep.mkTu (B:=B) (r:=r) (mU cs.toList);simpa using this
 ·rename_i f;exact Rep.mkFn (vs:=[]) trivial
 ·exact zWo x
theorem Cls.cells{b o n:Nat}{cs us:List T}{w:World}{Y:Hid}(h:Cls B (rd w Y) b o cs)(ht:jN n cs=some us):∃vs,vs.length=n∧zO B (rd w Y) us vs∧jE w ⟨b,o,none⟩ vs:=by
 obtain⟨C,A⟩:=zBt ht;obtain⟨f,D,G⟩:=h.fun;have I:∀j,j<n→∃t,cs[j]?=some t:=fun j q=>⟨cs[j],by simp⟩
 refine⟨(List.range n).map f,by simp,zO.of (by simp[A,Nat.min_eq_left C]) fun j t v e z=>?_,fun j v e=>?_⟩
 ·have q:j<n:=by
   have:=(List.getElem?_eq_some_iff.1 z).1;simpa using this
  rw[A,List.getElem?_take,if_pos q]at e;have:v=f j:=by simpa[q]using z.symm
  rw[this];exact G j t e
 ·have q:j<n:=by
   have:=(List.getElem?_eq_some_iff.1 e).1;simpa using this
  obtain⟨t,ht⟩:=I j q;have:v=f j:=by simpa[q]using e.symm
  rw[this,jO];exact yK (D j t ht)
end
def Iv(P:Program)(w:World):Prop:=P.globalNamed "internal/strconv.uint64pow10" ≠none→Lib.TabIs P w "internal/strconv.uint64pow10" .u64 Lib.pow10Tab
theorem Iv.upd{P:Program}{w w':World}(h:Iv P w)(e:Upd E0 w w'):Iv P w':=fun hn=>Lib.tabBelow_of_tabIs (h hn) w' e.below
def vL:TO→Bool
 | .row .. | .gro .. | .map _ | .mapd _ | .loop .. =>true
 | _=>false
def LSt:Bool→Option Code→Loop→Prop
 | true,none,rec=>rec.state= .ready∧rec.pending=none
 | true,some _,_=>False
 | false,none,rec=>rec.state= .busy
 | false,some c,rec=>rec.state= .done∧rec.pending=some c
def xJ(B:Bm)(r:Rd):List (Value×T)→List MapEntry→Prop
 | [],[]=>True
 | e::l,f::es=>f.key=e.1∧Rep B r e.2 f.val∧xJ B r l es
 | _,_=>False
theorem xJ.mono{B B':Bm}{r r':Rd}(e:BLe B B')(hr:Le r r'):∀{l:List (Value×T)}{es:List MapEntry},xJ B r l es→xJ B' r' l es
 | [],[],_=>trivial
 | _::_,_::_,h=>⟨h.1,h.2.1.mono e hr,xJ.mono e hr h.2.2⟩
 | [],_::_,h=>h.elim
 | _::_,[],h=>h.elim
theorem xJ.length{B:Bm}{r:Rd}:∀{l:List (Value×T)}{es:List MapEntry},xJ B r l es→l.length=es.length
 | [],[],_=>rfl
 | _::_,_::_,h=>congrArg (·+1) (xJ.length h.2.2)
 | [],_::_,h=>h.elim
 | _::_,[],h=>h.elim
inductive RO (P:Program) (B:Bm) (r:Rd) (C:Nat):TO→Obj→Prop
  | row {cs:List T} {e:TypeId} {c:Array Value} (h:zO B r cs c.toList):RO P B r C (.row cs e) (.cells c e (0,0))
  | gro {cs:Cs} {e:TypeId} {c:Array Value} {i0:TypeInfo} (hi:P.info? e=some i0) (hs:c.size=C*i0.size) (hC:C≤maxLen) (h:zO B r cs.list (c.toList.take cs.list.length)):RO P B r C (.gro cs e) (.cells c e (0,0))
  | map {l:List (Value×T)} {es:Array MapEntry} {clk:Nat} (h:xJ B r l es.toList) (hc:clk=es.size) (hb:es.toList.map (·.born)=List.range es.size):RO P B r C (.map l) (.map es clk)
  | mapd {d:MD} {es:Array MapEntry} {clk:Nat} (h:xJ B r d.ents es.toList) (hc:clk=es.size) (hb:es.toList.map (·.born)=List.range es.size):RO P B r C (.mapd d) (.map es clk)
  | loop {L:List T} {ps:List Nat} {a b:Code} {rec:Loop} {ready:Bool} {pend:Option Code} (hL:zO B r L rec.tmps.toList) (hp:rec.params.toList=ps) (ha:rec.assign=a) (hb:rec.body=b)
      (hna:noR a=true) (hnb:noR b=true) (hs:LSt ready pend rec):RO P B r C (.loop L ps a b ready pend) (.loop rec)
theorem RO.mono{P:Program}{B B':Bm}{r r':Rd}{C:Nat}{t:TO}{o:Obj}(e:BLe B B')(hr:Le r r')(h:RO P B r C t o):RO P B' r' C t o:=by
 cases h with
 | row h=>exact .row (h.mono e hr)
 | gro A hs q h=>exact .gro A hs q (h.mono e hr)
 | map h f hb=>exact .map (h.mono e hr) f hb
 | mapd h f hb=>exact .mapd (h.mono e hr) f hb
 | loop z hp ha hb hna j hs=>exact .loop (z.mono e hr) hp ha hb hna j hs
structure Wd(P:Program)(E:Nat→Prop)(w0:World)(X:Hid)(F:List Nat)(H:List TO)(B:Bm)(w:World)(Y:Hid)(Mo:List (Nat×Obj)):Prop where
 st:St E w0 X w Y (Mo++xF F)
 ob:∀(i:Nat)(o:TO),H[i]?=some o→vL o=true→∃b C ob,B i=some (b,C)∧(b,ob)∈Mo∧RO P B (rd w Y) C o ob
 fz:∀(i:Nat)(cs:List T),H[i]?=some (.fz cs)→∃b C,B i=some (b,C)∧Cls B (rd w Y) b 0 cs
 nn:∀i,H.length≤i→B i=none
 inj:∀(i j:Nat)(oi oj:TO)(p q:Nat×Nat),H[i]?=some oi→vL oi=true→H[j]?=some oj→vL oj=true→B i=some p→B j=some q→p.1=q.1→i=j
 bN:B.N=w0.heap.size
 iv:∀w',Upd E w0 w'→Iv P w'
section
variable {P:Program}{E:Nat→Prop}{w0:World}{X:Hid}{F:List Nat}{H:List TO}{B:Bm}{w w':World}{Y Y':Hid}{Mo:List (Nat×Obj)}
theorem St.perm{M e:List (Nat×Obj)}(hp:M.Perm e)(h:St E w0 X w Y M):St E w0 X w Y e:=
 ⟨h.upd,h.lt,h.hid,fun q f=>h.own q (hp.mem_iff.2 f),(hp.map (·.1)).nodup_iff.1 h.nd,h.ltX⟩
theorem Wd.step{F':List Nat}(h:Wd P E w0 X F H B w Y Mo)(z:St E w0 X w' Y' (Mo++xF F'))(e:Le (rd w Y) (rd w' Y')):Wd P E w0 X F' H B w' Y' Mo:=
 ⟨z,fun i o ho D=>by
  obtain⟨b,C,ob,f,j,q⟩:=h.ob i o ho D;exact⟨b,C,ob,f,j,q.mono (BLe.refl B) e⟩,fun i cs A=>by
  obtain⟨b,C,f,j⟩:=h.fz i cs A;exact⟨b,C,f,j.mono (BLe.refl B) e⟩,h.nn,h.inj,h.bN,h.iv⟩
theorem Wd.call(h:Wd P E w0 X F H B w Y Mo)(k:Upd E0 w w'):Wd P E w0 X F H B w' Y Mo:=h.step (h.st.call k) (k.le Y)
theorem Wd.heap(h:Wd P E w0 X F H B w Y Mo){b:Nat}{ob:Obj}(e:(b,ob)∈Mo):w.heap[b]?=some ob:=(h.st.own _ (List.mem_append_left _ e)).1
theorem Wd.ivw(h:Wd P E w0 X F H B w Y Mo):Iv P w:=h.iv w h.st.upd
theorem Wd.bNle(h:Wd P E w0 X F H B w Y Mo):B.N≤w.heap.size:=by rw[h.bN];exact h.st.upd.size
theorem Wd.new{F':List Nat}(h:Wd P E w0 X F H B w Y Mo){g C:Nat}{o:TO}{ob:Obj}(R:St E w0 X w' Y' (((g,ob)::Mo)++xF F'))(K:Le (rd w Y) (rd w' Y'))(O:vL o=true)(W:RO P B (rd w' Y') C o ob):
  Wd P E w0 X F' (H++[o]) (rG B H.length (g,C)) w' Y' ((g,ob)::Mo)∧BLe B (rG B H.length (g,C)):=by
 have A:BLe B (rG B H.length (g,C)):=BLe.set (h.nn _ (Nat.le_refl _));have Z:∀p∈Mo,p.1≠g:=fun p hp e=>by
  have:=R.nd;simp only[List.cons_append,List.map_cons,List.nodup_cons,List.mem_map,not_exists,not_and]at this;exact this.1 p (List.mem_append_left _ hp) e
 have hget:∀(i:Nat)(x:TO),(H++[o])[i]?=some x→(H[i]?=some x∧i≠H.length)∨(i=H.length∧x=o):=fun i x f=>by
  rcases Nat.lt_trichotomy i H.length with hlt | rfl | hlt
  ·rw[List.getElem?_append_left hlt]at f;exact .inl ⟨f,Nat.ne_of_lt hlt⟩
  ·simp at f;exact .inr ⟨rfl,f.symm⟩
  ·rw[List.getElem?_eq_none (by simp;omega)]at f;cases f
 refine⟨⟨R,fun i x f Q=>?_,fun i cs f=>?_,fun i N=>?_,fun i j oi oj p q N li hj S hp D e=>?_,h.bN,h.iv⟩,A⟩
 ·rcases hget i x f with⟨f,_⟩ | ⟨rfl,rfl⟩
  ·obtain⟨b,M,L,z,G,V⟩:=h.ob i x f Q;exact⟨b,M,L,A _ _ z,List.mem_cons_of_mem _ G,V.mono A K⟩
  ·exact⟨g,C,ob,qJ _ _ _,List.mem_cons_self,W.mono A (Le.refl _)⟩
 ·rcases hget i _ f with⟨f,_⟩ | ⟨rfl,e⟩
  ·obtain⟨b,M,z,G⟩:=h.fz i cs f;exact⟨b,M,A _ _ z,G.mono A K⟩
  ·subst e;cases O
 ·rw[List.length_append,List.length_singleton]at N;rw[jU _ _ (by omega)]
  exact h.nn i (by omega)
 ·have own:∀(i:Nat)(x:TO)(p:Nat×Nat),H[i]?=some x→vL x=true→B i=some p→p.1≠g:=fun i x p f O hp=>by
   obtain⟨b,M,L,z,G,_⟩:=h.ob i x f O;rw[hp]at z;cases z;exact Z _ G
  rcases hget i _ N with⟨I,T⟩ | ⟨rfl,rfl⟩<;>rcases hget j _ hj with⟨J,U⟩ | ⟨rfl,rfl⟩
  ·rw[jU _ _ T]at hp;rw[jU _ _ U]at D;exact h.inj i j oi oj p q I li J S hp D e
  ·rw[jU _ _ T]at hp;rw[qJ]at D;cases D;exact absurd e (own i _ p I li hp)
  ·rw[jU _ _ U]at D;rw[qJ]at hp;cases hp;exact absurd e.symm (own j _ q J S D)
  ·rfl
theorem Wd.alloc(h:Wd P E w0 X F H B w Y Mo){C:Nat}{o:TO}{ob:Obj}(f:vL o=true)(e:RO P B (rd w Y) C o ob):
  Wd P E w0 X F (H++[o]) (rG B H.length (w.heap.size,C)) (w.alloc ob) (zAt w.heap.size Y) ((w.heap.size,ob)::Mo)∧BLe B (rG B H.length (w.heap.size,C)):=
 h.new (h.st.alloc ob) (Le.hide_new ob) f (e.mono (BLe.refl B) (Le.hide_new ob))
theorem zTo{α:Type}{l:List α}{k:Nat}{p q x:α}(A:l[k]?=some q)(hp:p∈l)(z:p≠q):p∈l.set k x:=by
 obtain⟨j,f⟩:=List.getElem?_of_mem hp;have:k≠j:=fun e=>by subst e;rw[A]at f;cases f;exact z rfl
 exact List.mem_of_getElem? (i:=j) (by rw[List.getElem?_set_ne this];exact f)
theorem Wd.set(h:Wd P E w0 X F H B w Y Mo){i k b C:Nat}{o o':TO}{ob z:Obj}(J:H[i]?=some o)(M:vL o=true)(R:B i=some (b,C))(S:Mo[k]?=some (b,ob))(hS:St E w0 X w' Y (Mo.set k (b,z)++xF F))(G:Le (rd w Y) (rd w' Y))
  (N:∀cs,o'≠.fz cs) (hR:vL o'=true→RO P B (rd w' Y) C o' z):Wd P E w0 X F (H.set i o') B w' Y (Mo.set k (b,z)):=by
 have hlt:i<H.length:=(List.getElem?_eq_some_iff.1 J).1;have hget:∀(j:Nat)(x:TO),(H.set i o')[j]?=some x→(j≠i∧H[j]?=some x)∨(j=i∧x=o'):=fun j x f=>by
  by_cases e:i=j
  ·subst e;rw[List.getElem?_set_self hlt]at f;cases f;exact .inr ⟨rfl,rfl⟩
  ·rw[List.getElem?_set_ne e]at f;exact .inl ⟨fun U=>e U.symm,f⟩
 refine⟨hS,fun j x f A=>?_,fun j cs f=>?_,fun j hj=>h.nn j (by simpa using hj),fun j1 j2 o1 o2 p q W T Z l2 hp O e=>?_,h.bN,h.iv⟩
 ·rcases hget j x f with⟨I,f⟩ | ⟨rfl,rfl⟩
  ·obtain⟨L,K,Q,g1,D,V⟩:=h.ob j x f A;refine⟨L,K,Q,g1,zTo S D (fun e=>I ?_),V.mono (BLe.refl B) G⟩;cases e;exact h.inj j i x o _ _ f A J M g1 R rfl
  ·exact⟨b,C,z,R,List.mem_of_getElem? (i:=k) (by rw[List.getElem?_set_self (List.getElem?_eq_some_iff.1 S).1]),hR A⟩
 ·rcases hget j _ f with⟨I,f⟩ | ⟨rfl,e⟩
  ·obtain⟨L,K,g1,D⟩:=h.fz j cs f;exact⟨L,K,g1,D.mono (BLe.refl B) G⟩
  ·exact absurd e.symm (N cs)
 ·rcases hget j1 _ W with⟨n1,g1⟩ | ⟨rfl,rfl⟩<;>rcases hget j2 _ Z with⟨n2,D⟩ | ⟨rfl,rfl⟩
  ·exact h.inj _ _ _ _ _ _ g1 T D l2 hp O e
  ·exact h.inj _ _ _ _ _ _ g1 T J M hp O e
  ·exact h.inj _ _ _ _ _ _ J M D l2 hp O e
  ·rfl
theorem Wd.gone(h:Wd P E w0 X F H B w Y Mo)(i:Nat):Wd P E w0 X F (H.set i .gone) B w Y Mo:=by
 have hget:∀(j:Nat)(x:TO),(H.set i .gone)[j]?=some x→x≠.gone→H[j]?=some x:=fun j x f A=>by
  by_cases e:i=j
  ·subst e;rw[List.getElem?_set]at f;split at f
   ·split at f
    ·cases f;exact absurd rfl A
    ·cases f
   ·exact f
  ·rwa[List.getElem?_set_ne e]at f
 have C:∀{x:TO},vL x=true→x≠.gone:=fun h e=>by subst e;cases h
 exact⟨h.st,fun j x f z=>h.ob j x (hget j x f (C z)) z,fun j cs f=>h.fz j cs (hget j _ f (by simp)),fun j J=>h.nn j (by simpa using J),
  fun L M N O p q G D I l2 hp K e=>h.inj L M N O p q (hget _ _ G (C D)) D (hget _ _ I (C l2)) l2 hp K e,h.bN,h.iv⟩
theorem Wd.rowCells(h:Wd P E w0 X F H B w Y Mo){i b C o n:Nat}{cs us:List T}(K:B i=some (b,C))(hr:mQ (nth .gone H i)=some cs)(ht:jN n (jJ cs o)=some us):∃vs,vs.length=n∧zO B (rd w Y) us vs∧jE w ⟨b,o,none⟩ vs:=by
 rw[qX]at hr;cases G:H[i]? with
 | none=>rw[zh,G]at hr;simp[mQ]at hr
 | some x=>
  rw[zh,G]at hr;have f:∀(c:Array Value)(e:TypeId)(z:Nat×Nat),w.heap[b]?=some (.cells c e z)→zO B (rd w Y) cs (c.toList.take cs.length)→∃vs,vs.length=n∧zO B (rd w Y) us vs∧jE w ⟨b,o,none⟩ vs:=fun c e z hb q=>by
   obtain⟨Q,O⟩:=zO.take (q.drop o) ht;refine⟨_,O,Q,fun j v I=>?_⟩;rw[jO,cell_of_row w b _ c e z hb];have L:j<n:=by rw[←O];exact(List.getElem?_eq_some_iff.1 I).1
   rw[List.getElem?_take,if_pos L,List.getElem?_drop,List.getElem?_take]at I;split at I
   ·simpa using I
   ·cases I
  cases x with
  | row A e=>
   simp only[Option.getD_some,mQ,za]at hr;subst hr;obtain⟨N,M,ob,g1,D,J⟩:=h.ob i _ G rfl;rw[K]at g1;cases g1;cases J with
   | @row _ _ c q=>exact f c e _ (h.heap D) (by rw[q.length,List.take_length];exact q)
  | gro A e=>
   simp only[Option.getD_some,mQ,za]at hr;subst hr;obtain⟨N,M,ob,g1,D,J⟩:=h.ob i _ G rfl;rw[K]at g1;cases g1;cases J with
   | @gro _ _ c i0 _ _ _ q=>exact f c e _ (h.heap D) q
  | fz A=>
   simp only[Option.getD_some,mQ,za]at hr;subst hr;obtain⟨N,M,g1,D⟩:=h.fz i _ G;rw[K]at g1;cases g1;have:=(D.drop o).cells ht;simpa using this
  | _=>simp[mQ]at hr
theorem Wd.from(h:Wd P E w0 X F H B w Y Mo){t:T}{v:Value}{n:Nat}{cs us:List T}(z:Rep B (rd w Y) t v)(e:aA H t=some cs)(ht:jN n cs=some us):∃b o vs,v= .pointer (some ⟨b,o,none⟩)∧vs.length=n∧zO B (rd w Y) us vs∧jE w ⟨b,o,none⟩ vs:=by
 cases t<;>simp only[aA]at e<;>try cases e
 ·obtain⟨b,o,rfl,G⟩:=z.fpI;obtain⟨vs,f,j,q⟩:=G.cells ht;exact⟨b,o,vs,rfl,f,j,q⟩
 ·rename_i i o;cases hr:mQ (nth .gone H i)with
  | none=>simp[hr]at e
  | some A=>
   simp only[hr,za]at e;subst e;cases z with
   | @op _ _ b C D=>
    obtain⟨vs,f,j,q⟩:=h.rowCells D hr ht;exact⟨b,o,vs,rfl,f,j,q⟩
theorem Wd.slice(h:Wd P E w0 X F H B w Y Mo){t:T}{v:Value}{n s:Nat}{us:List T}(I:Rep B (rd w Y) t v)(hn:jI t=some n)(f:qG H s t=some us):∃ad c vs,v= .slice ad n c∧vs.length=n*s∧zO B (rd w Y) us vs∧(n*s≠0→∃a,ad=some a)∧∀a,ad=some a→jE w a vs:=by
 have J:∀{us:List T},jN 0 ([]:List T)=some us→us=[]:=fun h=>by simpa[jN]using h.symm
 cases t with
 | u=>cases f
 | fp=>cases f
 | op=>cases f
 | ag=>cases f
 | tu=>cases f
 | fn=>cases f
 | fb=>cases f
 | om=>cases f
 | yl=>cases f
 | hv=>cases f
 | ls g A l=>
  simp only[jI,za]at hn;subst hn;simp only[qG]at f;cases hb:Nat.beq s A.size with
  | false=>simp[hb]at f
  | true=>
   simp only[hb,ze,za]at f;obtain rfl:=Nat.eq_of_beq_eq_true hb;subst f;have ht:jN (l.length*A.size) (jW g A l)=some (jW g A l):=by rw[←dX g A l];exact dI _
   obtain⟨ad,c,rfl,_,hh⟩:=I.lsS.slI;rcases hh with⟨M,z⟩ | ⟨b,o,rfl,q⟩
   ·refine⟨ad,c,[],rfl,by simp[M],?_,by simp[M],fun a _ j v e=>by simp at e⟩
    rw[z];trivial
   ·obtain⟨vs,z,D,G⟩:=q.cells ht;exact⟨_,c,vs,rfl,z,D,fun _=>⟨_,rfl⟩,fun a e=>by cases e;exact G⟩
 | v x=>
  obtain⟨rfl,_⟩:=I.vI;unfold qG at f;split at f;all_goals first
   | (rename_i e;cases e;done)
   | (cases f;done)
   | skip
  rename_i e;cases e;simp only[jI,za]at hn;subst hn;obtain rfl:=Option.some.inj f;exact⟨none,0,[],rfl,by simp,trivial,by simp,fun a e=>by cases e⟩
 | sl cs k=>
  simp only[jI,za]at hn;subst hn;simp only[qG]at f;obtain⟨ad,c,rfl,_,hh⟩:=I.slI;rcases hh with⟨rfl,rfl⟩ | ⟨b,o,rfl,q⟩
  ·rw[Nat.zero_mul]at f;obtain rfl:=J f;exact⟨ad,c,[],rfl,by simp,trivial,by simp,fun a _ j v e=>by simp at e⟩
  ·obtain⟨vs,z,D,G⟩:=q.cells f;exact⟨_,c,vs,rfl,z,D,fun _=>⟨_,rfl⟩,fun a e=>by cases e;exact G⟩
 | sn cs k=>
  simp only[jI,za]at hn;subst hn;simp only[qG]at f;obtain⟨ad,c,rfl,_,hh⟩:=(show Rep B (rd w Y) (.sl cs k) v from I.dn).slI;rcases hh with⟨rfl,rfl⟩ | ⟨b,o,rfl,q⟩
  ·rw[Nat.zero_mul]at f;obtain rfl:=J f;exact⟨ad,c,[],rfl,by simp,trivial,by simp,fun a _ j v e=>by simp at e⟩
  ·obtain⟨vs,z,D,G⟩:=q.cells f;exact⟨_,c,vs,rfl,z,D,fun _=>⟨_,rfl⟩,fun a e=>by cases e;exact G⟩
 | st cs k=>
  simp only[jI,za]at hn;subst hn;simp only[qG]at f;obtain⟨ad,rfl,hh⟩:=I.stI;rcases hh with⟨rfl,rfl⟩ | ⟨b,o,rfl,q⟩
  ·rw[Nat.zero_mul]at f;obtain rfl:=J f;exact⟨ad,0,[],rfl,by simp,trivial,by simp,fun a _ j v e=>by simp at e⟩
  ·obtain⟨vs,z,D,G⟩:=q.cells f;exact⟨_,_,vs,rfl,z,D,fun _=>⟨_,rfl⟩,fun a e=>by cases e;exact G⟩
 | os i o k c=>
  simp only[jI,za]at hn;subst hn;simp only[qG]at f;cases hr:mQ (nth .gone H i)with
  | none=>simp[hr]at f
  | some K=>
   simp only[hr]at f;cases I with
   | @os _ _ _ _ b C L=>
    obtain⟨vs,z,D,G⟩:=h.rowCells L hr f;exact⟨_,c,vs,rfl,z,D,fun _=>⟨_,rfl⟩,fun a e=>by cases e;exact G⟩
 | og i o k=>
  simp only[jI,za]at hn;subst hn;simp only[qG]at f;cases hr:mQ (nth .gone H i)with
  | none=>simp[hr]at f
  | some K=>
   simp only[hr]at f;cases I with
   | @og _ _ _ c b C L _ _=>
    obtain⟨vs,z,D,G⟩:=h.rowCells L hr f;exact⟨_,c,vs,rfl,z,D,fun _=>⟨_,rfl⟩,fun a e=>by cases e;exact G⟩
end
end Go.Ev

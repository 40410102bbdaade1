import Derived.Lib.AppendIntMem
import Derived.Lib.ItoaNum
import Derived.Test.YtjnpoeilfdbaaaaGreatDoorBaseB
set_option linter.unusedVariables false
set_option linter.unusedSimpArgs false
set_option linter.unnecessarySimpa false
namespace Go.Proofs.YtjnpoeilfdbaaaaGreatDoor
open Go Go.Gv Go.RowKit IntKind
set_option maxRecDepth 100000
section
variable (w:World)(X:Hid)(hX:∀k o,X k o→k<w.heap.size)
set_option maxHeartbeats 1000000
include hX in
theorem zYm(sg:Bool)(ad:Option Addr)(len cap x:Nat)(h:qH (rd w X) ad len cap x)(ad2:Option Addr)(len2 O2 y:Nat)(h2:qH (rd w X) ad2 len2 O2 y):Calls Tryz.prog 38 #[.agg #[.bool sg,.slice ad len cap,.slice ad2 len2 O2]] w (Ret E0 w fun w' v=>zXh X w' v sg x (if y=0 then 1 else y)):=by
 refine zen Tryz.func38 ?_;have Z0:St E0 w X w X []:=St.start hX;refine zz 2<|zn pn (.cells #[.bool sg,.slice ad len cap,.slice ad2 len2 O2] 28 (0,0)) Z0 fun b3 w3 Y3 Z3 G3 N3=>zn pn (.cells #[.slice none 0 0,.slice none 0 0,.bool false] 79 (0,0)) Z3 fun b5 w5 Y5 Z5 G5 N5=>zz 5<|zo 1 Z5<|zz 1<|zo 1 Z5<|zz 2<|zo 1 Z5 ?_;refine zz 1<|zn pn (.cells #[.slice none 0 0,.slice none 0 0,.bool false] 79 (0,0)) Z5 fun b7 w7 Y7 Z7 G7 N7=>zx 0 #[.slice ad len cap,.slice ad2 len2 O2,.bool sg] Z7 fun w8 Z8 G8=>zz 7<|zo 0 Z8<|zz 4<|zb 16 (b:=((len2:Int)==0)) (fun J9=>?_) (fun J9=>?_);have F10:(len2:Int)=0:=by simpa using J9
 have hy0:y=0:=h2.len0.1 (by omega)
 refine zz 2<|zn (fun b=> .slice (some ⟨b,0,none⟩) 1 1) (.cells #[.int .u32 1] 143 (0,0)) Z8 fun b12 w12 Y12 Z12 G12 N12=>zz 2<|zx 1 #[.slice ad len cap,.slice (some ⟨b12,0,none⟩) 1 1,.bool sg] Z12 fun w13 Z13 G13=>zz 4<|zo 1 Z13<|zx 2 #[.slice ad len cap,.slice (some ⟨b12,0,none⟩) 1 1,.bool sg] Z13 fun w14 Z14 G14=>zz 3<|zrS [.cell 2 79] (v:= .agg #[.slice ad len cap,.slice (some ⟨b12,0,none⟩) 1 1,.bool sg]) (Res.cM Z14 2 Res.nil) ?_;have J1_:=(Le6 G3 G5 G7 G8 G12 G13).trans G14;exact⟨Z14.upd,_,rfl,_,_,_,_,_,_,rfl,(h.mono J1_).mono Z14.le,by rw[if_pos hy0];exact qLb (Z14.rowX 0 rfl (Z14.own_ge 0 rfl) (qLc rfl))⟩
 have F15:(len2:Int)≠0:=by simpa using J9
 have hy0:y≠0:=fun e=>absurd (h2.len0.2 e) (by omega)
 refine zz 5<|zo 0 Z8<|zx 1 #[.slice ad len cap,.slice ad2 len2 O2,.bool sg] Z8 fun w16 Z16 G16=>zz 3<|zrS [.cell 2 79] (v:= .agg #[.slice ad len cap,.slice ad2 len2 O2,.bool sg]) (Res.cM Z16 1 Res.nil) ?_;have J2_:=(Le4 G3 G5 G7 G8).trans G16;exact⟨Z16.upd,_,rfl,_,_,_,_,_,_,rfl,(h.mono J2_).mono Z16.le,by rw[if_neg hy0];exact(h2.mono J2_).mono Z16.le⟩
include hX in
theorem qPm(ad₁:Option Addr)(len₁ cap₁ n₁:Nat)(h₁:qH (rd w X) ad₁ len₁ cap₁ n₁)(ae₁:Option Addr)(le₁ ce₁ d₁:Nat)(k₁:qH (rd w X) ae₁ le₁ ce₁ d₁)(s₁:Bool)(hn₁:n₁<jZ)(hd₁:d₁<jZ)(ad₂:Option Addr)(len₂ cap₂ n₂:Nat)(h₂:qH (rd w X) ad₂ len₂ cap₂ n₂)(ae₂:Option Addr)(le₂ ce₂ d₂:Nat)(k₂:qH (rd w X) ae₂ le₂ ce₂ d₂)(s₂:Bool)(hn₂:n₂<jZ)(hd₂:d₂<jZ):Calls Tryz.prog 39 #[.agg #[.slice ad₁ len₁ cap₁,.slice ae₁ le₁ ce₁,.bool s₁],.agg #[.slice ad₂ len₂ cap₂,.slice ae₂ le₂ ce₂,.bool s₂]] w (Ret E0 w fun w' v=>∃s m,zXh X w' v s m (d₁*d₂)∧m<4294967296^512∧sgn s m=sgn s₁ n₁*d₂+sgn s₂ n₂*d₁):=by
 refine zen Tryz.func39 ?_;have Z0:St E0 w X w X []:=St.start hX;have hb:∀{x:Nat},x<jZ→x<4294967296^512:=fun h=>Nat.lt_of_lt_of_le h qKb;have hbn1:=hb hn₁;have hbn2:=hb hn₂;have hbd1:=hb hd₁;have hbd2:=hb hd₂;obtain⟨hp1,hp12⟩:=xY hn₁ hd₂ hn₂ hd₁;have hp2:=(xY hn₂ hd₁ hn₁ hd₂).1;have hpd:=(xY hd₁ hd₂ hd₁ hd₂).1;have hpn:=(xY hn₁ hn₂ hd₁ hd₂).1;refine zz 2<|zn pn (.cells #[.slice ad₁ len₁ cap₁,.slice ae₁ le₁ ce₁,.bool s₁] 79 (0,0)) Z0 fun b3 w3 Y3 Z3 G3 N3=>zn pn (.cells #[.slice ad₂ len₂ cap₂,.slice ae₂ le₂ ce₂,.bool s₂] 79 (0,0)) Z3 fun b5 w5 Y5 Z5 G5 N5=>zn pn (.cells #[.slice none 0 0,.slice none 0 0,.bool false] 79 (0,0)) Z5 fun b7 w7 Y7 Z7 G7 N7=>zz 3<|zdr Z7<|gz [0,1]<|gw 2 2<|gz [3,4] ?_;refine gw 5 1<|gz [7,8]<|gw 9 1<|gz [10,11]<|gw 12 2 ?_;have J1_:=(Le2 G3 G5).trans G7;refine gC 6 (fun w8 Y8 _ Z8 G8=>(zCf _ _ Z8.lt _ _ _ n₁ (h₁.mono (J1_.trans G8)) _ _ _ d₂ (k₂.mono (J1_.trans G8)) (by first | assumption | omega) (by first | assumption | omega) (by first | assumption | omega))) ?_
 rintro v9 w8 Y9 w9 Z8 G9 ⟨ad9,len9,O9,rfl,hN9⟩;have J2_:=J1_.trans G9;refine gC 13 (fun w10 Y10 _ Z10 G10=>(zCf _ _ Z10.lt _ _ _ n₂ (h₂.mono (J2_.trans G10)) _ _ _ d₁ (k₁.mono (J2_.trans G10)) (by first | assumption | omega) (by first | assumption | omega) (by first | assumption | omega))) ?_
 rintro v11 w10 Y11 w11 Z10 G11 ⟨ad11,len11,O11,rfl,hN11⟩;refine gz [14,15]<|zCy (fun w12 Y12 Z12 G12=>?_);refine zz 2<|zdr Z12<|gz [0,1]<|gw 2 2<|gz [3,4]<|gw 5 1<|gz [8]<|gw 9 2<|gp (al 11 7 pn (.cells #[.slice none 0 0,.slice none 0 0,.bool false] 79 (0,0))) ?_;have J3_:=(J2_.trans G11).trans G12;refine gC 6 (fun w13 Y13 _ Z13 G13=>(zCf _ _ Z13.lt _ _ _ d₁ (k₁.mono (J3_.trans G13)) _ _ _ d₂ (k₂.mono (J3_.trans G13)) (by first | assumption | omega) (by first | assumption | omega) (by first | assumption | omega))) ?_ (hPd:=kW.nil.k)
 rintro v14 w13 Y14 w14 Z13 G14 ⟨ad14,len14,O14,rfl,hN14⟩;refine gz [7,10]<|gs1 (fun b15=>?_) kW.nil.k;refine gX 12 0 #[.slice none 0 0,.slice ad14 len14 O14,.bool s₁] fun w16 Y16 G16=>zCy (fun w17 Y17 Z17 G17=>?_);refine zz 5<|zo 3 Z17<|zz 1<|zo 2 Z17<|zz 3<|zb 38 (b:=(s₁==s₂)) (fun J18=>?_) (fun J18=>?_);have F19:s₁=s₂:=by simpa using J18
 refine zz 5 ?_;have J4_:=(Le4 G11 G12 G14 G16).trans G17;have J5_:=(Le3 G12 G14 G16).trans G17;refine zc Z17 (qZf _ _ Z17.lt _ _ _ (n₁*d₂) (hN9.mono J4_) _ _ _ (n₂*d₁) (hN11.mono J5_) (by first | assumption | omega) (by first | assumption | omega) (by first | assumption | omega)) ?_
 rintro v21 w21 Z21 G21 N21 ⟨ad21,len21,O21,rfl,hN21⟩;refine zz 2<|zx 0 #[.slice ad21 len21 O21,.slice ad14 len14 O14,.bool s₁] Z21 fun w22 Z22 G22=>zz 4<|zo 0 Z22<|zx 1 #[.slice ad21 len21 O21,.slice ad14 len14 O14,.bool s₁] Z22 fun w23 Z23 G23=>zz 4<|zrS [.cell 4 79] (v:= .agg #[.slice ad21 len21 O21,.slice ad14 len14 O14,.bool s₁]) (Res.cM Z23 1 Res.nil) ?_;have J6_:=(Le4 G16 G17 G21 G22).trans G23;have hx9:=(hN21.mono (Le2 G22 G23));exact⟨Z23.upd,_,rfl,_,_,⟨_,_,_,_,_,_,rfl,hx9.mono Z23.le,(hN14.mono J6_).mono Z23.le⟩,hp12,qHe F19 _ _ _ _⟩;have F24:s₁≠s₂:=by simpa using J18
 refine zz 13 ?_;have J7_:=(Le4 G11 G12 G14 G16).trans G17;have J8_:=(Le3 G12 G14 G16).trans G17;refine zc Z17 (qKs _ _ Z17.lt _ _ _ (n₁*d₂) (hN9.mono J7_) _ _ _ (n₂*d₁) (hN11.mono J8_) (by first | assumption | omega) (by first | assumption | omega)) ?_
 rintro v26 w26 Z26 G26 N26 ⟨u26,rfl,⟨ad26,len26,O26,rfl,hN26⟩⟩;refine zz 5<|zx 0 #[.slice ad26 len26 O26,.slice ad14 len14 O14,.bool s₁] Z26 fun w27 Z27 G27=>zz 8<|zt 53 (p:=(n₁*d₂)<(n₂*d₁)) (fun F28=>?_) (fun F28=>?_);refine zz 3<|zo 2 Z27<|zz 1<|zx 0 #[.slice ad26 len26 O26,.slice ad14 len14 O14,.bool s₂] Z27 fun w29 Z29 G29=>zz 4<|zo 0 Z29<|zx 1 #[.slice ad26 len26 O26,.slice ad14 len14 O14,.bool s₂] Z29 fun w30 Z30 G30=>zz 3<|zrS [.cell 4 79] (v:= .agg #[.slice ad26 len26 O26,.slice ad14 len14 O14,.bool s₂]) (Res.cM Z30 1 Res.nil) ?_;have J9_:=(Le5 G16 G17 G26 G27 G29).trans G30;have hx9:=(hN26.mono (Le3 G27 G29 G30));rw[if_pos F28]at hx9;exact⟨Z30.upd,_,rfl,_,_,⟨_,_,_,_,_,_,rfl,hx9.mono Z30.le,(hN14.mono J9_).mono Z30.le⟩,Nat.lt_of_le_of_lt (Nat.sub_le _ _) hp2,jAk F24 F28⟩;refine zz 5<|zo 0 Z27<|zx 1 #[.slice ad26 len26 O26,.slice ad14 len14 O14,.bool s₁] Z27 fun w31 Z31 G31=>zz 3<|zrS [.cell 4 79] (v:= .agg #[.slice ad26 len26 O26,.slice ad14 len14 O14,.bool s₁]) (Res.cM Z31 1 Res.nil) ?_;have J10_:=(Le4 G16 G17 G26 G27).trans G31;have hx9:=(hN26.mono (Le2 G27 G31));rw[if_neg F28]at hx9;exact⟨Z31.upd,_,rfl,_,_,⟨_,_,_,_,_,_,rfl,hx9.mono Z31.le,(hN14.mono J10_).mono Z31.le⟩,Nat.lt_of_le_of_lt (Nat.sub_le _ _) hp1,jAj F24 (by omega)⟩
include hX in
theorem zKi(ad₁:Option Addr)(len₁ cap₁ n₁:Nat)(h₁:qH (rd w X) ad₁ len₁ cap₁ n₁)(ae₁:Option Addr)(le₁ ce₁ d₁:Nat)(k₁:qH (rd w X) ae₁ le₁ ce₁ d₁)(s₁:Bool)(hn₁:n₁<jZ)(hd₁:d₁<jZ)(ad₂:Option Addr)(len₂ cap₂ n₂:Nat)(h₂:qH (rd w X) ad₂ len₂ cap₂ n₂)(ae₂:Option Addr)(le₂ ce₂ d₂:Nat)(k₂:qH (rd w X) ae₂ le₂ ce₂ d₂)(s₂:Bool)(hn₂:n₂<jZ)(hd₂:d₂<jZ):Calls Tryz.prog 35 #[.agg #[.slice ad₁ len₁ cap₁,.slice ae₁ le₁ ce₁,.bool s₁],.agg #[.slice ad₂ len₂ cap₂,.slice ae₂ le₂ ce₂,.bool s₂]] w (Ret E0 w fun w' v=>∃s m,zXh X w' v s m (d₁*d₂)∧m<4294967296^512∧sgn s m=sgn s₁ n₁*sgn s₂ n₂):=by
 refine zen Tryz.func35 ?_;have Z0:St E0 w X w X []:=St.start hX;have hb:∀{x:Nat},x<jZ→x<4294967296^512:=fun h=>Nat.lt_of_lt_of_le h qKb;have hbn1:=hb hn₁;have hbn2:=hb hn₂;have hbd1:=hb hd₁;have hbd2:=hb hd₂;obtain⟨hp1,hp12⟩:=xY hn₁ hd₂ hn₂ hd₁;have hp2:=(xY hn₂ hd₁ hn₁ hd₂).1;have hpd:=(xY hd₁ hd₂ hd₁ hd₂).1;have hpn:=(xY hn₁ hn₂ hd₁ hd₂).1;refine zz 2<|zn pn (.cells #[.slice ad₁ len₁ cap₁,.slice ae₁ le₁ ce₁,.bool s₁] 79 (0,0)) Z0 fun b3 w3 Y3 Z3 G3 N3=>zn pn (.cells #[.slice ad₂ len₂ cap₂,.slice ae₂ le₂ ce₂,.bool s₂] 79 (0,0)) Z3 fun b5 w5 Y5 Z5 G5 N5=>zn pn (.cells #[.slice none 0 0,.slice none 0 0,.bool false] 79 (0,0)) Z5 fun b7 w7 Y7 Z7 G7 N7=>zz 3<|zdr Z7<|gz [0,1]<|gw 2 2<|gz [3,4] ?_;refine gw 5 1<|gz [7,8]<|gw 9 2<|gz [10,11]<|gw 12 1<|gz [15]<|gw 16 2<|gz [17]<|gw 18 1 ?_;refine gz [19] ?_;have J1_:=(Le2 G3 G5).trans G7;refine gC 6 (fun w8 Y8 _ Z8 G8=>(zCf _ _ Z8.lt _ _ _ n₁ (h₁.mono (J1_.trans G8)) _ _ _ n₂ (h₂.mono (J1_.trans G8)) (by first | assumption | omega) (by first | assumption | omega) (by first | assumption | omega))) ?_
 rintro v9 w8 Y9 w9 Z8 G9 ⟨ad9,len9,O9,rfl,hN9⟩;have J2_:=J1_.trans G9;refine gC 13 (fun w10 Y10 _ Z10 G10=>(zCf _ _ Z10.lt _ _ _ d₁ (k₁.mono (J2_.trans G10)) _ _ _ d₂ (k₂.mono (J2_.trans G10)) (by first | assumption | omega) (by first | assumption | omega) (by first | assumption | omega))) ?_
 rintro v11 w10 Y11 w11 Z10 G11 ⟨ad11,len11,O11,rfl,hN11⟩;refine gz [14,20]<|gX 21 0 #[.slice ad9 len9 O9,.slice ad11 len11 O11,.bool (!(s₁==s₂))] fun w12 Y12 G12=>zCy (fun w13 Y13 Z13 G13=>?_);refine zz 2<|zrS [.cell 4 79] (v:= .agg #[.slice ad9 len9 O9,.slice ad11 len11 O11,.bool (!(s₁==s₂))]) (Res.cM Z13 0 Res.nil) ?_;exact⟨Z13.upd,_,rfl,_,_,⟨_,_,_,_,_,_,rfl,(hN9.mono (Le3 G11 G12 G13)).mono Z13.le,(hN11.mono (Le2 G12 G13)).mono Z13.le⟩,hpn,qMm _ _ _ _⟩
end
set_option maxHeartbeats 1000000
theorem qOa{a:Raw}(h:128<a.ln.length∨128<a.ld.length):a.chk=4:=if_pos h
theorem zOh{a:Raw}(h:¬(128<a.ln.length∨128<a.ld.length))(h2:yN a.ln≠0∨yN a.ld≠0∨val a.ld=1∨(val a.ln=0∧(a.neg=true∨0<val a.ld))):a.chk=2:=(if_neg h).trans (if_pos h2)
theorem qOb{a:Raw}(h:¬(128<a.ln.length∨128<a.ld.length))(h2:¬(yN a.ln≠0∨yN a.ld≠0∨val a.ld=1∨(val a.ln=0∧(a.neg=true∨0<val a.ld))))(h3:0<val a.ld∧Nat.gcd (val a.ln) (val a.ld)≠1):a.chk=2:=(if_neg h).trans ((if_neg h2).trans (if_pos h3))
theorem zUm{a:Raw}(h:¬(128<a.ln.length∨128<a.ld.length))(h2:¬(yN a.ln≠0∨yN a.ld≠0∨val a.ld=1∨(val a.ln=0∧(a.neg=true∨0<val a.ld))))(h3:¬(0<val a.ld∧Nat.gcd (val a.ln) (val a.ld)≠1)):a.chk=0:=(if_neg h).trans ((if_neg h2).trans (if_neg h3))
theorem bP{l:List Nat}(hc:jC l):l.length=0↔val l=0:=by
 constructor
 ·intro h;rw[List.eq_nil_of_length_eq_zero h];rfl
 ·intro h;rw[bQ hc h];rfl
theorem wD(w:World)(X:Hid)(hX:∀k o,X k o→k<w.heap.size)(a:Raw)(ad:Option Addr)(len cap:Nat)(h:zT (rd w X) ad len cap a.ln)(ad2:Option Addr)(len2 O2:Nat)(h2:zT (rd w X) ad2 len2 O2 a.ld):Calls Tryz.prog 32 #[.agg #[.bool a.neg,.slice ad len cap,.slice ad2 len2 O2]] w (Ret E0 w fun _ v=>v= .int .i64 a.chk):=by
 obtain rfl:=h.hlen;obtain rfl:=h2.hlen;have hcap:=h.hcap;have hbig:=h.hbig;have hcap2:=h2.hcap;have hbig2:=h2.hbig;refine zen Tryz.func32 ?_;have Z0:St E0 w X w X []:=St.start hX;refine zz 2<|zn pn (.cells #[.bool a.neg,.slice ad a.ln.length cap,.slice ad2 a.ld.length O2] 28 (0,0)) Z0 fun b3 w3 Y3 Z3 G3 N3=>zz 8<|zo 0 Z3<|zz 3<|zt 10 (p:=(a.ln.length:Int)>128) (fun F4=>?_) (fun F4=>?_);refine zz 17<|zr' (v:= .int .i64 4) ?_;exact⟨Z3.upd,_,rfl,qA (qOa (by omega)).symm⟩
 refine zz 1<|zo 0 Z3<|zz 6<|zt 5 (p:=(a.ld.length:Int)>128) (fun F5=>?_) (fun F5=>?_);refine zz 9<|zr' (v:= .int .i64 4) ?_;exact⟨Z3.upd,_,rfl,qA (qOa (by omega)).symm⟩
 have hlong:¬(128<a.ln.length∨128<a.ld.length):=by omega
 refine zz 5<|zo 0 Z3<|zc Z3 (zLc _ X0 (qV _) _ _ _ a.ln ((h.mono G3).mono Le.x0)) ?_;rintro v7 w7 Z7 G7 N7 rfl;refine zz 2<|zb 21 (b:=((yN a.ln)!=0)) (fun J8=>?_) (fun J8=>?_);have F9:(yN a.ln)≠0:=by simpa using J8
 refine zz 20<|zr' (v:= .int .i64 2) ?_;exact⟨Z7.upd,_,rfl,qA (zOh hlong (.inl F9)).symm⟩;have F10:(yN a.ln)=0:=by simpa using J8
 refine zz 1<|zo 0 Z7<|zc Z7 (zLc _ X0 (qV _) _ _ _ a.ld ((h2.mono (Le2 G3 G7)).mono Le.x0)) ?_;rintro v12 w12 Z12 G12 N12 rfl;refine zz 5<|zb 16 (b:=((yN a.ld)!=0)) (fun J13=>?_) (fun J13=>?_);have F14:(yN a.ld)≠0:=by simpa using J13
 refine zz 12<|zr' (v:= .int .i64 2) ?_;exact⟨Z12.upd,_,rfl,qA (zOh hlong (.inr (.inl F14))).symm⟩;have F15:(yN a.ld)=0:=by simpa using J13
 have hcn:=(dB (by simpa using F10:yN a.ln=0)).2
 have hcd:=(dB (by simpa using F15:yN a.ld=0)).2
 have hzn:=bP hcn;have hzd:=bP hcd;have hB:(4294967296:Nat)^128≤4294967296^512:=qKb;have hbn:val a.ln<4294967296^512:=Nat.lt_of_lt_of_le ((zZ h.hlt hcn 128).1 (by omega)) hB
 have hbd:val a.ld<4294967296^512:=Nat.lt_of_lt_of_le ((zZ h2.hlt hcd 128).1 (by omega)) hB
 have hNn:=h.natR hcn;have hNd:=h2.natR hcd;refine zz 4<|zo 0 Z12<|zc Z12 (zDx _ _ Z12.lt _ _ _ (val a.ld) (hNd.mono (Le3 G3 G7 G12))) ?_;rintro v17 w17 Z17 G17 N17 rfl;refine zz 3<|zt 16 (p:=(val a.ld)=1) (fun F18=>?_) (fun F18=>?_);refine zz 12<|zr' (v:= .int .i64 2) ?_;exact⟨Z17.upd,_,rfl,qA (zOh hlong (.inr (.inr (.inl (by simpa using F18))))).symm⟩
 refine zz 3<|zo 0 Z17<|zz 3<|zb 34 (b:=((a.ln.length:Int)==0)) (fun J19=>?_) (fun J19=>?_);have F20:(a.ln.length:Int)=0:=by simpa using J19
 refine zz 1<|zo 0 Z17<|zz 1<|zb 37 (b:=a.neg) (fun J21=>?_) (fun J21=>?_);have F22:a.neg=true:=by simpa using J21
 refine zz 18<|zr' (v:= .int .i64 2) ?_;exact⟨Z17.upd,_,rfl,qA (zOh hlong (.inr (.inr (.inr ⟨by omega,.inl F22⟩)))).symm⟩
 have F23:a.neg=false:=by simpa using J21
 refine zz 1<|zo 0 Z17<|zz 7<|zt 16 (p:=(a.ld.length:Int)>0) (fun F24=>?_) (fun F24=>?_);refine zz 9<|zr' (v:= .int .i64 2) ?_;exact⟨Z17.upd,_,rfl,qA (zOh hlong (.inr (.inr (.inr ⟨by omega,.inr (by omega)⟩)))).symm⟩
 have hok:¬(yN a.ln≠0∨yN a.ld≠0∨val a.ld=1∨(val a.ln=0∧(a.neg=true∨0<val a.ld))):=by intro hh;rcases hh with e | e | e | ⟨e,e2⟩;exact(fun x=>absurd (by simpa using F10:yN a.ln=0) x) e;exact(fun x=>absurd (by simpa using F15:yN a.ld=0) x) e;exact(fun x=>absurd x (by simpa using F18)) e;rcases e2 with e2 | e2;rw[F23]at e2;cases e2;omega
 have hz:¬0<val a.ld:=by omega
 refine zz 8<|zo 0 Z17<|zz 4<|zt 47 (p:=(a.ld.length:Int)>0) (fun F25=>?_) (fun F25=>?_);refine zz 4<|zo 0 Z17<|zz 1<|zo 0 Z17 ?_;have J1_:=(Le3 G3 G7 G12).trans G17;refine zc Z17 (zZr _ _ _ _ (val a.ln) ((hNn.mono J1_).mono Le.x0) _ _ _ (val a.ld) ((hNd.mono J1_).mono Le.x0) (by first | assumption | omega) (by first | assumption | omega)) ?_
 rintro v27 w27 Z27 G27 N27 ⟨u27,rfl,⟨ad27,len27,O27,rfl,hn27⟩⟩;have hN27:=hn27 _ Z17.lt;refine zz 10<|zc Z27 (zDx _ _ Z27.lt _ _ _ (Nat.gcd (val a.ln) (val a.ld)) hN27) ?_;rintro v29 w29 Z29 G29 N29 rfl;refine zz 3<|zb 58 (b:=!(decide (Nat.gcd (val a.ln) (val a.ld)=1))) (fun J30=>?_) (fun J30=>?_);have F31:¬(Nat.gcd (val a.ln) (val a.ld)=1):=by simpa using J30
 refine zz 8<|zr' (v:= .int .i64 2) ?_;exact⟨Z29.upd,_,rfl,qA (qOb hlong hok ⟨by omega,by simpa using F31⟩).symm⟩
 have F32:Nat.gcd (val a.ln) (val a.ld)=1:=by simpa using J30
 refine zz 9<|zr' (v:= .int .i64 0) ?_;exact⟨Z29.upd,_,rfl,qA (zUm hlong hok (fun hh=>hh.2 (by simpa using F32))).symm⟩
 refine zz 9<|zr' (v:= .int .i64 0) ?_;exact⟨Z17.upd,_,rfl,qA (zUm hlong hok (fun hh=>by omega)).symm⟩
 have F33:(a.ln.length:Int)≠0:=by simpa using J19
 refine zz 20<|zo 0 Z17<|zz 4<|zt 47 (p:=(a.ld.length:Int)>0) (fun F34=>?_) (fun F34=>?_);have hok:¬(yN a.ln≠0∨yN a.ld≠0∨val a.ld=1∨(val a.ln=0∧(a.neg=true∨0<val a.ld))):=by intro hh;rcases hh with e | e | e | ⟨e,e2⟩;exact(fun x=>absurd (by simpa using F10:yN a.ln=0) x) e;exact(fun x=>absurd (by simpa using F15:yN a.ld=0) x) e;exact(fun x=>absurd x (by simpa using F18)) e;omega
 refine zz 4<|zo 0 Z17<|zz 1<|zo 0 Z17 ?_;have J2_:=(Le3 G3 G7 G12).trans G17;refine zc Z17 (zZr _ _ _ _ (val a.ln) ((hNn.mono J2_).mono Le.x0) _ _ _ (val a.ld) ((hNd.mono J2_).mono Le.x0) (by first | assumption | omega) (by first | assumption | omega)) ?_
 rintro v36 w36 Z36 G36 N36 ⟨u36,rfl,⟨ad36,len36,O36,rfl,hn36⟩⟩;have hN36:=hn36 _ Z17.lt;refine zz 10<|zc Z36 (zDx _ _ Z36.lt _ _ _ (Nat.gcd (val a.ln) (val a.ld)) hN36) ?_;rintro v38 w38 Z38 G38 N38 rfl;refine zz 3<|zb 58 (b:=!(decide (Nat.gcd (val a.ln) (val a.ld)=1))) (fun J39=>?_) (fun J39=>?_);have F40:¬(Nat.gcd (val a.ln) (val a.ld)=1):=by simpa using J39
 refine zz 8<|zr' (v:= .int .i64 2) ?_;exact⟨Z38.upd,_,rfl,qA (qOb hlong hok ⟨by omega,by simpa using F40⟩).symm⟩
 have F41:Nat.gcd (val a.ln) (val a.ld)=1:=by simpa using J39
 refine zz 9<|zr' (v:= .int .i64 0) ?_;exact⟨Z38.upd,_,rfl,qA (zUm hlong hok (fun hh=>hh.2 (by simpa using F41))).symm⟩
 have hok:¬(yN a.ln≠0∨yN a.ld≠0∨val a.ld=1∨(val a.ln=0∧(a.neg=true∨0<val a.ld))):=by intro hh;rcases hh with e | e | e | ⟨e,e2⟩;exact(fun x=>absurd (by simpa using F10:yN a.ln=0) x) e;exact(fun x=>absurd (by simpa using F15:yN a.ld=0) x) e;exact(fun x=>absurd x (by simpa using F18)) e;omega
 refine zz 9<|zr' (v:= .int .i64 0) ?_;exact⟨Z17.upd,_,rfl,qA (zUm hlong hok (fun hh=>by omega)).symm⟩
section
variable (w:World)(X:Hid)(hX:∀k o,X k o→k<w.heap.size)
set_option maxHeartbeats 1000000
def OpC(f:Nat)(op:Rat→Rat→Rat):Prop:=∀(w:World)(X:Hid)(hX:∀k o,X k o→k<w.heap.size)(ad₁:Option Addr)(len₁ cap₁ n₁:Nat)(h₁:qH (rd w X) ad₁ len₁ cap₁ n₁)(ae₁:Option Addr)(le₁ ce₁ d₁:Nat)(k₁:qH (rd w X) ae₁ le₁ ce₁ d₁)(s₁:Bool)(hn₁:n₁<jZ)(hd₁:d₁<jZ)(ad₂:Option Addr)(len₂ cap₂ n₂:Nat)(h₂:qH (rd w X) ad₂ len₂ cap₂ n₂)(ae₂:Option Addr)(le₂ ce₂ d₂:Nat)(k₂:qH (rd w X) ae₂ le₂ ce₂ d₂)(s₂:Bool)(hn₂:n₂<jZ)(hd₂:d₂<jZ)(hp₁:0<d₁)(hp₂:0<d₂),Calls Tryz.prog f #[.agg #[.slice ad₁ len₁ cap₁,.slice ae₁ le₁ ce₁,.bool s₁],.agg #[.slice ad₂ len₂ cap₂,.slice ae₂ le₂ ce₂,.bool s₂]] w (Ret E0 w fun w' v=>∃s m d,zXh X w' v s m d∧m<4294967296^512∧d<4294967296^512∧0<d∧mkRat (sgn s m) d=op (mkRat (sgn s₁ n₁) d₁) (mkRat (sgn s₂ n₂) d₂))
theorem zLn{a b:Nat}(h:a<jZ)(h2:b<jZ):a*b<4294967296^512:=qRl h h2
theorem jAl:OpC 39 (·+·):=fun w X hX ad₁ len₁ cap₁ n₁ h₁ ae₁ le₁ ce₁ d₁ k₁ s₁ hn₁ hd₁ ad₂ len₂ cap₂ n₂ h₂ ae₂ le₂ ce₂ d₂ k₂ s₂ hn₂ hd₂ hp₁ hp₂=>
 (qPm w X hX ad₁ len₁ cap₁ n₁ h₁ ae₁ le₁ ce₁ d₁ k₁ s₁ hn₁ hd₁ ad₂ len₂ cap₂ n₂ h₂ ae₂ le₂ ce₂ d₂ k₂ s₂ hn₂ hd₂).mono (by
  rintro e w' ⟨hu,v,rfl,s,m,hv,hm,he⟩;refine⟨hu,_,rfl,s,m,_,hv,hm,zLn hd₁ hd₂,Nat.mul_pos hp₁ hp₂,?_⟩;show _=mkRat (sgn s₁ n₁) d₁+mkRat (sgn s₂ n₂) d₂;rw[Rat.mkRat_add_mkRat _ _ (by omega) (by omega),he])
theorem zTk:OpC 35 (· * ·):=fun w X hX ad₁ len₁ cap₁ n₁ h₁ ae₁ le₁ ce₁ d₁ k₁ s₁ hn₁ hd₁ ad₂ len₂ cap₂ n₂ h₂ ae₂ le₂ ce₂ d₂ k₂ s₂ hn₂ hd₂ hp₁ hp₂=>
 (zKi w X hX ad₁ len₁ cap₁ n₁ h₁ ae₁ le₁ ce₁ d₁ k₁ s₁ hn₁ hd₁ ad₂ len₂ cap₂ n₂ h₂ ae₂ le₂ ce₂ d₂ k₂ s₂ hn₂ hd₂).mono (by
  rintro e w' ⟨hu,v,rfl,s,m,hv,hm,he⟩;refine⟨hu,_,rfl,s,m,_,hv,hm,zLn hd₁ hd₂,Nat.mul_pos hp₁ hp₂,?_⟩;show _=mkRat (sgn s₁ n₁) d₁*mkRat (sgn s₂ n₂) d₂;rw[Rat.mkRat_mul_mkRat,he])
include hX in
theorem zGo(ad:Option Addr)(len cap x:Nat)(h:qH (rd w X) ad len cap x)(ad2:Option Addr)(len2 O2 y:Nat)(h2:qH (rd w X) ad2 len2 O2 y)(sg:Bool)(hx:x<4294967296^512)(hy:y<4294967296^512)(hd:0<y)(z:Rat)(hz:mkRat (sgn sg x) y=z):Calls Tryz.prog 73 #[.agg #[.slice ad len cap,.slice ad2 len2 O2,.bool sg]] w (Ret E0 w fun w' v=>zIm (old w) w' v z):=by
 subst hz;exact qDz w X hX ad len cap x h ad2 len2 O2 y h2 sg hx hy hd
theorem zKf(f:Nat)(op:Rat→Rat→Rat)(hcf:∀args w,(callFunc f args).run Tryz.prog w= .ok (.enter f args) w)(hop:OpC f op)(w:World)(X:Hid)(hX:∀k o,X k o→k<w.heap.size)(a:Raw)(ad₁:Option Addr)(len₁ cap₁:Nat)(h₁:zT (rd w X) ad₁ len₁ cap₁ a.ln)(ae₁:Option Addr)(le₁ ce₁:Nat)(k₁:zT (rd w X) ae₁ le₁ ce₁ a.ld)(b:Raw)(ad₂:Option Addr)(len₂ cap₂:Nat)(h₂:zT (rd w X) ad₂ len₂ cap₂ b.ln)(ae₂:Option Addr)(le₂ ce₂:Nat)(k₂:zT (rd w X) ae₂ le₂ ce₂ b.ld)(z:Rat)(hz:op a.rat b.rat=z):Calls Tryz.prog 33 #[.agg #[.bool a.neg,.slice ad₁ len₁ cap₁,.slice ae₁ le₁ ce₁],.agg #[.bool b.neg,.slice ad₂ len₂ cap₂,.slice ae₂ le₂ ce₂],.func (.func f) #[] #[]] w (Ret E0 w fun w' v=>∃u,v= .tuple #[u,.int .i64 (opE a b z)]∧nC (old w) w' u (opR a b z)):=by
 refine zen Tryz.func33 ?_;have Z0:St E0 w X w X []:=St.start hX;refine zz 2<|zn pn (.cells #[.bool a.neg,.slice ad₁ len₁ cap₁,.slice ae₁ le₁ ce₁] 28 (0,0)) Z0 fun b3 w3 Y3 Z3 G3 N3=>zn pn (.cells #[.bool b.neg,.slice ad₂ len₂ cap₂,.slice ae₂ le₂ ce₂] 28 (0,0)) Z3 fun b5 w5 Y5 Z5 G5 N5=>zn pn (.cells #[.bool false,.slice none 0 0,.slice none 0 0] 28 (0,0)) Z5 fun b7 w7 Y7 Z7 G7 N7=>zz 5<|zdr Z7<|gw 0 2<|gw 2 1 ?_;have J1_:=(Le2 G3 G5).trans G7;refine gC 1 (fun w8 Y8 _ Z8 G8=>(wD _ _ Z8.lt a _ _ _ (h₁.mono (J1_.trans G8)) _ _ _ (k₁.mono (J1_.trans G8)))) ?_;rintro v9 w8 Y9 w9 Z8 G9 rfl;have J2_:=J1_.trans G9;refine gC 3 (fun w10 Y10 _ Z10 G10=>(wD _ _ Z10.lt b _ _ _ (h₂.mono (J2_.trans G10)) _ _ _ (k₂.mono (J2_.trans G10)))) ?_;rintro v11 w10 Y11 w11 Z10 G11 rfl;refine gp1 (al 4 14 (fun b=> .slice (some ⟨b,0,none⟩) 2 2) (.cells #[.int .i64 a.chk,.int .i64 b.chk] 36 (0,0))) (fun b12=>?_);refine gC 5 (vs:=#[.slice (some ⟨b12,0,none⟩) 2 2]) (fun w13 Y13 _ Z13 G13=>(qFo _ X0 (qV _) _ _ _ _ [a.chk,b.chk] rfl (by simp) (Z13.at0 0 rfl rfl))) ?_
 rintro v14 w13 Y14 w14 Z13 G14 rfl;refine gz [6]<|zCy (fun w15 Y15 Z15 G15=>?_);refine zz 7<|zb 17 (b:=((orL [a.chk,b.chk])!=0)) (fun J16=>?_) (fun J16=>?_);have F17:(orL [a.chk,b.chk])≠0:=by simpa using J16
 refine zz 5<|zx 1 #[.bool false,.slice none 0 0,.slice none 0 0] Z15 fun w18 Z18 G18=>zz 5<|zrS [.cell 6 28,.tmp 7] (v:= .tuple #[.agg #[.bool false,.slice none 0 0,.slice none 0 0],.int .i64 (orL [a.chk,b.chk])]) (Res.cM Z18 1 (Res.tZ Res.nil)) ?_;obtain⟨he1,he2⟩:=zTa (z:=z) F17;exact⟨Z18.upd,_,rfl,_,by rw[he1],by rw[he2];exact sZ⟩
 have F19:(orL [a.chk,b.chk])=0:=by simpa using J16
 obtain⟨hca,hcb⟩:=gY ((zIr _ _).symm.trans (by simpa using F19))
 obtain⟨hla,hma,cna,cda,_,_,_⟩:=Raw.chk_ok hca;have bna:val a.ln<jZ:=(zZ h₁.hlt cna 128).1 hla;have bda:a.d<jZ:=by unfold Raw.d;split;exact Nat.one_lt_pow (by omega) (by omega);exact(zZ k₁.hlt cda 128).1 hma
 have pda:=Raw.d_pos a;have hNna:=h₁.natR cna;have hNda:=k₁.natR cda;obtain⟨hlb,hmb,cnb,cdb,_,_,_⟩:=Raw.chk_ok hcb;have bnb:val b.ln<jZ:=(zZ h₂.hlt cnb 128).1 hlb;have bdb:b.d<jZ:=by unfold Raw.d;split;exact Nat.one_lt_pow (by omega) (by omega);exact(zZ k₂.hlt cdb 128).1 hmb
 have pdb:=Raw.d_pos b;have hNnb:=h₂.natR cnb;have hNdb:=k₂.natR cdb;refine zz 4 ?_;refine qPp [0,1,2,3] Z15<|gz [0]<|gw 1 3<|gw 3 2<|gp (al 7 9 pn (.cells #[.bool false,.slice none 0 0,.slice none 0 0] 28 (0,0))) ?_;have J3_:=((J2_.trans G11).trans G14).trans G15;refine gC 2 (fun w20 Y20 _ Z20 G20=>(zYm _ _ Z20.lt a.neg _ _ _ (val a.ln) (hNna.mono (J3_.trans G20)) _ _ _ (val a.ld) (hNda.mono (J3_.trans G20)))) ?_ (hPd:=kW.nil.k);rintro v21 w20 Y21 w21 Z20 G21 ⟨ad21,len21,O21,ae21,le21,ce21,rfl,hN21,hD21⟩;have J4_:=J3_.trans G21;refine gC 4 (fun w22 Y22 _ Z22 G22=>(zYm _ _ Z22.lt b.neg _ _ _ (val b.ln) (hNnb.mono (J4_.trans G22)) _ _ _ (val b.ld) (hNdb.mono (J4_.trans G22)))) ?_ (hPd:=kW.nil.k);rintro v23 w22 Y23 w23 Z22 G23 ⟨ad23,len23,O23,ae23,le23,ce23,rfl,hN23,hD23⟩;refine gC 5 (hcall:=(fun w=>hcf _ w)) (fun w24 Y24 _ Z24 G24=>(hop _ _ Z24.lt _ _ _ (val a.ln) (hN21.mono (Le2 G23 G24)) _ _ _ a.d (hD21.mono (Le2 G23 G24)) a.neg (by assumption) (by assumption) _ _ _ (val b.ln) (hN23.mono G24) _ _ _ b.d (hD23.mono G24) b.neg (by assumption) (by assumption) (by assumption) (by assumption))) ?_ (hPd:=kW.nil.k)
 rintro v25 w24 Y25 w25 Z24 G25 ⟨sg25,m25,d25,⟨ad25,len25,O25,ae25,le25,ce25,rfl,hN25,hD25⟩,hm25,hd25,hp25,he25⟩;refine gC 6 (fun w26 Y26 _ Z26 G26=>(zGo _ _ Z26.lt _ _ _ m25 (hN25.mono G26) _ _ _ d25 (hD25.mono G26) sg25 hm25 hd25 hp25 z (he25.trans hz))) ?_ (hPd:=kW.nil.k);rintro v27 w26 Y27 w27 Z26 G27 ⟨ad27,len27,O27,ae27,le27,ce27,rfl,hN27,hD27⟩;refine gs1 (fun b28=>?_) kW.nil.k;refine gX 8 0 #[.bool (decide (z.num<0)),.slice ad27 len27 O27,.slice ae27 le27 ce27] fun w29 Y29 G29=>zCy (fun w30 Y30 Z30 G30=>?_);refine zz 5<|zo 0 Z30<|zz 3<|zt 31 (p:=(len27:Int)>128) (fun F31=>?_) (fun F31=>?_);refine zz 11<|zx 2 #[.bool false,.slice none 0 0,.slice none 0 0] Z30 fun w32 Z32 G32=>zz 5<|zrS [.cell 6 28,.tmp 7] (v:= .tuple #[.agg #[.bool false,.slice none 0 0,.slice none 0 0],.int .i64 4]) (Res.cM Z32 2 (Res.tZ Res.nil)) ?_;obtain⟨he1,he2⟩:=zFk (z:=z) F19 (fun hh=>absurd ((hN27.len_le 128).2 hh.1) (by omega))
 exact⟨Z32.upd,_,rfl,_,by rw[he1],by rw[he2];exact sZ⟩
 refine zz 1<|zo 0 Z30<|zz 5<|zt 36 (p:=(le27:Int)>128) (fun F33=>?_) (fun F33=>?_);refine zz 4<|zx 2 #[.bool false,.slice none 0 0,.slice none 0 0] Z30 fun w34 Z34 G34=>zz 5<|zrS [.cell 6 28,.tmp 7] (v:= .tuple #[.agg #[.bool false,.slice none 0 0,.slice none 0 0],.int .i64 4]) (Res.cM Z34 2 (Res.tZ Res.nil)) ?_;obtain⟨he1,he2⟩:=zFk (z:=z) F19 (fun hh=>absurd ((hD27.len_le 128).2 hh.2) (by omega))
 exact⟨Z34.upd,_,rfl,_,by rw[he1],by rw[he2];exact sZ⟩
 refine zz 5<|zo 0 Z30<|zx 2 #[.bool (decide (z.num<0)),.slice ad27 len27 O27,.slice ae27 le27 ce27] Z30 fun w35 Z35 G35=>zz 4<|zrS [.cell 6 28,.tmp 7] (v:= .tuple #[.agg #[.bool (decide (z.num<0)),.slice ad27 len27 O27,.slice ae27 le27 ce27],.int .i64 0]) (Res.cM Z35 2 (Res.tZ Res.nil)) ?_;obtain⟨he1,he2⟩:=zVx (z:=z) F19 ⟨(hN27.len_le 128).1 (by omega),(hD27.len_le 128).1 (by omega)⟩
 exact⟨Z35.upd,_,rfl,_,by rw[he1],by rw[he2];exact zIm.raw ⟨_,_,_,_,_,_,rfl,((hN27.mono (Le.own Z26.lt Z26.upd.size (Le3 G29 G30 G35))).mono Le.orr),((hD27.mono (Le.own Z26.lt Z26.upd.size (Le3 G29 G30 G35))).mono Le.orr)⟩⟩
end
section
variable (w:World)(X:Hid)(hX:∀k o,X k o→k<w.heap.size)
set_option maxHeartbeats 1000000
include hX in
theorem qZl(a:Raw)(ad₁:Option Addr)(len₁ cap₁:Nat)(h₁:zT (rd w X) ad₁ len₁ cap₁ a.ln)(ae₁:Option Addr)(le₁ ce₁:Nat)(k₁:zT (rd w X) ae₁ le₁ ce₁ a.ld)(b:Raw)(ad₂:Option Addr)(len₂ cap₂:Nat)(h₂:zT (rd w X) ad₂ len₂ cap₂ b.ln)(ae₂:Option Addr)(le₂ ce₂:Nat)(k₂:zT (rd w X) ae₂ le₂ ce₂ b.ld):Calls Tryz.prog 91 #[.agg #[.bool a.neg,.slice ad₁ len₁ cap₁,.slice ae₁ le₁ ce₁],.agg #[.bool b.neg,.slice ad₂ len₂ cap₂,.slice ae₂ le₂ ce₂]] w (Ret E0 w fun w' v=>∃u,v= .tuple #[u,.int .i64 (opE a b (a.rat+b.rat))]∧nC (old w) w' u (opR a b (a.rat+b.rat))):=by
 refine zen Tryz.func91 ?_;have Z0:St E0 w X w X []:=St.start hX;refine zz 2<|zn pn (.cells #[.bool a.neg,.slice ad₁ len₁ cap₁,.slice ae₁ le₁ ce₁] 28 (0,0)) Z0 fun b3 w3 Y3 Z3 G3 N3=>zn pn (.cells #[.bool b.neg,.slice ad₂ len₂ cap₂,.slice ae₂ le₂ ce₂] 28 (0,0)) Z3 fun b5 w5 Y5 Z5 G5 N5=>zn pn (.cells #[.bool false,.slice none 0 0,.slice none 0 0] 28 (0,0)) Z5 fun b7 w7 Y7 Z7 G7 N7=>zz 5<|zo 2 Z7<|zo 1 Z7<|zc Z7 (zKf 39 (·+·) (fun args w=>Tryz.call39 args w) jAl _ _ Z7.lt a _ _ _ (h₁.mono (Le3 G3 G5 G7)) _ _ _ (k₁.mono (Le3 G3 G5 G7)) b _ _ _ (h₂.mono (Le3 G3 G5 G7)) _ _ _ (k₂.mono (Le3 G3 G5 G7)) (a.rat+b.rat) rfl) ?_;rintro v9 w9 Z9 G9 N9 ⟨u9,rfl,⟨ad9,len9,O9,ae9,le9,ce9,rfl,hN9,hD9⟩⟩;refine zz 2<|zx 0 #[.bool ((opR a b (a.rat+b.rat)).neg),.slice ad9 len9 O9,.slice ae9 le9 ce9] Z9 fun w10 Z10 G10=>zz 4<|zrS [.cell 4 28,.tmp 5] (v:= .tuple #[.agg #[.bool ((opR a b (a.rat+b.rat)).neg),.slice ad9 len9 O9,.slice ae9 le9 ce9],.int .i64 (opE a b (a.rat+b.rat))]) (Res.cM Z10 0 (Res.tZ Res.nil)) ?_;exact⟨Z10.upd,_,rfl,_,rfl,⟨_,_,_,_,_,_,rfl,((hN9.mono (Le.own Z7.lt Z7.upd.size G10)).mono Le.orr),((hD9.mono (Le.own Z7.lt Z7.upd.size G10)).mono Le.orr)⟩⟩
include hX in
theorem qZp(a:Raw)(ad₁:Option Addr)(len₁ cap₁:Nat)(h₁:zT (rd w X) ad₁ len₁ cap₁ a.ln)(ae₁:Option Addr)(le₁ ce₁:Nat)(k₁:zT (rd w X) ae₁ le₁ ce₁ a.ld)(b:Raw)(ad₂:Option Addr)(len₂ cap₂:Nat)(h₂:zT (rd w X) ad₂ len₂ cap₂ b.ln)(ae₂:Option Addr)(le₂ ce₂:Nat)(k₂:zT (rd w X) ae₂ le₂ ce₂ b.ld):Calls Tryz.prog 68 #[.agg #[.bool a.neg,.slice ad₁ len₁ cap₁,.slice ae₁ le₁ ce₁],.agg #[.bool b.neg,.slice ad₂ len₂ cap₂,.slice ae₂ le₂ ce₂]] w (Ret E0 w fun w' v=>∃u,v= .tuple #[u,.int .i64 (opE a b (a.rat*b.rat))]∧nC (old w) w' u (opR a b (a.rat*b.rat))):=by
 refine zen Tryz.func68 ?_;have Z0:St E0 w X w X []:=St.start hX;refine zz 2<|zn pn (.cells #[.bool a.neg,.slice ad₁ len₁ cap₁,.slice ae₁ le₁ ce₁] 28 (0,0)) Z0 fun b3 w3 Y3 Z3 G3 N3=>zn pn (.cells #[.bool b.neg,.slice ad₂ len₂ cap₂,.slice ae₂ le₂ ce₂] 28 (0,0)) Z3 fun b5 w5 Y5 Z5 G5 N5=>zn pn (.cells #[.bool false,.slice none 0 0,.slice none 0 0] 28 (0,0)) Z5 fun b7 w7 Y7 Z7 G7 N7=>zz 5<|zo 2 Z7<|zo 1 Z7<|zc Z7 (zKf 35 (· * ·) (fun args w=>Tryz.call35 args w) zTk _ _ Z7.lt a _ _ _ (h₁.mono (Le3 G3 G5 G7)) _ _ _ (k₁.mono (Le3 G3 G5 G7)) b _ _ _ (h₂.mono (Le3 G3 G5 G7)) _ _ _ (k₂.mono (Le3 G3 G5 G7)) (a.rat*b.rat) rfl) ?_;rintro v9 w9 Z9 G9 N9 ⟨u9,rfl,⟨ad9,len9,O9,ae9,le9,ce9,rfl,hN9,hD9⟩⟩;refine zz 2<|zx 0 #[.bool ((opR a b (a.rat*b.rat)).neg),.slice ad9 len9 O9,.slice ae9 le9 ce9] Z9 fun w10 Z10 G10=>zz 4<|zrS [.cell 4 28,.tmp 5] (v:= .tuple #[.agg #[.bool ((opR a b (a.rat*b.rat)).neg),.slice ad9 len9 O9,.slice ae9 le9 ce9],.int .i64 (opE a b (a.rat*b.rat))]) (Res.cM Z10 0 (Res.tZ Res.nil)) ?_;exact⟨Z10.upd,_,rfl,_,rfl,⟨_,_,_,_,_,_,rfl,((hN9.mono (Le.own Z7.lt Z7.upd.size G10)).mono Le.orr),((hD9.mono (Le.own Z7.lt Z7.upd.size G10)).mono Le.orr)⟩⟩
include hX in
theorem qMb(n:Int)(h1: -9223372036854775808≤n)(h2:n≤9223372036854775807):Calls Tryz.prog 12 #[.int .i64 n] w (Ret E0 w fun w' v=>nC X w' v (.of (n:Rat))):=by
 refine zen Tryz.func12 ?_;have Z0:St E0 w X w X []:=St.start hX;refine zz 2<|zn pn (.cells #[.bool false,.slice none 0 0,.slice none 0 0] 28 (0,0)) Z0 fun b3 w3 Y3 Z3 G3 N3=>zz 7<|zc Z3 (zDi _ _ Z3.lt n (by omega) (by omega)) ?_
 rintro v5 w5 Z5 G5 N5 ⟨ad5,len5,O5,rfl,hN5⟩;refine zz 1<|zx 0 #[.bool (decide ((n)<0)),.slice ad5 len5 O5,.slice none 0 0] Z5 fun w6 Z6 G6=>zz 3<|zrS [.cell 2 28] (v:= .agg #[.bool (decide ((n)<0)),.slice ad5 len5 O5,.slice none 0 0]) (Res.cM Z6 0 Res.nil) ?_;exact⟨Z6.upd,_,rfl,(qJy ((hN5.mono G6).mono Z6.le)).raw⟩
include hX in
theorem qZm(a:Raw)(ad₁:Option Addr)(len₁ cap₁:Nat)(h₁:zT (rd w X) ad₁ len₁ cap₁ a.ln)(ae₁:Option Addr)(le₁ ce₁:Nat)(k₁:zT (rd w X) ae₁ le₁ ce₁ a.ld)(b:Raw)(ad₂:Option Addr)(len₂ cap₂:Nat)(h₂:zT (rd w X) ad₂ len₂ cap₂ b.ln)(ae₂:Option Addr)(le₂ ce₂:Nat)(k₂:zT (rd w X) ae₂ le₂ ce₂ b.ld):Calls Tryz.prog 16 #[.agg #[.bool a.neg,.slice ad₁ len₁ cap₁,.slice ae₁ le₁ ce₁],.agg #[.bool b.neg,.slice ad₂ len₂ cap₂,.slice ae₂ le₂ ce₂]] w (Ret E0 w fun w' v=>v= .tuple #[.int .i64 (vU a b),.int .i64 (nO a b)]):=by
 refine zen Tryz.func16 ?_;have Z0:St E0 w X w X []:=St.start hX;refine zz 2<|zn pn (.cells #[.bool a.neg,.slice ad₁ len₁ cap₁,.slice ae₁ le₁ ce₁] 28 (0,0)) Z0 fun b3 w3 Y3 Z3 G3 N3=>zn pn (.cells #[.bool b.neg,.slice ad₂ len₂ cap₂,.slice ae₂ le₂ ce₂] 28 (0,0)) Z3 fun b5 w5 Y5 Z5 G5 N5=>zz 6<|zdr Z5<|gw 0 1<|gw 2 0<|gC 1 (fun w6 Y6 _ Z6 G6=>(wD _ _ Z6.lt a _ _ _ (h₁.mono (Le3 G3 G5 G6)) _ _ _ (k₁.mono (Le3 G3 G5 G6)))) ?_;rintro v7 w6 Y7 w7 Z6 G7 rfl;have J1_:=(Le2 G3 G5).trans G7;refine gC 3 (fun w8 Y8 _ Z8 G8=>(wD _ _ Z8.lt b _ _ _ (h₂.mono (J1_.trans G8)) _ _ _ (k₂.mono (J1_.trans G8)))) ?_;rintro v9 w8 Y9 w9 Z8 G9 rfl;refine gp1 (al 4 14 (fun b=> .slice (some ⟨b,0,none⟩) 2 2) (.cells #[.int .i64 a.chk,.int .i64 b.chk] 36 (0,0))) (fun b10=>?_);refine gC 5 (vs:=#[.slice (some ⟨b10,0,none⟩) 2 2]) (fun w11 Y11 _ Z11 G11=>(qFo _ X0 (qV _) _ _ _ _ [a.chk,b.chk] rfl (by simp) (Z11.at0 0 rfl rfl))) ?_
 rintro v12 w11 Y12 w12 Z11 G12 rfl;refine gz [6]<|zCy (fun w13 Y13 Z13 G13=>?_);refine zz 7<|zb 17 (b:=((orL [a.chk,b.chk])!=0)) (fun J14=>?_) (fun J14=>?_);have F15:(orL [a.chk,b.chk])≠0:=by simpa using J14
 refine zz 10<|zr' (v:= .tuple #[.int .i64 0,.int .i64 (orL [a.chk,b.chk])]) ?_;exact⟨Z13.upd,_,rfl,by rw[vU,nO,←zIr,if_neg F15]⟩
 have F16:(orL [a.chk,b.chk])=0:=by simpa using J14
 obtain⟨hca,hcb⟩:=gY ((zIr _ _).symm.trans (by simpa using F16))
 obtain⟨hla,hma,cna,cda,_,_,_⟩:=Raw.chk_ok hca;have bna:val a.ln<jZ:=(zZ h₁.hlt cna 128).1 hla;have bda:a.d<jZ:=by unfold Raw.d;split;exact Nat.one_lt_pow (by omega) (by omega);exact(zZ k₁.hlt cda 128).1 hma
 have pda:=Raw.d_pos a;have hNna:=h₁.natR cna;have hNda:=k₁.natR cda;obtain⟨hlb,hmb,cnb,cdb,_,_,_⟩:=Raw.chk_ok hcb;have bnb:val b.ln<jZ:=(zZ h₂.hlt cnb 128).1 hlb;have bdb:b.d<jZ:=by unfold Raw.d;split;exact Nat.one_lt_pow (by omega) (by omega);exact(zZ k₂.hlt cdb 128).1 hmb
 have pdb:=Raw.d_pos b;have hNnb:=h₂.natR cnb;have hNdb:=k₂.natR cdb;refine zz 4<|zdrs [0,1,2] Z13<|gw 0 2<|gw 2 1<|gp (al 5 8 pn (.cells #[.slice none 0 0,.slice none 0 0,.bool false] 79 (0,0)))<|gp (al 4 7 pn (.cells #[.slice none 0 0,.slice none 0 0,.bool false] 79 (0,0))) ?_;have J2_:=((J1_.trans G9).trans G12).trans G13;refine gC 1 (fun w17 Y17 _ Z17 G17=>(zYm _ _ Z17.lt a.neg _ _ _ (val a.ln) (hNna.mono (J2_.trans G17)) _ _ _ (val a.ld) (hNda.mono (J2_.trans G17)))) ?_ (hPd:=kW.nil.k.k);rintro v18 w17 Y18 w18 Z17 G18 ⟨ad18,len18,O18,ae18,le18,ce18,rfl,hN18,hD18⟩;have J3_:=J2_.trans G18;refine gC 3 (fun w19 Y19 _ Z19 G19=>(zYm _ _ Z19.lt b.neg _ _ _ (val b.ln) (hNnb.mono (J3_.trans G19)) _ _ _ (val b.ld) (hNdb.mono (J3_.trans G19)))) ?_ (hPd:=kW.nil.k.k);rintro v20 w19 Y20 w20 Z19 G20 ⟨ad20,len20,O20,ae20,le20,ce20,rfl,hN20,hD20⟩;refine ge (fun e21=>?_) kW.nil.k.k;refine gXs 6 0 [2,3,4] #[.slice ad18 len18 O18,.slice ae18 le18 ce18,.bool a.neg] fun w22 Y22 G22=>gXs 7 1 [2,3,4] #[.slice ad20 len20 O20,.slice ae20 le20 ce20,.bool b.neg] fun w23 Y23 G23=>zCy (fun w24 Y24 Z24 G24=>?_);refine zz 4<|zo 1 Z24<|zz 2<|zx 1 #[.slice ad20 len20 O20,.slice ae20 le20 ce20,.bool (!b.neg)] Z24 fun w25 Z25 G25=>zz 5<|zo 0 Z25<|zo 1 Z25 ?_;have J4_:=(Le4 G20 G22 G23 G24).trans G25;have J5_:=(Le3 G22 G23 G24).trans G25;refine zc Z25 (qPm _ _ Z25.lt _ _ _ (val a.ln) (hN18.mono J4_) _ _ _ a.d (hD18.mono J4_) a.neg (by assumption) (by assumption) _ _ _ (val b.ln) (hN20.mono J5_) _ _ _ b.d (hD20.mono J5_) (!b.neg) (by assumption) (by assumption)) ?_
 rintro v27 w27 Z27 G27 N27 ⟨sg27,m27,⟨ad27,len27,O27,ae27,le27,ce27,rfl,hN27,hD27⟩,hm27,he27⟩;have J6_:=J4_.trans G27;have J7_:=J5_.trans G27;refine zn pn (.cells #[.slice none 0 0,.slice none 0 0,.bool false] 79 (0,0)) Z27 fun b29 w29 Y29 Z29 G29 N29=>zx 0 #[.slice ad27 len27 O27,.slice ae27 le27 ce27,.bool sg27] Z29 fun w30 Z30 G30=>zz 7<|zo 0 Z30<|zz 5<|zb 30 (b:=((len27:Int)==0)) (fun J31=>?_) (fun J31=>?_);have F32:(len27:Int)=0:=by simpa using J31
 have hdf:_=a.rat-b.rat:=zUo (he27.trans (by rw[zWm])) pda pdb
 have hm0:=hN27.len0.1 (by omega)
 refine zz 10<|zr' (v:= .tuple #[.int .i64 0,.int .i64 0]) ?_;exact⟨Z30.upd,_,rfl,by have h0:=F16;rw[vU,nO,←zIr,if_pos (by simpa using h0),show orL [a.chk,b.chk]=0 by simpa using h0,zOm hdf hm0]⟩
 have F33:(len27:Int)≠0:=by simpa using J31
 have hdf:_=a.rat-b.rat:=zUo (he27.trans (by rw[zWm])) pda pdb
 have hm0:m27≠0:=fun e=>absurd (hN27.len0.2 e) (by omega)
 refine zz 4<|zo 0 Z30<|zz 3<|zb 36 (b:=sg27) (fun J34=>?_) (fun J34=>?_);have F35:sg27=true:=by simpa using J34
 rw[F35]at hdf;refine zz 10<|zr' (v:= .tuple #[.int .i64 (-1),.int .i64 0]) ?_;exact⟨Z30.upd,_,rfl,by have h0:=F16;rw[vU,nO,←zIr,if_pos (by simpa using h0),show orL [a.chk,b.chk]=0 by simpa using h0,qIt hdf hm0 (qCb pda pdb)]⟩
 have F36:sg27=false:=by simpa using J34
 rw[F36]at hdf;refine zz 11<|zr' (v:= .tuple #[.int .i64 1,.int .i64 0]) ?_;exact⟨Z30.upd,_,rfl,by have h0:=F16;rw[vU,nO,←zIr,if_pos (by simpa using h0),show orL [a.chk,b.chk]=0 by simpa using h0,qIu hdf hm0 (qCb pda pdb)]⟩
end
set_option maxHeartbeats 1000000
theorem jCn(w:World)(X:Hid)(hX:∀k o,X k o→k<w.heap.size)(p q:Int)(hp: -9223372036854775808≤p)(hp2:p≤9223372036854775807)(hq: -9223372036854775808≤q)(hq2:q≤9223372036854775807)(h0:q≠0):Calls Tryz.prog 40 #[.int .i64 p,.int .i64 q] w (Ret E0 w fun w' v=>∃u,v= .tuple #[u,.int .i64 0]∧nC X w' u (.of (mkRat (sgn (!(decide (p<0)==decide (q<0))) p.natAbs) q.natAbs))):=by
 have hB:(18446744073709551616:Nat)≤4294967296^512:=Nat.le_trans (by decide:18446744073709551616≤4294967296^2) (zMv 4294967296 2 512 (by decide) (by decide))
 refine zen Tryz.func40 ?_;have Z0:St E0 w X w X []:=St.start hX;refine zz 2<|zn pn (.cells #[.bool false,.slice none 0 0,.slice none 0 0] 28 (0,0)) Z0 fun b3 w3 Y3 Z3 G3 N3=>zz 10<|zb 7 (b:=((q)==0)) (fun J4=>?_) (fun J4=>?_);have F5:(q)=0:=by simpa using J4
 exfalso;omega;have F6:(q)≠0:=by simpa using J4
 refine zz 6<|zc Z3 (zDi _ _ Z3.lt p (by omega) (by omega)) ?_
 rintro v8 w8 Z8 G8 N8 ⟨ad8,zEu,O8,rfl,hN8⟩;refine zz 1<|zc Z8 (zDi _ _ Z8.lt q (by omega) (by omega)) ?_
 rintro v10 w10 Z10 G10 N10 ⟨ad10,len10,O10,rfl,hN10⟩;refine zz 7<|zc Z10 (zGo _ _ Z10.lt _ _ _ p.natAbs (hN8.mono G10) _ _ _ q.natAbs hN10 (!((decide ((p)<0))==(decide ((q)<0)))) (by omega) (by omega) (by omega) (mkRat (sgn (!(decide (p<0)==decide (q<0))) p.natAbs) q.natAbs) rfl) ?_
 rintro v12 w12 Z12 G12 N12 ⟨ad12,len12,O12,ae12,le12,ce12,rfl,hN12,hD12⟩;refine zx 0 #[.bool (decide ((mkRat (sgn (!(decide (p<0)==decide (q<0))) p.natAbs) q.natAbs).num<0)),.slice ad12 len12 O12,.slice ae12 le12 ce12] Z12 fun w13 Z13 G13=>zz 4<|zrS [.cell 4 28,.tmp 5] (v:= .tuple #[.agg #[.bool (decide ((mkRat (sgn (!(decide (p<0)==decide (q<0))) p.natAbs) q.natAbs).num<0)),.slice ad12 len12 O12,.slice ae12 le12 ce12],.int .i64 0]) (Res.cM Z13 0 (Res.tZ Res.nil)) ?_;exact⟨Z13.upd,_,rfl,_,rfl,zIm.raw ⟨_,_,_,_,_,_,rfl,((hN12.mono (Le.new Z10.lt)).mono G13).mono Z13.le,((hD12.mono (Le.new Z10.lt)).mono G13).mono Z13.le⟩⟩
section
variable (w:World)(X:Hid)(hX:∀k o,X k o→k<w.heap.size)
set_option maxHeartbeats 1000000
theorem zKp{α:Type}{l:List α}{k:Nat}{x:α}(h:l[k]?=some x):l.take (k+1)=l.take k++[x]:=by rw[List.take_add_one,h];rfl
theorem zCd{α:Type}{l l2:List α}{k:Nat}{x:α}(h:l.take k=l2.take k)(hx:l[k]?=some x)(hy:l2[k]?=some x):l.take (k+1)=l2.take (k+1):=by rw[zKp hx,zKp hy,h]
theorem fI{α:Type}{l l2:List α}{k:Nat}(h:l.take k=l2.take k)(hl:l.length=l2.length)(hk:l.length≤k):l=l2:=by
 rwa[List.take_of_length_le hk,List.take_of_length_le (by omega)]at h
theorem jCc{α:Type}{l l2:List α}{k:Nat}{x y:α}(hx:l[k]?=some x)(hy:l2[k]?=some y)(h:x≠y):l≠l2:=by
 rintro rfl;exact h (Option.some.inj (hx.symm.trans hy))
theorem getD_some{l:List Nat}{k:Nat}(h:k<l.length):l[k]?=some (l.getD k 0):=by
 rw[List.getD_eq_getElem?_getD,List.getElem?_eq_getElem h];rfl
theorem zDy{x y:Bool}(h:x=y):Value.bool x= .bool y:=h▸rfl
include hX in
theorem zKu(ad:Option Addr)(len cap:Nat)(l:List Nat)(h:zT (rd w X) ad len cap l)(ad2:Option Addr)(len2 O2:Nat)(l2:List Nat)(h2:zT (rd w X) ad2 len2 O2 l2):Calls Tryz.prog 76 #[.slice ad len cap,.slice ad2 len2 O2] w (Ret E0 w fun _ v=>v= .bool (decide (l=l2))):=by
 obtain rfl:=h.hlen;obtain rfl:=h2.hlen;have hcap:=h.hcap;have hbig:=h.hbig;have hcap2:=h2.hcap;have hbig2:=h2.hbig;refine zen Tryz.func76 ?_;have Z0:St E0 w X w X []:=St.start hX;refine zz 15<|zb 10 (b:=((l.length:Int)!=(l2.length:Int))) (fun J2=>?_) (fun J2=>?_);have F3:(l.length:Int)≠(l2.length:Int):=by simpa using J2
 refine zz 8<|zr' (v:= .bool false) ?_;exact⟨Z0.upd,_,rfl,zDy ((decide_eq_false (fun e=>by rw[e]at F3;exact F3 rfl)).symm)⟩
 have F4:(l.length:Int)=(l2.length:Int):=by simpa using J2
 have hlen:l.length=l2.length:=by omega
 refine zz 10<|zlp Tryz.f76 [] [1,1,0,1,0] (fun(k:Nat)=>[(0,.slice ad l.length cap),(1,.slice ad2 l2.length O2),(5,.int .i64 (k:Int))]) (fun(k:Nat)w1=>∃(Y1:Hid),St E0 w X w1 Y1 []∧Le (rd w X) (rd w1 Y1)∧(l.take k=l2.take k)∧(k≤l.length)) (fun(k:Nat)=>l.length-k) 0 ?_ ?_;refine⟨_,Z0,Le.refl _,rfl,Nat.zero_le _⟩;rintro k w5 K5 hK5 ⟨Y5,Z5,G5,hp5_0,hp5_1⟩;refine zz 9<|zt 14 (p:=(k:Int)<(l.length:Int)) (fun F6=>?_) (fun F6=>?_);obtain⟨b1,off1,rfl,_⟩:=h.addr (by omega)
 have hx1:=getD_some (l:=l) (k:=k) (by omega)
 obtain⟨b2,off2,rfl,_⟩:=h2.addr (by omega)
 have hx2:=getD_some (l:=l2) (k:=k) (by omega)
 refine zz 6<|zdr Z5<|gz [0,1]<|gi 2 (b:=b1) (off:=off1) (len:=l.length) (cap:=cap) (kd:= .i64) (i:=(k:Int)) 1 (off1+k)<|gl 3 ((h.cell (i:=k) (by omega)).mono G5)<|gz [4,5]<|gi 6 (b:=b2) (off:=off2) (len:=l2.length) (cap:=O2) (kd:= .i64) (i:=(k:Int)) 1 (off2+k)<|gl 7 ((h2.cell (i:=k) (by omega)).mono G5)<|gz [8] ?_
 refine zCy (fun w7 Y7 Z7 G7=>?_);refine zz 1<|zb 25 (b:=(((l.getD k 0:Nat):Int)!=((l2.getD k 0:Nat):Int))) (fun J8=>?_) (fun J8=>?_);have F9:((l.getD k 0:Nat):Int)≠((l2.getD k 0:Nat):Int):=by simpa using J8
 refine zz 12<|zr' (v:= .bool false) ?_;exact⟨Z7.upd,_,rfl,zDy ((decide_eq_false (jCc hx1 hx2 (fun e=>F9 (by rw[e])))).symm)⟩
 have F10:((l.getD k 0:Nat):Int)=((l2.getD k 0:Nat):Int):=by simpa using J8
 refine zz 7<|zw 16 (x:=(k:Int)+1)<|zz 2 ?_;refine mP (fun a h=>hK5 (k+1) _ a h ⟨_,Z7,(Le2 G5 G7),zCd hp5_0 hx1 (by rw[show l.getD k 0=l2.getD k 0 by omega];exact hx2),by omega⟩ ?_)
 first | omega | (simp<;>omega)
 refine zz 12<|zr' (v:= .bool true) ?_;exact⟨Z5.upd,_,rfl,zDy ((decide_eq_true (fI hp5_0 hlen (by omega))).symm)⟩
include hX in
theorem zFo(ad:Option Addr)(len cap:Nat)(l:List Nat)(h:zT (rd w X) ad len cap l)(ad2:Option Addr)(len2 O2:Nat)(l2:List Nat)(h2:zT (rd w X) ad2 len2 O2 l2):Calls Tryz.prog 37 #[.slice ad len cap,.slice ad2 len2 O2] w (Ret E0 w fun _ v=>v= .bool (decide (l=l2))):=by
 obtain rfl:=h.hlen;obtain rfl:=h2.hlen;have hcap:=h.hcap;have hbig:=h.hbig;have hcap2:=h2.hcap;have hbig2:=h2.hbig;refine zen Tryz.func37 ?_;have Z0:St E0 w X w X []:=St.start hX;refine zz 9<|zc Z0 (zKu _ _ Z0.lt _ _ _ _ h _ _ _ _ h2) ?_;rintro v3 w3 Z3 G3 N3 rfl;refine zz 4<|zr' (v:= .bool (decide (l=l2))) ?_;exact⟨Z3.upd,_,rfl,rfl⟩
theorem zMx{a b:Raw}:a=b↔a.neg=b.neg∧a.ln=b.ln∧a.ld=b.ld:=by cases a;cases b;simp
include hX in
theorem zRl(a:Raw)(ad₁:Option Addr)(len₁ cap₁:Nat)(h₁:zT (rd w X) ad₁ len₁ cap₁ a.ln)(ae₁:Option Addr)(le₁ ce₁:Nat)(k₁:zT (rd w X) ae₁ le₁ ce₁ a.ld)(b:Raw)(ad₂:Option Addr)(len₂ cap₂:Nat)(h₂:zT (rd w X) ad₂ len₂ cap₂ b.ln)(ae₂:Option Addr)(le₂ ce₂:Nat)(k₂:zT (rd w X) ae₂ le₂ ce₂ b.ld):Calls Tryz.prog 13 #[.agg #[.bool a.neg,.slice ad₁ len₁ cap₁,.slice ae₁ le₁ ce₁],.agg #[.bool b.neg,.slice ad₂ len₂ cap₂,.slice ae₂ le₂ ce₂]] w (Ret E0 w fun _ v=>v= .bool (decide (a=b))):=by
 refine zen Tryz.func13 ?_;have Z0:St E0 w X w X []:=St.start hX;refine zz 2<|zn pn (.cells #[.bool a.neg,.slice ad₁ len₁ cap₁,.slice ae₁ le₁ ce₁] 28 (0,0)) Z0 fun b3 w3 Y3 Z3 G3 N3=>zn pn (.cells #[.bool b.neg,.slice ad₂ len₂ cap₂,.slice ae₂ le₂ ce₂] 28 (0,0)) Z3 fun b5 w5 Y5 Z5 G5 N5=>zz 6<|zo 1 Z5<|zz 1<|zo 0 Z5<|zz 2<|zb 10 (b:=(a.neg==b.neg)) (fun J6=>?_) (fun J6=>?_);have F7:a.neg=b.neg:=by simpa using J6
 refine zz 1<|zo 1 Z5<|zz 1<|zo 0 Z5<|zc Z5 (zFo _ _ Z5.lt _ _ _ _ (h₁.mono (Le2 G3 G5)) _ _ _ _ (h₂.mono (Le2 G3 G5))) ?_;rintro v9 w9 Z9 G9 N9 rfl;refine zz 2<|zb 17 (b:=(decide (a.ln=b.ln))) (fun J10=>?_) (fun J10=>?_);have F11:a.ln=b.ln:=of_decide_eq_true J10;refine zz 1<|zo 1 Z9<|zz 1<|zo 0 Z9<|zc Z9 (zFo _ _ Z9.lt _ _ _ _ (k₁.mono (Le3 G3 G5 G9)) _ _ _ _ (k₂.mono (Le3 G3 G5 G9))) ?_;rintro v13 w13 Z13 G13 N13 rfl;refine zz 5<|zr' (v:= .bool (decide (a.ld=b.ld))) ?_;refine⟨Z13.upd,_,rfl,zDy ?_⟩;refine Bool.eq_iff_iff.2 ?_;rw[show(decide (a=b)=true)↔_ from decide_eq_true_iff.trans zMx];simp_all;have F14:¬(a.ln=b.ln):=of_decide_eq_false J10;refine zz 10<|zr' (v:= .bool false) ?_;refine⟨Z9.upd,_,rfl,zDy ?_⟩;refine Bool.eq_iff_iff.2 ?_;rw[show(decide (a=b)=true)↔_ from decide_eq_true_iff.trans zMx];simp_all;have F15:a.neg≠b.neg:=by simpa using J6
 refine zz 17<|zr' (v:= .bool false) ?_;refine⟨Z5.upd,_,rfl,zDy ?_⟩;refine Bool.eq_iff_iff.2 ?_;rw[show(decide (a=b)=true)↔_ from decide_eq_true_iff.trans zMx];simp_all
end
section
variable (w:World)(X:Hid)(hX:∀k o,X k o→k<w.heap.size)
set_option maxHeartbeats 1000000
include hX in
theorem qRm(ad₁:Option Addr)(len₁ cap₁ n₁:Nat)(h₁:qH (rd w X) ad₁ len₁ cap₁ n₁)(ae₁:Option Addr)(le₁ ce₁ d₁:Nat)(k₁:qH (rd w X) ae₁ le₁ ce₁ d₁)(s₁:Bool)(hn₁:n₁<jZ)(hd₁:d₁<jZ)(ad₂:Option Addr)(len₂ cap₂ n₂:Nat)(h₂:qH (rd w X) ad₂ len₂ cap₂ n₂)(ae₂:Option Addr)(le₂ ce₂ d₂:Nat)(k₂:qH (rd w X) ae₂ le₂ ce₂ d₂)(s₂:Bool)(hn₂:n₂<jZ)(hd₂:d₂<jZ):Calls Tryz.prog 34 #[.agg #[.slice ad₁ len₁ cap₁,.slice ae₁ le₁ ce₁,.bool s₁],.agg #[.slice ad₂ len₂ cap₂,.slice ae₂ le₂ ce₂,.bool s₂]] w (Ret E0 w fun w' v=>∃s m,zXh X w' v s m (d₁*n₂)∧m<4294967296^512∧sgn s m=sgn s₁ n₁*sgn s₂ d₂):=by
 refine zen Tryz.func34 ?_;have Z0:St E0 w X w X []:=St.start hX;have hb:∀{x:Nat},x<jZ→x<4294967296^512:=fun h=>Nat.lt_of_lt_of_le h qKb;have hbn1:=hb hn₁;have hbn2:=hb hn₂;have hbd1:=hb hd₁;have hbd2:=hb hd₂;obtain⟨hp1,hp12⟩:=xY hn₁ hd₂ hn₂ hd₁;have hp2:=(xY hn₂ hd₁ hn₁ hd₂).1;have hpd:=(xY hd₁ hd₂ hd₁ hd₂).1;have hpn:=(xY hn₁ hn₂ hd₁ hd₂).1;refine zz 2<|zn pn (.cells #[.slice ad₁ len₁ cap₁,.slice ae₁ le₁ ce₁,.bool s₁] 79 (0,0)) Z0 fun b3 w3 Y3 Z3 G3 N3=>zn pn (.cells #[.slice ad₂ len₂ cap₂,.slice ae₂ le₂ ce₂,.bool s₂] 79 (0,0)) Z3 fun b5 w5 Y5 Z5 G5 N5=>zn pn (.cells #[.slice none 0 0,.slice none 0 0,.bool false] 79 (0,0)) Z5 fun b7 w7 Y7 Z7 G7 N7=>zz 6<|zo 1 Z7<|zz 2<|zo 1 Z7<|zz 2 ?_;refine zx 1 #[.slice ae₂ le₂ ce₂,.slice ae₂ le₂ ce₂,.bool s₂] Z7 fun w8 Z8 G8=>zz 2<|zx 1 #[.slice ae₂ le₂ ce₂,.slice ad₂ len₂ cap₂,.bool s₂] Z8 fun w9 Z9 G9=>zz 4<|zo 2 Z9<|zo 1 Z9 ?_;have J1_:=(Le4 G3 G5 G7 G8).trans G9;refine zc Z9 (zKi _ _ Z9.lt _ _ _ n₁ (h₁.mono J1_) _ _ _ d₁ (k₁.mono J1_) s₁ (by assumption) (by assumption) _ _ _ d₂ (k₂.mono J1_) _ _ _ n₂ (h₂.mono J1_) s₂ (by assumption) (by assumption)) ?_
 rintro v11 w11 Z11 G11 N11 ⟨sg11,m11,⟨ad11,len11,O11,ae11,le11,ce11,rfl,hN11,hD11⟩,hm11,he11⟩;have J2_:=J1_.trans G11;refine zx 0 #[.slice ad11 len11 O11,.slice ae11 le11 ce11,.bool sg11] Z11 fun w12 Z12 G12=>zz 3<|zrS [.cell 4 79] (v:= .agg #[.slice ad11 len11 O11,.slice ae11 le11 ce11,.bool sg11]) (Res.cM Z12 0 Res.nil) ?_;exact⟨Z12.upd,_,rfl,_,_,⟨_,_,_,_,_,_,rfl,(hN11.mono G12).mono Z12.le,(hD11.mono G12).mono Z12.le⟩,hm11,he11⟩
def OpD(f:Nat)(op:Rat→Rat→Rat):Prop:=∀(w:World)(X:Hid)(hX:∀k o,X k o→k<w.heap.size)(ad₁:Option Addr)(len₁ cap₁ n₁:Nat)(h₁:qH (rd w X) ad₁ len₁ cap₁ n₁)(ae₁:Option Addr)(le₁ ce₁ d₁:Nat)(k₁:qH (rd w X) ae₁ le₁ ce₁ d₁)(s₁:Bool)(hn₁:n₁<jZ)(hd₁:d₁<jZ)(ad₂:Option Addr)(len₂ cap₂ n₂:Nat)(h₂:qH (rd w X) ad₂ len₂ cap₂ n₂)(ae₂:Option Addr)(le₂ ce₂ d₂:Nat)(k₂:qH (rd w X) ae₂ le₂ ce₂ d₂)(s₂:Bool)(hn₂:n₂<jZ)(hd₂:d₂<jZ)(hp₁:0<d₁)(hp₂:0<d₂)(hz:n₂≠0),Calls Tryz.prog f #[.agg #[.slice ad₁ len₁ cap₁,.slice ae₁ le₁ ce₁,.bool s₁],.agg #[.slice ad₂ len₂ cap₂,.slice ae₂ le₂ ce₂,.bool s₂]] w (Ret E0 w fun w' v=>∃s m d,zXh X w' v s m d∧m<4294967296^512∧d<4294967296^512∧0<d∧mkRat (sgn s m) d=op (mkRat (sgn s₁ n₁) d₁) (mkRat (sgn s₂ n₂) d₂))
theorem qJz(s:Bool)(a b:Nat):(mkRat (sgn s a) b)⁻¹=mkRat (sgn s b) a:=by
 rw[←Rat.divInt_ofNat,Rat.inv_divInt,←Rat.divInt_ofNat];cases s
 ·rfl
 ·show Rat.divInt b (-(a:Int))=Rat.divInt (-(b:Int)) a;rw[←Rat.neg_divInt_neg,Int.neg_neg]
theorem qRo:OpD 34 (·/ ·):=fun w X hX ad₁ len₁ cap₁ n₁ h₁ ae₁ le₁ ce₁ d₁ k₁ s₁ hn₁ hd₁ ad₂ len₂ cap₂ n₂ h₂ ae₂ le₂ ce₂ d₂ k₂ s₂ hn₂ hd₂ hp₁ hp₂ hz=>
 (qRm w X hX ad₁ len₁ cap₁ n₁ h₁ ae₁ le₁ ce₁ d₁ k₁ s₁ hn₁ hd₁ ad₂ len₂ cap₂ n₂ h₂ ae₂ le₂ ce₂ d₂ k₂ s₂ hn₂ hd₂).mono (by
  rintro e w' ⟨hu,v,rfl,s,m,hv,hm,he⟩;refine⟨hu,_,rfl,s,m,_,hv,hm,zLn hd₁ hn₂,Nat.mul_pos hp₁ (Nat.pos_of_ne_zero hz),?_⟩;show _=mkRat (sgn s₁ n₁) d₁ / mkRat (sgn s₂ n₂) d₂;rw[Rat.div_def,qJz,Rat.mkRat_mul_mkRat,he])
theorem zTb(f:Nat)(op:Rat→Rat→Rat)(hcf:∀args w,(callFunc f args).run Tryz.prog w= .ok (.enter f args) w)(hop:OpD f op)(w:World)(X:Hid)(hX:∀k o,X k o→k<w.heap.size)(a:Raw)(ad₁:Option Addr)(len₁ cap₁:Nat)(h₁:zT (rd w X) ad₁ len₁ cap₁ a.ln)(ae₁:Option Addr)(le₁ ce₁:Nat)(k₁:zT (rd w X) ae₁ le₁ ce₁ a.ld)(b:Raw)(ad₂:Option Addr)(len₂ cap₂:Nat)(h₂:zT (rd w X) ad₂ len₂ cap₂ b.ln)(ae₂:Option Addr)(le₂ ce₂:Nat)(k₂:zT (rd w X) ae₂ le₂ ce₂ b.ld)(hb0:val b.ln≠0)(z:Rat)(hz:op a.rat b.rat=z):Calls Tryz.prog 33 #[.agg #[.bool a.neg,.slice ad₁ len₁ cap₁,.slice ae₁ le₁ ce₁],.agg #[.bool b.neg,.slice ad₂ len₂ cap₂,.slice ae₂ le₂ ce₂],.func (.func f) #[] #[]] w (Ret E0 w fun w' v=>∃u,v= .tuple #[u,.int .i64 (opE a b z)]∧nC (old w) w' u (opR a b z)):=by
 refine zen Tryz.func33 ?_;have Z0:St E0 w X w X []:=St.start hX;refine zz 2<|zn pn (.cells #[.bool a.neg,.slice ad₁ len₁ cap₁,.slice ae₁ le₁ ce₁] 28 (0,0)) Z0 fun b3 w3 Y3 Z3 G3 N3=>zn pn (.cells #[.bool b.neg,.slice ad₂ len₂ cap₂,.slice ae₂ le₂ ce₂] 28 (0,0)) Z3 fun b5 w5 Y5 Z5 G5 N5=>zn pn (.cells #[.bool false,.slice none 0 0,.slice none 0 0] 28 (0,0)) Z5 fun b7 w7 Y7 Z7 G7 N7=>zz 5<|zdr Z7<|gw 0 2<|gw 2 1 ?_;have J1_:=(Le2 G3 G5).trans G7;refine gC 1 (fun w8 Y8 _ Z8 G8=>(wD _ _ Z8.lt a _ _ _ (h₁.mono (J1_.trans G8)) _ _ _ (k₁.mono (J1_.trans G8)))) ?_;rintro v9 w8 Y9 w9 Z8 G9 rfl;have J2_:=J1_.trans G9;refine gC 3 (fun w10 Y10 _ Z10 G10=>(wD _ _ Z10.lt b _ _ _ (h₂.mono (J2_.trans G10)) _ _ _ (k₂.mono (J2_.trans G10)))) ?_;rintro v11 w10 Y11 w11 Z10 G11 rfl;refine gp1 (al 4 14 (fun b=> .slice (some ⟨b,0,none⟩) 2 2) (.cells #[.int .i64 a.chk,.int .i64 b.chk] 36 (0,0))) (fun b12=>?_);refine gC 5 (vs:=#[.slice (some ⟨b12,0,none⟩) 2 2]) (fun w13 Y13 _ Z13 G13=>(qFo _ X0 (qV _) _ _ _ _ [a.chk,b.chk] rfl (by simp) (Z13.at0 0 rfl rfl))) ?_
 rintro v14 w13 Y14 w14 Z13 G14 rfl;refine gz [6]<|zCy (fun w15 Y15 Z15 G15=>?_);refine zz 7<|zb 17 (b:=((orL [a.chk,b.chk])!=0)) (fun J16=>?_) (fun J16=>?_);have F17:(orL [a.chk,b.chk])≠0:=by simpa using J16
 refine zz 5<|zx 1 #[.bool false,.slice none 0 0,.slice none 0 0] Z15 fun w18 Z18 G18=>zz 5<|zrS [.cell 6 28,.tmp 7] (v:= .tuple #[.agg #[.bool false,.slice none 0 0,.slice none 0 0],.int .i64 (orL [a.chk,b.chk])]) (Res.cM Z18 1 (Res.tZ Res.nil)) ?_;obtain⟨he1,he2⟩:=zTa (z:=z) F17;exact⟨Z18.upd,_,rfl,_,by rw[he1],by rw[he2];exact sZ⟩
 have F19:(orL [a.chk,b.chk])=0:=by simpa using J16
 obtain⟨hca,hcb⟩:=gY ((zIr _ _).symm.trans (by simpa using F19))
 obtain⟨hla,hma,cna,cda,_,_,_⟩:=Raw.chk_ok hca;have bna:val a.ln<jZ:=(zZ h₁.hlt cna 128).1 hla;have bda:a.d<jZ:=by unfold Raw.d;split;exact Nat.one_lt_pow (by omega) (by omega);exact(zZ k₁.hlt cda 128).1 hma
 have pda:=Raw.d_pos a;have hNna:=h₁.natR cna;have hNda:=k₁.natR cda;obtain⟨hlb,hmb,cnb,cdb,_,_,_⟩:=Raw.chk_ok hcb;have bnb:val b.ln<jZ:=(zZ h₂.hlt cnb 128).1 hlb;have bdb:b.d<jZ:=by unfold Raw.d;split;exact Nat.one_lt_pow (by omega) (by omega);exact(zZ k₂.hlt cdb 128).1 hmb
 have pdb:=Raw.d_pos b;have hNnb:=h₂.natR cnb;have hNdb:=k₂.natR cdb;refine zz 4 ?_;refine qPp [0,1,2,3] Z15<|gz [0]<|gw 1 3<|gw 3 2<|gp (al 7 9 pn (.cells #[.bool false,.slice none 0 0,.slice none 0 0] 28 (0,0))) ?_;have J3_:=((J2_.trans G11).trans G14).trans G15;refine gC 2 (fun w20 Y20 _ Z20 G20=>(zYm _ _ Z20.lt a.neg _ _ _ (val a.ln) (hNna.mono (J3_.trans G20)) _ _ _ (val a.ld) (hNda.mono (J3_.trans G20)))) ?_ (hPd:=kW.nil.k);rintro v21 w20 Y21 w21 Z20 G21 ⟨ad21,len21,O21,ae21,le21,ce21,rfl,hN21,hD21⟩;have J4_:=J3_.trans G21;refine gC 4 (fun w22 Y22 _ Z22 G22=>(zYm _ _ Z22.lt b.neg _ _ _ (val b.ln) (hNnb.mono (J4_.trans G22)) _ _ _ (val b.ld) (hNdb.mono (J4_.trans G22)))) ?_ (hPd:=kW.nil.k);rintro v23 w22 Y23 w23 Z22 G23 ⟨ad23,len23,O23,ae23,le23,ce23,rfl,hN23,hD23⟩;refine gC 5 (hcall:=(fun w=>hcf _ w)) (fun w24 Y24 _ Z24 G24=>(hop _ _ Z24.lt _ _ _ (val a.ln) (hN21.mono (Le2 G23 G24)) _ _ _ a.d (hD21.mono (Le2 G23 G24)) a.neg (by assumption) (by assumption) _ _ _ (val b.ln) (hN23.mono G24) _ _ _ b.d (hD23.mono G24) b.neg (by assumption) (by assumption) (by assumption) (by assumption) (by assumption))) ?_ (hPd:=kW.nil.k)
 rintro v25 w24 Y25 w25 Z24 G25 ⟨sg25,m25,d25,⟨ad25,len25,O25,ae25,le25,ce25,rfl,hN25,hD25⟩,hm25,hd25,hp25,he25⟩;refine gC 6 (fun w26 Y26 _ Z26 G26=>(zGo _ _ Z26.lt _ _ _ m25 (hN25.mono G26) _ _ _ d25 (hD25.mono G26) sg25 hm25 hd25 hp25 z (he25.trans hz))) ?_ (hPd:=kW.nil.k);rintro v27 w26 Y27 w27 Z26 G27 ⟨ad27,len27,O27,ae27,le27,ce27,rfl,hN27,hD27⟩;refine gs1 (fun b28=>?_) kW.nil.k;refine gX 8 0 #[.bool (decide (z.num<0)),.slice ad27 len27 O27,.slice ae27 le27 ce27] fun w29 Y29 G29=>zCy (fun w30 Y30 Z30 G30=>?_);refine zz 5<|zo 0 Z30<|zz 3<|zt 31 (p:=(len27:Int)>128) (fun F31=>?_) (fun F31=>?_);refine zz 11<|zx 2 #[.bool false,.slice none 0 0,.slice none 0 0] Z30 fun w32 Z32 G32=>zz 5<|zrS [.cell 6 28,.tmp 7] (v:= .tuple #[.agg #[.bool false,.slice none 0 0,.slice none 0 0],.int .i64 4]) (Res.cM Z32 2 (Res.tZ Res.nil)) ?_;obtain⟨he1,he2⟩:=zFk (z:=z) F19 (fun hh=>absurd ((hN27.len_le 128).2 hh.1) (by omega))
 exact⟨Z32.upd,_,rfl,_,by rw[he1],by rw[he2];exact sZ⟩
 refine zz 1<|zo 0 Z30<|zz 5<|zt 36 (p:=(le27:Int)>128) (fun F33=>?_) (fun F33=>?_);refine zz 4<|zx 2 #[.bool false,.slice none 0 0,.slice none 0 0] Z30 fun w34 Z34 G34=>zz 5<|zrS [.cell 6 28,.tmp 7] (v:= .tuple #[.agg #[.bool false,.slice none 0 0,.slice none 0 0],.int .i64 4]) (Res.cM Z34 2 (Res.tZ Res.nil)) ?_;obtain⟨he1,he2⟩:=zFk (z:=z) F19 (fun hh=>absurd ((hD27.len_le 128).2 hh.2) (by omega))
 exact⟨Z34.upd,_,rfl,_,by rw[he1],by rw[he2];exact sZ⟩
 refine zz 5<|zo 0 Z30<|zx 2 #[.bool (decide (z.num<0)),.slice ad27 len27 O27,.slice ae27 le27 ce27] Z30 fun w35 Z35 G35=>zz 4<|zrS [.cell 6 28,.tmp 7] (v:= .tuple #[.agg #[.bool (decide (z.num<0)),.slice ad27 len27 O27,.slice ae27 le27 ce27],.int .i64 0]) (Res.cM Z35 2 (Res.tZ Res.nil)) ?_;obtain⟨he1,he2⟩:=zVx (z:=z) F19 ⟨(hN27.len_le 128).1 (by omega),(hD27.len_le 128).1 (by omega)⟩
 exact⟨Z35.upd,_,rfl,_,by rw[he1],by rw[he2];exact zIm.raw ⟨_,_,_,_,_,_,rfl,((hN27.mono (Le.own Z26.lt Z26.upd.size (Le3 G29 G30 G35))).mono Le.orr),((hD27.mono (Le.own Z26.lt Z26.upd.size (Le3 G29 G30 G35))).mono Le.orr)⟩⟩
include hX in
theorem qZn(a:Raw)(ad₁:Option Addr)(len₁ cap₁:Nat)(h₁:zT (rd w X) ad₁ len₁ cap₁ a.ln)(ae₁:Option Addr)(le₁ ce₁:Nat)(k₁:zT (rd w X) ae₁ le₁ ce₁ a.ld)(b:Raw)(ad₂:Option Addr)(len₂ cap₂:Nat)(h₂:zT (rd w X) ad₂ len₂ cap₂ b.ln)(ae₂:Option Addr)(le₂ ce₂:Nat)(k₂:zT (rd w X) ae₂ le₂ ce₂ b.ld)(hb0:val b.ln≠0):Calls Tryz.prog 11 #[.agg #[.bool a.neg,.slice ad₁ len₁ cap₁,.slice ae₁ le₁ ce₁],.agg #[.bool b.neg,.slice ad₂ len₂ cap₂,.slice ae₂ le₂ ce₂]] w (Ret E0 w fun w' v=>∃u,v= .tuple #[u,.int .i64 (opE a b (a.rat / b.rat))]∧nC (old w) w' u (opR a b (a.rat / b.rat))):=by
 refine zen Tryz.func11 ?_;have Z0:St E0 w X w X []:=St.start hX;refine zz 2<|zn pn (.cells #[.bool a.neg,.slice ad₁ len₁ cap₁,.slice ae₁ le₁ ce₁] 28 (0,0)) Z0 fun b3 w3 Y3 Z3 G3 N3=>zn pn (.cells #[.bool b.neg,.slice ad₂ len₂ cap₂,.slice ae₂ le₂ ce₂] 28 (0,0)) Z3 fun b5 w5 Y5 Z5 G5 N5=>zn pn (.cells #[.bool false,.slice none 0 0,.slice none 0 0] 28 (0,0)) Z5 fun b7 w7 Y7 Z7 G7 N7=>zz 5<|zdr Z7<|gw 0 2<|gw 2 1 ?_;have J1_:=(Le2 G3 G5).trans G7;refine gC 1 (fun w8 Y8 _ Z8 G8=>(wD _ _ Z8.lt a _ _ _ (h₁.mono (J1_.trans G8)) _ _ _ (k₁.mono (J1_.trans G8)))) ?_;rintro v9 w8 Y9 w9 Z8 G9 rfl;have J2_:=J1_.trans G9;refine gC 3 (fun w10 Y10 _ Z10 G10=>(wD _ _ Z10.lt b _ _ _ (h₂.mono (J2_.trans G10)) _ _ _ (k₂.mono (J2_.trans G10)))) ?_;rintro v11 w10 Y11 w11 Z10 G11 rfl;refine gp1 (al 4 11 (fun b=> .slice (some ⟨b,0,none⟩) 2 2) (.cells #[.int .i64 a.chk,.int .i64 b.chk] 36 (0,0))) (fun b12=>?_);refine gC 5 (vs:=#[.slice (some ⟨b12,0,none⟩) 2 2]) (fun w13 Y13 _ Z13 G13=>(qFo _ X0 (qV _) _ _ _ _ [a.chk,b.chk] rfl (by simp) (Z13.at0 0 rfl rfl))) ?_
 rintro v14 w13 Y14 w14 Z13 G14 rfl;refine gz [6]<|zCy (fun w15 Y15 Z15 G15=>?_);refine zz 7<|zb 14 (b:=((orL [a.chk,b.chk])!=0)) (fun J16=>?_) (fun J16=>?_);have F17:(orL [a.chk,b.chk])≠0:=by simpa using J16
 refine zz 5<|zx 1 #[.bool false,.slice none 0 0,.slice none 0 0] Z15 fun w18 Z18 G18=>zz 5<|zrS [.cell 4 28,.tmp 5] (v:= .tuple #[.agg #[.bool false,.slice none 0 0,.slice none 0 0],.int .i64 (orL [a.chk,b.chk])]) (Res.cM Z18 1 (Res.tZ Res.nil)) ?_;obtain⟨he1,he2⟩:=zTa (z:=a.rat / b.rat) F17;exact⟨Z18.upd,_,rfl,_,by rw[he1],by rw[he2];exact sZ⟩
 have F19:(orL [a.chk,b.chk])=0:=by simpa using J16
 refine zz 7<|zo 2 Z15<|zz 4<|zb 20 (b:=((len₂:Int)==0)) (fun J20=>?_) (fun J20=>?_);have F21:(len₂:Int)=0:=by simpa using J20
 exact absurd (by have:=h₂.hlen;have hl:b.ln=[]:=List.length_eq_zero_iff.1 (by omega);rw[hl];rfl) hb0
 have F22:(len₂:Int)≠0:=by simpa using J20
 refine zz 5<|zo 3 Z15<|zo 2 Z15 ?_;have J3_:=((J2_.trans G11).trans G14).trans G15;refine zc Z15 (zTb 34 (·/ ·) (fun args w=>Tryz.call34 args w) qRo _ _ Z15.lt a _ _ _ (h₁.mono J3_) _ _ _ (k₁.mono J3_) b _ _ _ (h₂.mono J3_) _ _ _ (k₂.mono J3_) hb0 (a.rat / b.rat) rfl) ?_;rintro v24 w24 Z24 G24 N24 ⟨u24,rfl,⟨ad24,len24,O24,ae24,le24,ce24,rfl,hN24,hD24⟩⟩;refine zz 2<|zx 1 #[.bool ((opR a b (a.rat / b.rat)).neg),.slice ad24 len24 O24,.slice ae24 le24 ce24] Z24 fun w25 Z25 G25=>zz 4<|zrS [.cell 4 28,.tmp 5] (v:= .tuple #[.agg #[.bool ((opR a b (a.rat / b.rat)).neg),.slice ad24 len24 O24,.slice ae24 le24 ce24],.int .i64 (opE a b (a.rat / b.rat))]) (Res.cM Z25 1 (Res.tZ Res.nil)) ?_;exact⟨Z25.upd,_,rfl,_,rfl,⟨_,_,_,_,_,_,rfl,((hN24.mono (Le.own Z15.lt Z15.upd.size G25)).mono Le.orr),((hD24.mono (Le.own Z15.lt Z15.upd.size G25)).mono Le.orr)⟩⟩
end
set_option maxHeartbeats 1000000
theorem nL{l:List Nat}(hc:jC l)(h:0<l.length):0<val l:=by
 have:=bP hc;omega
end Go.Proofs.YtjnpoeilfdbaaaaGreatDoor
namespace Go.Ev
open Go Go.Gv IntKind
inductive Ty where
  | lim
  | int (k:IntKind)
  | bool
  | str
  | list (A:Ty)
  | prod (A B:Ty)
@[reducible] def Ty.den : Ty → Type
  | .lim => Nat
  | .int _ => Int
  | .bool => Bool
  | .str => ByteArray
  | .list A => List A.den
  | .prod A B => A.den × B.den
noncomputable def Ty.size:Ty→Nat
 | .prod A B=>A.size+B.size
 | _=>1
noncomputable def Ty.zero:(A:Ty)→A.den
 | .lim=>(0:Nat)
 | .int _=>(0:Int)
 | .bool=>false
 | .str=>⟨#[]⟩
 | .list _=>[]
 | .prod A B=>(A.zero,B.zero)
inductive Tg where
  | a | n | o
noncomputable def Tg.isN:Tg→Bool
 | .n=>true
 | _=>false
noncomputable def Tg.isA:Tg→Bool
 | .a=>true
 | _=>false
noncomputable def Tg.le:Tg→Tg→Bool
 | .a,_=>true
 | .n,.n=>true
 | .o,.o=>true
 | _,_=>false
inductive T where
  | u
  | v (x:Value)
  | sl (cs:List T) (n:Nat)
  | sn (cs:List T) (n:Nat)
  | st (cs:List T) (n:Nat)
  | fp (cs:List T)
  | os (i o n c:Nat)
  | og (i o n:Nat)
  | op (i o:Nat)
  | ag (cs:List T)
  | tu (cs:List T)
  | fn (f:Nat) (cs:List T)
  | fb (f:Nat) (bs:List T)
  | om (i:Nat)
  | yl (i:Nat)
  | ls (g:Tg) (A:Ty) (l:List A.den)
  | hv (A:Ty) (l:List A.den)
inductive Cs where
  | l (cs:List T)
  | d (g:Tg) (A:Ty) (x:List A.den)
structure MD where
 g:Tg
 K:Ty
 V:Ty
 l:List (K.den×V.den)
inductive TO where
  | row (cs:List T) (e:TypeId)
  | gro (cs:Cs) (e:TypeId)
  | fz (cs:List T)
  | map (l:List (Value×T))
  | mapd (d:MD)
  | loop (L:List T) (ps:List Nat) (a b:Code) (ready:Bool) (pend:Option Code)
  | gone
structure S where
 L:List T
 H:List TO
inductive Ex where
  | n | x (id:Nat) | r | p (t:T)
noncomputable def nth{α:Type}(d:α)(l:List α):Nat→α:=List.rec (fun _=>d) (fun x _ ih n=>Nat.rec x (fun m _=>ih m) n) l
noncomputable def put{α:Type}(x:α)(l:List α):Nat→List α:=List.rec (fun _=>[]) (fun y l ih n=>Nat.rec (x::l) (fun m _=>y::ih m) n) l
def ln{α:Type}:List α→Nat
 | []=>0
 | _::l=>Nat.succ (ln l)
def sc:Value→Bool
 | .int .. | .bool _ | .string _ | .slice none 0 0 | .pointer none | .map none | .nilFunc | .nilIface | .iface _ (.int ..)=>true
 | _=>false
def ofV(x:Value):T:=bif sc x then .v x else .u
def ofC:Value→T
 | .agg cs=> .ag (cs.toList.map ofV)
 | .tuple cs=> .tu (cs.toList.map ofV)
 | .func (.func f) ⟨[]⟩ ⟨[]⟩=> .fn f []
 | x=>ofV x
noncomputable def qF(g:Tg):(A:Ty)→A.den→List T
 | .lim,a=>[.v (.int .u32 (.ofNat a))]
 | .int k,a=>[.v (.int k a)]
 | .bool,b=>[.v (.bool b)]
 | .str,s=>[.v (.string s)]
 | .list A,l=>[.ls g A l]
 | .prod A B,x=>qF g A x.1++qF g B x.2
noncomputable def zCm:(A:Ty)→A.den→List T
 | .lim,_=>[.u]
 | .int _,_=>[.u]
 | .bool,b=>[.v (.bool b)]
 | .str,s=>[.v (.string s)]
 | .list A,l=>[.hv A l]
 | .prod A B,x=>zCm A x.1++zCm B x.2
noncomputable def yA(g:Tg)(A:Ty):List A.den→List T
 | []=>[]
 | x::l=>qF g A x++yA g A l
noncomputable def qN(g:Tg)(A:Ty):List A.den→List T
 | []=>[]
 | x::l=>qN g A l++qF g A x
noncomputable def kind:IntKind→Nat
 | .i8=>0 | .i16=>1 | .i32=>2 | .i64=>3 | .u8=>4 | .u16=>5 | .u32=>6 | .u64=>7
noncomputable def Cs.list:Cs→List T
 | .l cs=>cs
 | .d g A x=>qN g A x
noncomputable def Ty.beq:Ty→Ty→Bool
 | .lim,.lim=>true
 | .int j,.int k=>Nat.beq (kind j) (kind k)
 | .bool,.bool=>true
 | .str,.str=>true
 | .list A,.list B=>A.beq B
 | .prod A B,.prod C D=>A.beq C&&B.beq D
 | _,_=>false
theorem Ty.beq_eq:∀{A B:Ty},A.beq B=true→A=B
 | .lim,.lim,_=>rfl
 | .int j,.int k,h=>by have:=Nat.eq_of_beq_eq_true h;cases j<;>cases k<;>first | rfl | cases this
 | .bool,.bool,_=>rfl
 | .str,.str,_=>rfl
 | .list A,.list B,h=>by rw[Ty.beq_eq (A:=A) (B:=B) h]
 | .prod A B,.prod C D,h=>by
  simp only[Ty.beq,Bool.and_eq_true]at h;rw[Ty.beq_eq h.1,Ty.beq_eq h.2]
noncomputable def wY(A B:Ty)(l:List A.den):Option (List B.den):=if h:A.beq B=true then some (Ty.beq_eq h▸l)else none
noncomputable def fH:Nat→List T→Option (List T)
 | 0,_=>some []
 | _+1,[]=>none
 | n+1,x::l=>match fH n l with
  | some r=>some (x::r)
  | none=>none
noncomputable def lM:List T→Nat→List T
 | [],_=>[]
 | x::l,n=>match n with
  | 0=>x::l
  | n+1=>lM l n
noncomputable def qBj:List T→Option Nat
 | [.v (.int k (.ofNat a))]=>bif Nat.beq (kind k) 6 then some a else none
 | _=>none
noncomputable def qBi(k:IntKind):List T→Option Int
 | [.v (.int k' a)]=>bif Nat.beq (kind k) (kind k')then some a else none
 | _=>none
noncomputable def qBh:List T→Option Bool
 | [.v (.bool b)]=>some b
 | _=>none
noncomputable def qBl:List T→Option ByteArray
 | [.v (.string s)]=>some s
 | _=>none
noncomputable def qBk(g:Tg)(A:Ty):List T→Option (List A.den)
 | [.v (.slice none 0 0)]=>some []
 | [.ls g' A' l]=>bif g.le g' then wY A' A l else none
 | _=>none
noncomputable def nM(g:Tg):(A:Ty)→List T→Option A.den
 | .lim,ts=>qBj ts
 | .int k,ts=>qBi k ts
 | .bool,ts=>qBh ts
 | .str,ts=>qBl ts
 | .list A,ts=>qBk g A ts
 | .prod A B,ts=>match fH A.size ts with
  | some u=>(match nM g A u,nM g B (lM ts A.size)with
   | some x,some y=>some (x,y)
   | _,_=>none)
  | none=>none
noncomputable def Cs.app:Cs→List T→Cs
 | .l cs,b=> .l (cs++b)
 | .d g A x,b=>match nM g A b with
  | some y=> .d g A (y::x)
  | none=> .l (qN g A x++b)
noncomputable def Cs.apL(b:List T)(g:Tg)(A:Ty)(z:List A.den):Cs→Cs
 | .l []=> .d g A z.reverse
 | .l (c::cs)=> .l ((c::cs)++b)
 | .d g' A' x=>match wY A A' z with
  | some u=>bif g'.le g then .d g' A' (u.reverse++x)else .l (qN g' A' x++b)
  | none=> .l (qN g' A' x++b)
noncomputable def Cs.apY(c:Cs)(y:T)(b:List T):Cs:=match y with
 | .ls g A z=>c.apL b g A z
 | _=>c.app b
noncomputable def dn:T→T
 | .sn cs n=> .sl cs n
 | t=>t
noncomputable def unN:Nat→T→T
 | 0,_=> .u
 | k+1,t=>match t with
  | .sn cs n=> .sl (cs.map (unN k)) n
  | .ls _ A l=> .ls .a A l
  | .hv _ _=> .u
  | .sl cs n=> .sl (cs.map (unN k)) n
  | .st cs n=> .st (cs.map (unN k)) n
  | .fp cs=> .fp (cs.map (unN k))
  | .ag cs=> .ag (cs.map (unN k))
  | .tu cs=> .tu (cs.map (unN k))
  | .fn f cs=> .fn f (cs.map (unN k))
  | .fb f cs=> .fb f (cs.map (unN k))
  | t=>t
noncomputable def mkN:Nat→T→T
 | 0,t=>t
 | k+1,t=>match t with
  | .sl cs n=> .sn (cs.map (mkN k)) n
  | .ls _ A l=> .ls .n A l
  | .ag cs=> .ag (cs.map (mkN k))
  | .tu cs=> .tu (cs.map (mkN k))
  | .fn f cs=> .fn f (cs.map (mkN k))
  | t=>t
noncomputable def evO(L:List T):Operand→T
 | .tmp t=>nth .u L t
 | .const x=>ofC x
 | .func f=> .fn f []
 | .global _=> .u
noncomputable def qJr:IntKind→Nat
 | .i8=>128 | .i16=>32768 | .i32=>2147483648 | .i64=>9223372036854775808 | .u8=>256 | .u16=>65536 | .u32=>4294967296 | .u64=>18446744073709551616
noncomputable def wr(k:IntKind):Int→Int
 | .ofNat n=>bif Nat.blt n (qJr k)then .ofNat n else k.wrap (.ofNat n)
 | .negSucc n=>k.wrap (.negSucc n)
noncomputable def ieq:Int→Int→Bool
 | .ofNat a,.ofNat b=>Nat.beq a b
 | .negSucc a,.negSucc b=>Nat.beq a b
 | _,_=>false
noncomputable def ilt:Int→Int→Bool
 | .ofNat a,.ofNat b=>Nat.blt a b
 | .negSucc a,.negSucc b=>Nat.blt b a
 | .negSucc _,.ofNat _=>true
 | .ofNat _,.negSucc _=>false
noncomputable def zOc(op:BinOp)(k:IntKind)(a b:Int):Option Value:=match op with
 | .add=>some (.int k (wr k (Int.add a b)))
 | .sub=>some (.int k (wr k (Int.sub a b)))
 | .mul=>some (.int k (wr k (Int.mul a b)))
 | .eql=>some (.bool (ieq a b))
 | .neq=>some (.bool (!ieq a b))
 | .lss=>some (.bool (ilt a b))
 | .leq=>some (.bool (!ilt b a))
 | .gtr=>some (.bool (ilt b a))
 | .geq=>some (.bool (!ilt a b))
 | .quo=>bif ieq b 0 then none else some (.int k (wr k (Int.tdiv a b)))
 | .rem=>bif ieq b 0 then none else some (.int k (Int.tmod a b))
 | _=>none
noncomputable def zXk(a b:Bool):Bool:=match a with | true=>b | false=>!b
noncomputable def bin(op:BinOp)(x y:Value):Option Value:=match x,y with
 | .int k a,.int k' b=>bif Nat.beq (kind k) (kind k')then zOc op k a b else none
 | _,_=>none
noncomputable def zer(P:Program)(t:TypeId):Option (List T):=match(P.info? t)with
 | some i=>(match i.zero with | some v=>some (v.cells.toList.map ofV) | none=>none)
 | none=>none
noncomputable def zXw(P:Program)(s f:Nat):Option (Nat×Nat):=match P.underlying s with
 | some (.struct fs)=>(match fs[f]? with | some x=>some (x.offset,x.type) | none=>none)
 | _=>none
noncomputable def elT(P:Program)(t:TypeId):Option TypeId:=match P.underlying t with
 | some (.slice e)=>some e
 | _=>none
noncomputable def jK:List T→Nat→List T
 | [],_=>[]
 | x::l,n=>match n with
  | 0=>x::l
  | n+1=>jK l n
noncomputable def jT:Nat→List T→Option (List T)
 | 0,_=>some []
 | _+1,[]=>none
 | n+1,x::l=>match jT n l with
  | some r=>some (x::r)
  | none=>none
noncomputable def cellsOf:T→List T
 | .ag cs=>cs
 | t=>[t]
noncomputable def nZ:TO→Option (List T)
 | .row cs _=>some cs
 | .gro cs _=>some cs.list
 | .fz cs=>some cs
 | _=>none
noncomputable def rH:TO→Option (List T)
 | .row cs _=>some cs
 | .gro cs _=>some cs.list
 | _=>none
noncomputable def bG(H:List TO):T→Option (List T)
 | .op i o=>(match nZ (nth .gone H i)with | some cs=>some (jK cs o) | none=>none)
 | .fp cs=>some cs
 | _=>none
noncomputable def mkT(g:Bool)(cs:List T):T:=bif g then .ag cs else(match cs with | x::_=>x | []=> .u)
noncomputable def sV:T→Option Nat
 | .v (.int _ (.ofNat i))=>some i
 | _=>none
noncomputable def jV(cs:List T)(o:Nat):List T→List T
 | []=>cs
 | x::l=>jV (put x cs o) (o+1) l
noncomputable def isU:T→Bool
 | .u=>true
 | _=>false
noncomputable def one:T→Bool
 | .u | .ag _ | .tu _=>false
 | _=>true
noncomputable def vC:List T→Bool
 | []=>true
 | t::l=>one t&&vC l
noncomputable def zEg(sz:Nat→Option (Nat×Nat))(cs:List T):List (Nat×T)→Option (List T)
 | []=>some cs
 | (i,t)::l=>match sz i with
  | none=>none
  | some (o,s)=>bif !isU t&&(Nat.beq (ln (cellsOf t)) s&&Nat.ble (o+s) (ln cs))then zEg sz (jV cs o (cellsOf t)) l else none
noncomputable def reps(z:List T):Nat→List T
 | 0=>[]
 | n+1=>z++reps z n
noncomputable def evP(ρ:Operand→T)(parts:Array (Nat×Operand)):List (Nat×T):=parts.toList.map fun p=>(p.1,ρ p.2)
noncomputable def pW(x:T)(lo hi:Nat)(sz:Nat):Option T:=match x with
 | .sl cs n=>bif Nat.ble lo hi&&Nat.ble hi n then some (bif Nat.beq lo hi then .sl [] 0 else .sl (jK cs (lo*sz)) (hi-lo))else none
 | .os i o n c=>bif Nat.ble lo hi&&Nat.ble hi c then(bif Nat.beq lo c then some (.os i o (hi-lo) (c-lo))else some (.os i (o+lo*sz) (hi-lo) (c-lo)))else none
 | .og i o n=>bif Nat.ble lo hi&&(Nat.ble hi n&&(Nat.blt lo n&&Nat.blt 0 sz))then some (.og i (o+lo*sz) (hi-lo))else(bif Nat.beq lo 0&&Nat.beq hi 0 then some (.og i o 0)else(bif Nat.beq lo hi&&Nat.ble hi n then some (.sl [] 0)else none))
 | .st cs n=>bif Nat.ble lo hi&&Nat.beq hi n then some (bif Nat.beq lo hi then .st [] 0 else .st (jK cs (lo*sz)) (hi-lo))else none
 | .v (.slice none 0 0)=>bif Nat.beq hi 0&&Nat.beq lo 0 then some x else none
 | .ls g A l=>bif Nat.beq sz A.size&&(Nat.ble lo hi&&Nat.ble hi l.length)then some (.ls g A ((l.drop lo).take (hi-lo)))else none
 | _=>none
noncomputable def lI(x:T)(lo hi mx:Nat)(sz:Nat):Option T:=match x with
 | .os i o n c=>bif Nat.ble lo hi&&(Nat.ble hi mx&&Nat.ble mx c)then some (.os i (bif Nat.beq lo mx then o else o+lo*sz) (hi-lo) (mx-lo))else none
 | .og i o n=>bif Nat.ble lo hi&&(Nat.ble hi mx&&Nat.ble mx n)then some (.os i (bif Nat.beq lo mx then o else o+lo*sz) (hi-lo) (mx-lo))else none
 | .sl cs n=>bif Nat.ble lo hi&&(Nat.beq hi mx&&Nat.ble mx n)then some (bif Nat.beq lo hi then .st [] 0 else .st (jK cs (lo*sz)) (hi-lo))else none
 | .st cs n=>bif Nat.ble lo hi&&(Nat.beq hi mx&&Nat.ble mx n)then some (bif Nat.beq lo hi then .st [] 0 else .st (jK cs (lo*sz)) (hi-lo))else none
 | .v (.slice none 0 0)=>bif Nat.beq hi 0&&(Nat.beq lo 0&&Nat.beq mx 0)then some x else none
 | .ls _ _ l=>bif(Nat.beq lo hi&&Nat.beq hi mx)&&Nat.ble mx l.length then some (.st [] 0)else none
 | _=>none
noncomputable def jJ:T→Option Nat
 | .sl _ n=>some n
 | .sn _ n=>some n
 | .st _ n=>some n
 | .os _ _ n _=>some n
 | .og _ _ n=>some n
 | .v (.slice none 0 0)=>some 0
 | .ls _ _ l=>some l.length
 | .hv _ l=>some l.length
 | _=>none
noncomputable def qI(H:List TO)(sz:Nat):T→Option (List T)
 | .sl cs n=>jT (n*sz) cs
 | .sn cs n=>jT (n*sz) cs
 | .st cs n=>jT (n*sz) cs
 | .os i o n _=>(match nZ (nth .gone H i)with | some cs=>jT (n*sz) (jK cs o) | none=>none)
 | .og i o n=>(match nZ (nth .gone H i)with | some cs=>jT (n*sz) (jK cs o) | none=>none)
 | .v (.slice none 0 0)=>some []
 | .ls g A l=>bif Nat.beq sz A.size then some (yA g A l)else none
 | _=>none
abbrev R1:=Option (T×Option TO)
noncomputable def zGx(P:Program)(op:BinOp)(t:TypeId):R1:=match elT P t with
 | some _=>(match op with
  | .eql=>some (.v (.bool false),none)
  | .neq=>some (.v (.bool true),none)
  | _=>none)
 | none=>none
noncomputable def val(t:T):R1:=some (t,none)
noncomputable def zZk:Option T→R1
 | some t=>some (t,none)
 | none=>none
noncomputable def zKg(c a b:T):R1:=match c with
 | .v (.bool c)=>val (bif c then a else b)
 | _=>none
noncomputable def zTe(P:Program)(k:Nat)(e:TypeId):R1:=match zer P e with
 | some cs=>some (.op k 0,some (.row cs e))
 | none=>none
noncomputable def qYy(k:Nat)(e:TypeId)(x:T):R1:=bif isU x then none else some (.op k 0,some (.row (cellsOf x) e))
noncomputable def zTi(P:Program):List Field→Option (List (Nat×Nat))
 | []=>some []
 | f::l=>match ldT P f.type,zTi P l with
  | some (_,s),some r=>some ((f.offset,s)::r)
  | _,_=>none
noncomputable def qGf(P:Program)(t:TypeId):Option (Nat→Option (Nat×Nat)):=match P.underlying t with
 | some (.struct fs)=>(match zTi P fs.toList with
  | some l=>some fun i=>l[i]?
  | none=>none)
 | some (.array _ e)=>(match ldT P e with
  | some (_,s)=>some fun i=>some (i*s,s)
  | none=>none)
 | _=>none
noncomputable def zTf(P:Program)(t:TypeId)(ps:List (Nat×T)):R1:=match zer P t,qGf P t with
 | some z,some f=>(match zEg f z ps with | some cs=>val (.ag cs) | none=>none)
 | _,_=>none
noncomputable def gZ(P:Program)(k:Nat)(t:TypeId)(n:Nat)(ps:List (Nat×T)):R1:=match elT P t with
 | some e=>(match zer P e,ldT P e with
  | some z,some (_,s)=>bif Nat.ble (n*s) 16777216&&(Nat.beq (ln z) s&&Nat.blt 0 s)then(match zEg (fun i=>some (i*s,s)) (reps z n) ps with | some cs=>some (.os k 0 n n,some (.row cs e)) | none=>none)else none
  | _,_=>none)
 | none=>none
noncomputable def zBr(P:Program)(H:List TO)(t:TypeId)(a:T):R1:=match ldT P t with
 | some (g,s)=>(match bG H a with
  | some cs=>(match jT s cs with | some cs=>bif g||Nat.beq s 1 then val (mkT g cs)else none | none=>none)
  | none=>none)
 | none=>none
noncomputable def qLv(x:T):R1:=match x with
 | .op i o=>val (.op i o)
 | .fp cs=>val (.fp cs)
 | .fn f cs=>val (.fn f cs)
 | .yl i=>val (.yl i)
 | _=>none
noncomputable def qDi(P:Program)(k:IntKind)(o:Nat)(f:Field):Bool:=match P.underlying f.type with
 | some (.int k')=>Nat.beq (kind k) (kind k')&&(Nat.beq f.offset o&&!(f.name== "_"))
 | _=>false
noncomputable def wJ(P:Program)(t:TypeId):Ty→Bool
 | .int k=>(match P.underlying t with | some (.int k')=>Nat.beq (kind k) (kind k') | _=>false)
 | .str=>(match P.underlying t with | some .string=>true | _=>false)
 | .prod (.int i) (.prod (.int j) (.int k))=>(match P.underlying t with
  | some (.struct ⟨[f0,f1,f2]⟩)=>!P.stoodInHeld t&&(qDi P i 0 f0&&(qDi P j 1 f1&&qDi P k 2 f2))
  | _=>false)
 | _=>false
noncomputable def eq3(P:Program)(op:BinOp)(t:TypeId)(xs ys:List T):R1:=match xs,ys with
 | [.v (.int i a),.v (.int j b),.v (.int k c)],[.v (.int i' a'),.v (.int j' b'),.v (.int k' c')]=>bif wJ P t (.prod (.int i) (.prod (.int j) (.int k)))&&(!P.eqGuardType P.depth t&&(Nat.beq (kind i) (kind i')&&(Nat.beq (kind j) (kind j')&&Nat.beq (kind k) (kind k'))))then(match op with
  | .eql=>val (.v (.bool (ieq a a'&&(ieq b b'&&ieq c c'))))
  | .neq=>val (.v (.bool (!(ieq a a'&&(ieq b b'&&ieq c c')))))
  | _=>none)else none
 | _,_=>none
noncomputable def zYw(P:Program)(op:BinOp)(t:TypeId)(x y:T):R1:=match x,y with
 | .v a,.v b=>(match bin op a b with | some c=>val (.v c) | none=>none)
 | .os ..,.v (.slice none 0 0)=>zGx P op t
 | .og ..,.v (.slice none 0 0)=>zGx P op t
 | .sl (_::_) _,.v (.slice none 0 0)=>zGx P op t
 | .st (_::_) _,.v (.slice none 0 0)=>zGx P op t
 | .ag xs,.ag ys=>eq3 P op t xs ys
 | _,_=>none
noncomputable def qFy(P:Program)(k:Nat)(t:TypeId)(l c:T):R1:=match elT P t,sV l,sV c with
 | some e,some l,some c=>(match zer P e,ldT P e,P.info? e with
  | some z,some (_,s),some i=>bif(Nat.ble l c&&Nat.ble c 1000000)&&(Nat.ble i.bytes 1000000&&(Nat.beq (ln z) s&&Nat.blt 0 s))then some (.os k 0 l c,some (.row (reps z c) e))else none
  | _,_,_=>none)
 | _,_,_=>none
noncomputable def opt(ρ:Operand→T)(d:Nat):Option Operand→Option Nat
 | some x=>sV (ρ x)
 | none=>some d
noncomputable def wU(ρ:Operand→T)(x:T)(s lo hi:Nat)(hio:Option Operand):Option Operand→R1
 | none=>zZk (pW x lo hi s)
 | some m=>(match hio with
  | some _=>(match sV (ρ m)with
   | some m=>zZk (lI x lo hi m s)
   | none=>none)
  | none=>none)
noncomputable def pQ(P:Program)(t:TypeId)(x:T)(ρ:Operand→T)(lo hi mx:Option Operand):R1:=match elT P t with
 | some e=>(match ldT P e,jJ x with
  | some (_,s),some n=>(match opt ρ 0 lo,opt ρ n hi with
   | some l,some h=>wU ρ x s l h hi mx
   | _,_=>none)
  | _,_=>none)
 | none=>none
noncomputable def lD(P:Program)(s:TypeId)(x:T)(f:Nat):R1:=match zXw P s f with
 | some (o,t)=>(match ldT P t with
  | some (_,z)=>bif Nat.beq z 0 then none else(match x with
   | .op i j=>val (.op i (j+o))
   | .fp cs=>val (.fp (jK cs o))
   | _=>none)
  | none=>none)
 | none=>none
noncomputable def zMq(P:Program)(s:TypeId)(x:T)(f:Nat):R1:=match zXw P s f with
 | some (o,t)=>(match x with
  | .ag cs=>(match ldT P t with
   | some (g,s)=>(match jT s (jK cs o)with | some cs=>bif g||Nat.beq s 1 then val (mkT g cs)else none | none=>none)
   | none=>none)
  | _=>none)
 | none=>none
noncomputable def tL(P:Program)(t:TypeId)(x i:T):R1:=match sV i with
 | some i=>(match P.underlying t with
  | some (.slice e)=>(match ldT P e with
   | some (_,s)=>(match x with
    | .sl cs n=>bif Nat.blt i n then val (.fp (jK cs (i*s)))else none
    | .st cs n=>bif Nat.blt i n then val (.fp (jK cs (i*s)))else none
    | .os j o n _=>bif Nat.blt i n then val (.op j (o+i*s))else none
    | .og j o n=>bif Nat.blt i n then val (.op j (o+i*s))else none
    | .ls g A l=>bif Nat.beq s A.size&&Nat.blt i l.length then val (.fp (qF g A (nth A.zero l i)))else none
    | .hv A l=>bif Nat.beq s A.size&&Nat.blt i l.length then val (.fp (zCm A (nth A.zero l i)))else none
    | _=>none)
   | none=>none)
  | some (.array n e)=>(match ldT P e with
   | some (_,s)=>(match x with
    | .op j o=>bif Nat.blt i n then val (.op j (o+i*s))else none
    | .fp cs=>bif Nat.blt i n then val (.fp (jK cs (i*s)))else none
    | _=>none)
   | none=>none)
  | _=>none)
 | none=>none
noncomputable def qLs(P:Program)(t:TypeId)(x i:T):R1:=match sV i with
 | some i=>(match P.underlying t with
  | some (.array n e)=>(match ldT P e with
   | some (g,s)=>(match x with
    | .ag cs=>bif Nat.blt i n&&(g||Nat.beq s 1)then(match jT s (jK cs (i*s))with | some cs=>val (mkT g cs) | none=>none)else none
    | _=>none)
   | none=>none)
  | _=>none)
 | none=>none
noncomputable def zBq(x:T)(i:Nat):R1:=match x with
 | .tu vs=>(match vs[i]? with | some t=>val t | none=>none)
 | _=>none
noncomputable def qYz(x:T):R1:=match jJ x with
 | some n=>val (.v (.int .i64 (.ofNat n)))
 | none=>none
noncomputable def pMkF(fn:Fn)(first cs:List T):R1:=match fn,first with
 | .func f,[]=>val (.fn f cs)
 | .func f,bs=>(match cs with | []=>val (.fb f bs) | _=>none)
 | _,_=>none
noncomputable def zIt{α:Type}(P:Program):Sem α→Option α
 | .pure a=>some a
 | .program k=>zIt P (k P)
 | _=>none
noncomputable def vOf:T→Option Value
 | .v x=>some x
 | _=>none
noncomputable def zTx:List T→Option (List Value)
 | []=>some []
 | t::l=>match vOf t,zTx l with
  | some x,some r=>some (x::r)
  | _,_=>none
noncomputable def sOf:T→Option Value
 | .v x=>some x
 | .ag cs=>(match zTx cs with | some l=>some (.agg l.toArray) | none=>none)
 | _=>none
noncomputable def zLy(d:TypeDesc)(k:Value):List (Value×T)→Nat→Option (Option Nat)
 | [],_=>some none
 | e::es,i=>match Instr.sameNow d k e.1 with
  | some true=>some (some i)
  | some false=>zLy d k es (i+1)
  | none=>none
noncomputable def qDn(P:Program)(t:TypeId)(k:Value):List (Value×T)→Nat→Option (Option Nat)
 | [],_=>some none
 | e::es,i=>match zIt P (Op.equal t k e.1)with
  | some true=>some (some i)
  | some false=>qDn P t k es (i+1)
  | none=>none
noncomputable def zJo(P:Program)(t:TypeId)(k:Value)(l:List (Value×T)):Option (Option Nat):=match P.underlying t with
 | some d=>(match zLy d k l 0 with
  | some r=>some r
  | none=>qDn P t k l 0)
 | none=>none
noncomputable def kOk(P:Program)(e:Bool)(t:TypeId)(k:Value):Bool:=match zIt P (Instr.checkKey e 10000 t k)with
 | some _=>true
 | none=>false
noncomputable def emp{α:Type}:List α→Bool
 | []=>true
 | _=>false
noncomputable def zGr(P:Program)(t:TypeId):Option (TypeId×TypeId):=match P.underlying t with
 | some (.map k v)=>some (k,v)
 | _=>none
noncomputable def qNb(P:Program)(e:TypeId):Option T:=match P.info? e with
 | some i=>(match i.zero with | some v=>some (ofC v) | none=>none)
 | none=>none
noncomputable def zJf(H:List TO):T→Option (List (Value×T))
 | .v (.map none)=>some []
 | .om i=>(match nth .gone H i with
  | .map l=>some l
  | _=>none)
 | _=>none
noncomputable def okT(ok:Bool)(t:T)(b:Bool):T:=bif ok then .tu [t,.v (.bool b)]else t
noncomputable def qYc(l:List (Value×T))(i:Nat):Option T:=match l[i]? with
 | some e=>some e.2
 | none=>none
noncomputable def zLd:(A:Ty)→A.den→List Value
 | .int k,a=>[.int k a]
 | .str,s=>[.string s]
 | .prod A B,x=>zLd A x.1++zLd B x.2
 | _,_=>[]
noncomputable def xS:(K:Ty)→K.den→Value
 | .int k,a=> .int k a
 | .str,s=> .string s
 | .prod A B,x=> .agg (zLd (.prod A B) x).toArray
 | _,_=> .nilIface
noncomputable def unT(g:Tg)(V:Ty)(x:V.den):T:=match qF g V x with
 | [t]=>t
 | l=> .ag l
noncomputable def MD.ents(d:MD):List (Value×T):=d.l.map fun e=>(xS d.K e.1,unT d.g d.V e.2)
noncomputable def keq:(K:Ty)→K.den→K.den→Bool
 | .int _,a,b=>ieq a b
 | .str,a,b=>decide (a=b)
 | .prod A B,a,b=>keq A a.1 b.1&&keq B a.2 b.2
 | _,_,_=>false
noncomputable def zSm(K:Ty){α:Type}(k:K.den):List (K.den×α)→Bool
 | []=>false
 | e::l=>keq K k e.1||zSm K k l
noncomputable def tV(K:Ty){α:Type}(z:α)(k:K.den):List (K.den×α)→α
 | []=>z
 | e::l=>bif keq K k e.1 then e.2 else tV K z k l
noncomputable def lT(K:Ty){α:Type}(k:K.den)(x:α):List (K.den×α)→List (K.den×α)
 | []=>[(k,x)]
 | e::l=>bif keq K k e.1 then(k,x)::l else e::lT K k x l
noncomputable def zIz(g:Tg)(A:Ty):T→Option A.den
 | .ag cs=>bif Nat.blt 1 A.size then nM g A cs else none
 | t=>bif Nat.beq A.size 1 then nM g A [t]else none
noncomputable def dOf(H:List TO):T→Option MD
 | .om i=>(match nth .gone H i with
  | .mapd d=>some d
  | _=>none)
 | _=>none
noncomputable def lkD(P:Program)(kt vt:TypeId)(d:MD)(k:T)(ok:Bool):R1:=match zIz .a d.K k,qNb P vt with
 | some key,some z=>(match zIz d.g d.V z with
  | some z0=>bif wJ P kt d.K then val (okT ok (unT d.g d.V (tV d.K z0 key d.l)) (zSm d.K key d.l))else none
  | none=>none)
 | _,_=>none
noncomputable def zHk(P:Program)(H:List TO)(t:TypeId)(m k:T)(ok:Bool):R1:=match zGr P t,zJf H m,sOf k with
 | some (kt,vt),some l,some kv=>bif kOk P (emp l) kt kv then(match zJo P kt kv l with
  | some (some i)=>(match qYc l i with | some x=>val (okT ok x true) | none=>none)
  | some none=>(match qNb P vt with | some z=>val (okT ok z false) | none=>none)
  | none=>none)else none
 | _,_,_=>none
noncomputable def zMr(P:Program)(H:List TO)(t:TypeId)(m k:T)(ok:Bool):R1:=match dOf H m with
 | some d=>(match zGr P t with
  | some (kt,vt)=>lkD P kt vt d k ok
  | none=>none)
 | none=>zHk P H t m k ok
noncomputable def qFv(H:List TO)(m:T):R1:=match dOf H m with
 | some d=>val (.v (.int .i64 (.ofNat d.l.length)))
 | none=>(match zJf H m with
  | some l=>val (.v (.int .i64 (.ofNat (ln l))))
  | none=>none)
noncomputable def mnT(f:Bool):T→T→R1
 | .v (.int k a),.v (.int _ b)=>val (.v (.int k (bif bif f then ilt b a else ilt a b then b else a)))
 | _,_=>none
noncomputable def lS(P:Program)(H:List TO)(ρ:Operand→T)(c:Call):R1:=match c.callee,c.args.toList,c.argTypes.toList with
 | .builtin .min,[x,y],[_,_]=>mnT true (ρ x) (ρ y)
 | .builtin .max,[x,y],[_,_]=>mnT false (ρ x) (ρ y)
 | .builtin .len,[x],[t]=>(match elT P t with
  | some _=>qYz (ρ x)
  | none=>(match zGr P t with
   | some _=>qFv H (ρ x)
   | none=>none))
 | _,_,_=>none
noncomputable def xB(P:Program)(H:List TO)(k:Nat)(ρ:Operand→T)(op:Op):R1:=match op with
 | .move x=>val (ρ x)
 | .assign x=>val (ρ x)
 | .pick c a b=>zKg (ρ c) (ρ a) (ρ b)
 | .alloc e=>zTe P k e
 | .box e x=>qYy k e (ρ x)
 | .build t parts=>zTf P t (evP ρ parts)
 | .buildSlice t n parts=>gZ P k t n (evP ρ parts)
 | .load t a=>zBr P H t (ρ a)
 | .nilCheck x=>qLv (ρ x)
 | .binOp op t x y _=>zYw P op t (dn (ρ x)) (dn (ρ y))
 | .makeFunc fn first caps=>pMkF fn (first.toList.map ρ) (caps.toList.map ρ)
 | .makeSlice t l c=>qFy P k t (ρ l) (ρ c)
 | .slice t x lo hi mx=>pQ P t (dn (ρ x)) (fun y=>dn (ρ y)) lo hi mx
 | .fieldAddr s x f=>lD P s (ρ x) f
 | .field s x f=>zMq P s (ρ x) f
 | .indexAddr t x i=>tL P t (dn (ρ x)) (dn (ρ i))
 | .index t x i=>qLs P t (dn (ρ x)) (dn (ρ i))
 | .extract x i=>zBq (ρ x) i
 | .call c=>lS P H (fun y=>dn (ρ y)) c
 | .makeMap _ none=>some (.om k,some (.map []))
 | .lookup t m x ok=>zMr P H t (ρ m) (ρ x) ok
 | _=>none
noncomputable def zZd(H:List TO)(i o:Nat)(vs:List T):Option (List TO):=match nth .gone H i with
 | .row cs e=>bif Nat.ble (o+ln vs) (ln cs)then some (put (.row (jV cs o vs) e) H i)else none
 | .gro cs e=>bif Nat.ble (o+ln vs) (ln cs.list)then some (put (.gro (.l (jV cs.list o vs)) e) H i)else none
 | _=>none
noncomputable def qQm(H:List TO)(e:TypeId)(y:T)(a b:List T)(n m:Nat):T×List TO:=(.og (ln H) 0 (n+m),H++[.gro ((Cs.l a).apY y b) e])
noncomputable def qIf(H:List TO)(x:T):Option (T×List TO):=match x with
 | .v _=>some (x,H)
 | .og .. =>some (x,H)
 | .os _ _ n c=>bif Nat.ble n c then some (x,H)else none
 | .st .. =>some (x,H)
 | _=>none
noncomputable def qQl(H:List TO)(e:TypeId)(s:Nat)(y:T)(a b:List T)(i o n m:Nat):TO→Option (T×List TO)
 | .gro cs e'=>bif Nat.beq o 0&&(Nat.beq (ln cs.list) (n*s)&&Nat.beq e e')then some (.og (ln H) 0 (n+m),put .gone H i++[.gro (cs.apY y b) e])else none
 | _=>none
noncomputable def qIh(H:List TO)(e:TypeId)(s:Nat)(y:T)(a b:List T)(n m:Nat)(x:T):Option (T×List TO):=match x with
 | .v _=>some (qQm H e y a b n m)
 | .st .. =>some (qQm H e y a b n m)
 | .os _ _ n' c=>bif Nat.beq n' c then some (qQm H e y a b n m)else none
 | .og i o n=>qQl H e s y a b i o n m (nth .gone H i)
 | _=>none
noncomputable def apM(b:Nat):Nat:=(281474976710656 / b-192)*4 / 5
noncomputable def aW(P:Program)(e:TypeId)(s N:Nat):Bool:=match P.info? e,zer P e with
 | some i,some z=>Nat.beq (ln z) s&&(Nat.ble N (apM i.bytes)&&Nat.blt 0 s)
 | _,_=>false
noncomputable def zRs(P:Program)(H:List TO)(t:TypeId)(x y:T):Option (T×List TO):=match elT P t with
 | none=>none
 | some e=>match ldT P e with
  | none=>none
  | some (_,s)=>match qI H s x,qI H s y,jJ x,jJ y with
   | some a,some b,some n,some m=>bif Nat.beq m 0 then qIf H x else bif aW P e s (n+m)&&vC b then qIh H e s y a b n m x else none
   | _,_,_,_=>none
noncomputable def qMp(P:Program)(H:List TO)(t:TypeId)(a x:T):Option (List TO):=match ldT P t,a with
 | some (_,m),.op i o=>bif vC (cellsOf x)&&Nat.beq (ln (cellsOf x)) m then zZd H i o (cellsOf x)else none
 | _,_=>none
noncomputable def jAu(P:Program)(kt:TypeId)(kv:Value)(x:T)(l:List (Value×T)):Option (List (Value×T)):=bif kOk P false kt kv then(match zJo P kt kv l with
 | some (some i)=>(match l[i]? with
  | some e=>bif Instr.sameBits 10000 e.1 kv then some (put (kv,x) l i)else none
  | none=>none)
 | some none=>some (l++[(kv,x)])
 | none=>none)else none
noncomputable def jAt(P:Program)(kt:TypeId)(d:MD)(k x:T):Option MD:=match zIz .a d.K k,zIz d.g d.V x with
 | some key,some y=>bif wJ P kt d.K then some ⟨d.g,d.K,d.V,lT d.K key y d.l⟩else none
 | _,_=>none
noncomputable def qMw(P:Program)(H:List TO)(t:TypeId)(m k x:T):Option (List TO):=match m with
 | .om i=>(match nth .gone H i with
  | .map l=>(match zGr P t,sOf k with
   | some (kt,_),some kv=>(match jAu P kt kv x l with
    | some l=>some (put (.map l) H i)
    | none=>none)
   | _,_=>none)
  | .mapd d=>(match zGr P t with
   | some (kt,_)=>(match jAt P kt d k x with
    | some d=>some (put (.mapd d) H i)
    | none=>none)
   | none=>none)
  | _=>none)
 | _=>none
noncomputable def qIw(P:Program)(H:List TO)(t:TypeId)(x y:T):Option (T×List TO):=match x with
 | .os i o n _=>(match elT P t with
  | some e=>(match ldT P e with
   | some (_,s)=>(match qI H s y,jJ y with
    | some b,some m=>(match jT (Nat.min m n*s) b with
     | some us=>bif vC us&&Nat.blt 0 (Nat.min m n*s)then(match zZd H i o us with | some H'=>some (.v (.int .i64 (.ofNat (Nat.min m n))),H') | none=>none)else none
     | none=>none)
    | _,_=>none)
   | none=>none)
  | none=>none)
 | _=>none
noncomputable def zAg(P:Program)(H:List TO)(ρ:Operand→T)(op:Op):Option (Option T×List TO):=match op with
 | .store t a x=>(match qMp P H t (ρ a) (ρ x)with | some H=>some (none,H) | none=>none)
 | .mapUpdate t m k x=>(match qMw P H t (ρ m) (ρ k) (ρ x)with | some H=>some (none,H) | none=>none)
 | .call c=>(match c.callee,c.args.toList,c.argTypes.toList with
  | .builtin .append,[x,y],[t,t']=>bif Nat.beq t t' then(match zRs P H t (ρ x) (ρ y)with | some (v,H)=>some (some v,H) | none=>none)else none
  | .builtin .copy,[x,y],[t,_]=>(match qIw P H t (ρ x) (ρ y)with | some (v,H)=>some (some v,H) | none=>none)
  | _,_,_=>none)
 | _=>none
noncomputable def zQw(ρ:Operand→T):List Operand→Bool
 | []=>true
 | x::l=>(match sOf (ρ x)with | some _=>zQw ρ l | none=>false)
noncomputable def sAt(ρ:Operand→T)(x:Operand):Value:=match sOf (ρ x)with
 | some v=>v
 | none=>undef
noncomputable def qEj:Option Next→Option T
 | some (.value v)=>some (ofC v)
 | _=>none
noncomputable def zBl(P:Program)(ρ:Operand→T)(o:Oper):Option T:=bif zPr o.op&&zQw ρ o.op.operands.toList then qEj (zIt P (execOp (sAt ρ) o))else none
noncomputable def kT(ops:Array Oper)(L:List T)(o:Oper):Option Bool:=match o.guard with
 | none=>some true
 | some (j,b)=>match(match ops[j]? with | some p=>p.dst | none=>none)with
  | some t=>(match nth .u L t with
   | .v (.bool c)=>some (zXk c b)
   | .v (.int .u8 _)=>none
   | .tu []=>some false
   | _=>none)
  | none=>none
noncomputable def dst(d:Option Nat)(t:T)(L:List T):List T:=match d with
 | some d=>put t L d
 | none=>L
abbrev Cl:=Nat→List T→List TO→Option (T×List TO)
abbrev Po:=Nat→List T→Option (T×Bool)
abbrev Oo:=List TO→Nat→List T→Option T
abbrev Rn:=Code→S→Option (Ex×S)
noncomputable def zOt(d:Option Nat)(L:List T)(H:List TO)(r:T×Option TO):Option S:=match r.2 with
 | none=>some ⟨dst d r.1 L,H⟩
 | some ob=>some ⟨dst d r.1 L,H++[ob]⟩
noncomputable def zOu(d:Option Nat)(L:List T)(r:Option T×List TO):Option S:=match r.1 with
 | some t=>some ⟨dst d t L,r.2⟩
 | none=>(match d with
  | none=>some ⟨L,r.2⟩
  | some _=>none)
noncomputable def zAi(d:Option Nat)(L:List T):Option (T×List TO)→Option S
 | some (t,H)=>some ⟨dst d t L,H⟩
 | none=>none
noncomputable def jO(P:Program)(f:Nat):Bool:=match P.funcs[f]? with
 | some fn=>bif fn.name== "runtime.NumGoroutine" then false else fn.body.isSome
 | none=>false
noncomputable def zEe(P:Program)(cl yd:Cl)(d:Option Nat)(L:List T)(H:List TO)(az:List T):T→Option S
 | .fn f cs=>bif jO P f then zAi d L (cl f (az++cs) H)else none
 | .fb f bs=>bif jO P f then zAi d L (cl f (bs++az) H)else none
 | .yl l=>zAi d L (yd l az H)
 | _=>none
noncomputable def opC(P:Program)(cl yd:Cl)(d:Option Nat)(L:List T)(H:List TO):Op→Option S
 | .call c=>(match c.callee with
  | .value f=>zEe P cl yd d L H (c.args.toList.map (evO L)) (evO L f)
  | _=>none)
 | _=>none
noncomputable def qEz(P:Program)(o:Oper)(L:List T)(H:List TO):Option S:=match zBl P (evO L) o with
 | some t=>some ⟨dst o.dst t L,H⟩
 | none=>none
noncomputable def zPx(P:Program)(cl yd:Cl)(o:Oper)(L:List T)(H:List TO):Option S:=match zAg P H (evO L) o.op with
 | some r=>zOu o.dst L r
 | none=>match opC P cl yd o.dst L H o.op with
  | some s=>some s
  | none=>qEz P o L H
noncomputable def gT(P:Program)(cl yd:Cl)(o:Oper)(L:List T)(H:List TO):Option S:=match xB P H (ln H) (evO L) o.op with
 | some r=>zOt o.dst L H r
 | none=>zPx P cl yd o L H
noncomputable def opE(P:Program)(cl yd:Cl)(ops:Array Oper)(o:Oper)(s:S):Option S:=match kT ops s.L o with
 | none=>none
 | some false=>some ⟨dst o.dst (.tu []) s.L,s.H⟩
 | some true=>gT P cl yd o s.L s.H
noncomputable def zQb(P:Program)(cl yd:Cl)(ops:Array Oper):List Oper→S→Option S
 | [],s=>some s
 | o::l,s=>match opE P cl yd ops o s with
  | some s=>zQb P cl yd ops l s
  | none=>none
noncomputable def kK:Op→Bool
 | .defer _=>false
 | _=>true
noncomputable def qZc(L:List T):Op→Option T
 | .panic x=>(match evO L x with
  | .v (.iface t (.int k n))=>some (.v (.iface t (.int k n)))
  | _=>none)
 | _=>none
noncomputable def qQx(P:Program)(pc:Cl)(s:S):Op→Option (T×List TO)
 | .call c=>(match c.callee with
  | .value f=>(match evO s.L f with
   | .fn f cs=>bif jO P f then pc f (c.args.toList.map (evO s.L)++cs) s.H else none
   | .fb f bs=>bif jO P f then pc f (bs++c.args.toList.map (evO s.L)) s.H else none
   | _=>none)
  | _=>none)
 | _=>none
noncomputable def qSz(L:List T):Option (T×List TO)→Option (Ex×S)
 | some (t,H)=>some (.p t,⟨L,H⟩)
 | none=>none
noncomputable def opP(P:Program)(pc:Cl)(ops:Array Oper)(o:Oper)(s:S):Option (Ex×S):=match kT ops s.L o with
 | some true=>(match qZc s.L o.op with
  | some t=>some (.p t,s)
  | none=>qSz s.L (qQx P pc s o.op))
 | _=>none
noncomputable def qFk(P:Program)(cl yd pc:Cl)(ops:Array Oper):List Oper→S→Option (Ex×S)
 | [],s=>some (.n,s)
 | o::l,s=>match opE P cl yd ops o s with
  | some s=>qFk P cl yd pc ops l s
  | none=>opP P pc ops o s
noncomputable def zYq(P:Program)(cl yd:Cl)(ops:Array Oper):List Oper→S→Option (T×S)
 | [],_=>none
 | o::l,s=>bif kK o.op then(match opE P cl yd ops o s with
  | some s=>zYq P cl yd ops l s
  | none=>none)else(match l,o.op,o.guard,o.dst with
   | [],.defer c,none,none=>(match c.callee,c.args.toList with
    | .value f,[]=>(match evO s.L f with
     | .fn f cs=>bif jO P f then some (.fn f cs,s)else none
     | _=>none)
    | _,_=>none)
   | _,_,_,_=>none)
noncomputable def qMf(P:Program)(H:List TO)(x:T)(e:TypeId):Option T:=match ldT P e with
 | some (g,s)=>(match bG H x with
  | some cs=>(match jT s cs with
   | some cs=>bif g||Nat.beq s 1 then some (mkT g cs)else none
   | none=>none)
  | none=>none)
 | none=>none
noncomputable def fB(P:Program)(L:List T)(H:List TO):List ResultVar→Option (List T)
 | []=>some []
 | .tmp t::l=>(match fB P L H l with | some r=>some (nth .u L t::r) | none=>none)
 | .cell t e::l=>(match qMf P H (nth .u L t) e,fB P L H l with
  | some x,some r=>some (x::r)
  | _,_=>none)
noncomputable def zQg:List T→T
 | [t]=>t
 | l=> .tu l
noncomputable def us:Nat→List T
 | 0=>[]
 | n+1=> .u::us n
noncomputable def rest(n:Nat)(az:List T):List T:=az++us (n-ln az)
noncomputable def zHs:List T→List Nat→List T→List T
 | L,p::ps,a::az=>zHs (put a L p) ps az
 | L,_,_=>L
noncomputable def zQr(P:Program)(fn:Func):Option (Ex×S)→Option (T×List TO)
 | some (.x _,_)=>none
 | some (.p _,_)=>none
 | some (_,s)=>(match fB P s.L s.H fn.results.toList with
  | some r=>some (zQg r,s.H)
  | none=>none)
 | none=>none
noncomputable def clean:Nat→T→Bool
 | 0,_=>false
 | k+1,t=>match t with
  | .v _=>true
  | .ls g _ _=>g.isA
  | .sl cs _=>cs.all (clean k)
  | .st cs _=>cs.all (clean k)
  | .fp cs=>cs.all (clean k)
  | .ag cs=>cs.all (clean k)
  | .tu cs=>cs.all (clean k)
  | .fn _ cs=>cs.all (clean k)
  | _=>false
noncomputable def mapO(f:T→Option T):List T→Option (List T)
 | []=>some []
 | t::l=>match f t,mapO f l with
  | some x,some r=>some (x::r)
  | _,_=>none
noncomputable def lQ:Ty→Bool
 | .lim=>false
 | .prod A B=>lQ A&&lQ B
 | _=>true
noncomputable def zSl(nw:Bool)(o n:Nat):TO→Option T
 | .gro (.d g A x) _=>bif(Nat.beq o 0&&(lQ A&&(!nw||g.isN)))&&Nat.beq n x.length then some (.ls .a A x.reverse)else none
 | _=>none
noncomputable def yD(nw:Bool)(H:List TO):Nat→T→Option T
 | 0,_=>none
 | k+1,t=>match t with
  | .v x=>some (.v x)
  | .ls g A l=>bif nw then(bif g.isN then some (.ls .a A l)else none)else some (.ls .a A l)
  | .sl cs n=>bif nw then(match cs,n with | [],0=>some (.sl [] 0) | _,_=>none)else(bif clean 9 (.sl cs n)then some (.sl cs n)else none)
  | .sn cs n=>(match mapO (yD nw H k) cs with | some l=>some (.sl l n) | none=>none)
  | .st cs n=>bif nw then(match cs,n with | [],0=>some (.st [] 0) | _,_=>none)else(bif clean 9 (.st cs n)then some (.st cs n)else none)
  | .fp cs=>bif nw then none else(bif clean 9 (.fp cs)then some (.fp cs)else none)
  | .ag cs=>(match mapO (yD nw H k) cs with | some l=>some (.ag l) | none=>none)
  | .tu cs=>(match mapO (yD nw H k) cs with | some l=>some (.tu l) | none=>none)
  | .fn f cs=>(match mapO (yD nw H k) cs with | some l=>some (.fn f l) | none=>none)
  | .os i o n c=>bif Nat.ble n c&&Nat.ble c 9223372036854775807 then(match rH (nth .gone H i)with
   | some cs=>(match mapO (yD nw H k) (jK cs o)with | some l=>some (.sl l n) | none=>none)
   | none=>none)else none
  | .og i o n=>(match zSl nw o n (nth .gone H i)with
   | some t=>some t
   | none=>(match rH (nth .gone H i)with
    | some cs=>(match mapO (yD nw H k) (jK cs o)with | some l=>some (.sl l n) | none=>none)
    | none=>none))
  | .op i o=>(match rH (nth .gone H i)with
   | some cs=>(match mapO (yD nw H k) (jK cs o)with | some l=>some (.fp l) | none=>none)
   | none=>none)
  | _=>none
noncomputable def qFs:Nat→T→Bool
 | 0,_=>true
 | k+1,t=>match t with
  | .os .. | .og .. | .op .. | .om _ | .yl _=>true
  | .ag cs=>cs.any (qFs k)
  | .tu cs=>cs.any (qFs k)
  | .fn _ cs=>cs.any (qFs k)
  | .fb _ cs=>cs.any (qFs k)
  | _=>false
noncomputable def zYt(l:List T):Bool:=l.any (qFs 6)
noncomputable def poC(po:Po)(H:List TO)(f:Nat)(az:List T):Option T:=bif zYt az then(match mapO (yD false H 12) az with
  | some az2=>(match po f az2 with
   | some (t,true)=>some (mkN 12 t)
   | _=>none)
  | none=>none)
 else(match po f az with
  | some (t,nw)=>some (bif nw then mkN 12 t else t)
  | none=>none)
noncomputable def qSv(l:Nat):Option (Ex×S)→Option (T×List TO)
 | some (e,s)=>(match nth .gone s.H l with
  | .loop L ps a b false none=>(match e with
   | .n=>some (.v (.bool true),put (.loop L ps a b true none) s.H l)
   | .r=>some (.v (.bool false),put (.loop L ps a b false (some .ret)) s.H l)
   | .x id=>some (.v (.bool false),put (.loop L ps a b false (some (.exit id))) s.H l)
   | .p _=>none)
  | _=>none)
 | none=>none
noncomputable def qBb(rn:Rn)(l:Nat)(b0:Code):Option (Ex×S)→Option (T×List TO)
 | some (.n,s)=>(match nth .gone s.H l with
  | .loop L ps a b true none=>qSv l (rn b0 ⟨s.L,put (.loop L ps a b false none) s.H l⟩)
  | _=>none)
 | _=>none
noncomputable def zEa(rn:Rn):Cl:=fun l az H=>match nth .gone H l with
 | .loop L ps a b true none=>bif Nat.beq (ln ps) (ln az)then qBb rn l b (rn a ⟨zHs L ps az,H⟩)else none
 | _=>none
noncomputable def zEv(rn:Rn)(y:Code):Option (Ex×S)→Option (Ex×S)
 | some (.n,s)=>rn y s
 | r=>r
noncomputable def qOe(rn:Rn)(x y:Code)(s:S):T→Option (Ex×S)
 | .v (.bool b)=>rn (bif b then x else y) s
 | _=>none
noncomputable def zXl(id:Nat):Option (Ex×S)→Option (Ex×S)
 | some (.x j,s)=>some (bif Nat.beq j id then .n else .x j,s)
 | r=>r
noncomputable def qMe:Option S→Option (Ex×S)
 | some s=>some (.n,s)
 | none=>none
noncomputable def qJd(l:Nat)(L:List T):Option (T×List TO)→Option (Ex×S)
 | some (_,H)=>(match nth .gone H l with
  | .loop _ _ _ _ true none=>some (.n,⟨L,put .gone H l⟩)
  | .loop _ _ _ _ false (some .ret)=>some (.r,⟨L,put .gone H l⟩)
  | .loop _ _ _ _ false (some (.exit id))=>some (.x id,⟨L,put .gone H l⟩)
  | _=>none)
 | none=>none
noncomputable def qMh(P:Program)(cl:Cl)(ps:List Nat)(a b:Code)(L:List T)(H:List TO):T→Option (Ex×S)
 | .fn f cs=>bif jO P f then qJd (ln H) L (cl f (.yl (ln H)::cs) (H++[.loop L ps a b true none]))else none
 | _=>none
noncomputable def noR:Code→Bool
 | .seq x y=>noR x&&noR y
 | .cond _ x y=>noR x&&noR y
 | .block _ x=>noR x
 | .loop x=>noR x
 | .rangeFunc .. =>false
 | .scope _=>false
 | _=>true
noncomputable def gQ(ops:Array Oper):Bool:=ops.toList.all fun o=>kK o.op
noncomputable def zPd(o:Oper):Bool:=match o.op with
 | .call c=>(match c.callee,c.args.toList with
  | .builtin .recover,[]=>true
  | _,_=>false)
 | _=>false
noncomputable def noG(o:Oper):Bool:=match o.guard with
 | none=>true
 | some _=>false
noncomputable def zLq:List Nat→List Nat→Bool
 | [],[]=>true
 | a::l,b::m=>Nat.beq a b&&zLq l m
 | _,_=>false
noncomputable def zWj(ops:Array Oper):Bool:=
 zLq (Region.ready .any ops #[false,false,false,false]) [0,1]&&(zLq (Region.ready .any ops #[true,false,false,false]) [1]&&(zLq (Region.ready .any ops #[false,true,false,false]) [0]&&
 (zLq (Region.ready .any ops #[true,true,false,false]) [2]&&(zLq (Region.ready .any ops #[true,true,true,false]) [3]&&zLq (Region.ready .any ops #[true,true,true,true]) []))))
noncomputable def qMd(P:Program)(cl yd:Cl)(ops:Array Oper)(x:T)(s:S):Option S:=match ops.toList with
 | [o0,o1,o2,o3]=>bif zPd o0&&(noG o0&&(noG o1&&(zWj ops&&(kK o2.op&&kK o3.op))))then(match o0.dst,o1.dst,o1.op with
  | some d0,some d1,.load t (.tmp a)=>bif !Nat.beq d0 d1&&!Nat.beq d0 a then(match zBr P s.H t (nth .u s.L a)with
   | some (z,none)=>zQb P cl yd ops [o2,o3] ⟨put z (put x s.L d0) d1,s.H⟩
   | _=>none)else none
  | _,_,_=>none)else none
 | _=>none
noncomputable def zSa(P:Program)(cl yd:Cl)(rn:Rn)(x:T)(H:List TO):T→Option (List TO)
 | .fn f cs=>(match P.funcs[f]? with
  | some fn=>(match fn.body,fn.results.toList with
   | some (.seq (.region _ ops true) c),[]=>bif Nat.ble (ln cs) fn.ntmps&&noR c then(match qMd P cl yd ops x ⟨rest fn.ntmps cs,H⟩with
    | some s=>(match rn c s with
     | some (.n,s)=>some s.H
     | some (.r,s)=>some s.H
     | _=>none)
    | none=>none)else none
   | _,_=>none)
  | none=>none)
 | _=>none
noncomputable def zYf(P:Program)(fn:Func)(s:S):Option (List TO)→Option (T×List TO)
 | some H=>(match fB P s.L H fn.results.toList with
  | some r=>some (zQg r,H)
  | none=>none)
 | none=>none
noncomputable def zXr(P:Program)(cl yd:Cl)(rn:Rn)(fn:Func)(g:T):Option (Ex×S)→Option (T×List TO)
 | some (.n,s)=>zYf P fn s (zSa P cl yd rn (.v .nilIface) s.H g)
 | some (.r,s)=>zYf P fn s (zSa P cl yd rn (.v .nilIface) s.H g)
 | some (.p t,s)=>zYf P fn s (zSa P cl yd rn t s.H g)
 | _=>none
noncomputable def defE(P:Program)(cl yd:Cl)(rn:Rn)(fn:Func)(s:S):Code→Option (T×List TO)
 | .seq c0 (.seq (.region _ ops false) c2)=>(match rn c0 s with
  | some (.n,s)=>(match zYq P cl yd ops ops.toList s with
   | some (g,s)=>zXr P cl yd rn fn g (rn c2 s)
   | none=>none)
  | _=>none)
 | _=>none
noncomputable def pG(P:Program)(rn:Rn)(f:Nat)(az:List T)(H:List TO):Option (T×List TO):=match P.funcs[f]? with
 | none=>none
 | some fn=>match fn.body with
  | none=>none
  | some c=>bif Nat.ble (ln az) fn.ntmps then zQr P fn (rn c ⟨rest fn.ntmps az,H⟩)else none
noncomputable def zSf(P:Program)(rn:Rn)(f:Nat)(az:List T)(H:List TO):Option (T×List TO):=match P.funcs[f]? with
 | none=>none
 | some fn=>match fn.body with
  | none=>none
  | some c=>bif Nat.ble (ln az) fn.ntmps then defE P (pG P rn) (fun _ _ _=>none) rn fn ⟨rest fn.ntmps az,H⟩ c else none
noncomputable def gB(P:Program)(rn:Rn)(f:Nat)(az:List T)(H:List TO):Option (T×List TO):=match pG P rn f az H with
 | some r=>some r
 | none=>zSf P rn f az H
noncomputable def zZa:Option (Ex×S)→Option (T×List TO)
 | some (.p t,s)=>some (t,s.H)
 | _=>none
noncomputable def zSg(P:Program)(rn:Rn):Cl:=fun f az H=>match P.funcs[f]? with
 | none=>none
 | some fn=>match fn.body with
  | none=>none
  | some c=>bif Nat.ble (ln az) fn.ntmps then zZa (rn c ⟨rest fn.ntmps az,H⟩)else none
noncomputable def zIx(P:Program)(SO:Oo)(O:Po)(rn:Rn):Cl:=fun f az H=>match SO H f az with
 | some r=>some (r,H)
 | none=>match poC O H f az with
  | some r=>some (r,H)
  | none=>gB P rn f az H
noncomputable def lN:Nat→List TO
 | 0=>[]
 | n+1=> .gone::lN n
noncomputable def qCw(H:List TO)(t:T):Option (T×Bool):=match yD true H 12 t with
 | some t=>some (t,true)
 | none=>match yD false H 12 t with
  | some t=>some (t,false)
  | none=>none
noncomputable def zQ(P:Program)(rn:Rn)(k:Nat):Po:=fun f az=>match gB P rn f (az.map (unN 12)) (lN k)with
 | some (t,H)=>qCw H t
 | none=>none
noncomputable def zHp(P:Program)(O:Po)(rn:Rn)(k:Nat):Po:=fun f az=>match O f az with
 | some t=>some t
 | none=>zQ P rn k f az
noncomputable def nQ(P:Program)(po:Po)(H:List TO)(L:List T):Op→Option T
 | .call c=>(match c.callee with
  | .value f=>(match evO L f with
   | .fn f cs=>bif jO P f then poC po H f (c.args.toList.map (evO L)++cs)else none
   | _=>none)
  | _=>none)
 | _=>none
noncomputable def qAz(H0 Hn:List TO)(e:TypeId)(s:Nat)(kq:Option Nat)(x:T):Option (Cs×Nat):=match kq with
 | none=>(match x with
  | .v (.slice none 0 0)=>some (.l [],0)
  | .os _ _ n c=>bif Nat.beq n c then(match qI Hn s x with | some a=>some (.l a,n) | none=>none)else none
  | .st _ n=>(match qI Hn s x with | some a=>some (.l a,n) | none=>none)
  | _=>none)
 | some q=>(match x with
  | .og i o n=>bif Nat.beq i q&&Nat.beq o 0 then(match nth .gone H0 i with
   | .gro cs e'=>bif Nat.beq (ln cs.list) (n*s)&&Nat.beq e e' then some (cs,n)else none
   | _=>none)else none
  | _=>none)
noncomputable def zXj(P:Program)(H0 Hn:List TO)(kq:Option Nat)(t:TypeId)(x y:T):R1:=match elT P t with
 | none=>none
 | some e=>match ldT P e with
  | none=>none
  | some (_,s)=>match qAz H0 Hn e s kq x,qI Hn s y,jJ y with
   | some (a,nx),some b,some ny=>bif !Nat.beq ny 0&&(aW P e s (nx+ny)&&vC b)then some (.og (ln Hn) 0 (nx+ny),some (.gro (a.apY y b) e))else none
   | _,_,_=>none
noncomputable def zFr(P:Program)(H0 Hn:List TO)(kq:Option Nat)(L:List T):Op→R1
 | .call c=>(match c.callee,c.args.toList,c.argTypes.toList with
  | .builtin .append,[x,y],[t,t']=>bif Nat.beq t t' then zXj P H0 Hn kq t (evO L x) (evO L y)else none
  | _,_,_=>none)
 | _=>none
noncomputable def sU(L:List T):Op→Option Nat
 | .call c=>(match c.callee,c.args.toList with
  | .builtin .append,[x,_]=>(match evO L x with
   | .og q _ _=>some q
   | _=>none)
  | _,_=>none)
 | _=>none
noncomputable def nR(P:Program)(po:Po)(H0 _H Hn:List TO)(L:List T)(o:Oper):R1:=match sU L o.op with
 | some q=>zFr P H0 Hn (some q) L o.op
 | none=>match xB P Hn (ln Hn) (evO L) o.op with
  | some z=>some z
  | none=>match nQ P po Hn L o.op with
   | some t=>some (t,none)
   | none=>match zFr P H0 Hn none L o.op with
    | some z=>some z
    | none=>match zBl P (evO L) o with
     | some t=>some (t,none)
     | none=>none
noncomputable def xG(P:Program)(po:Po)(H0 H Hn:List TO)(L:List T)(ops:Array Oper)(o:Oper):R1:=match kT ops L o with
 | none=>none
 | some false=>some (.tu [],none)
 | some true=>nR P po H0 H Hn L o
noncomputable def nxH(H:List TO):Option TO→List TO
 | none=>H
 | some ob=>H++[ob]
noncomputable def zQy(o:Oper)(seen:List Nat):List Nat:=(match o.dst with | some d=>[d] | none=>[])++(o.op.operands.toList.filterMap (fun | .tmp t=>some t | _=>none)++seen)
noncomputable def zNd(o:Oper)(seen:List Nat):Bool:=match o.dst with
 | some d=>seen.any (Nat.beq d)
 | none=>false
noncomputable def sH(P:Program)(po:Po)(H0 H:List TO)(ops:Array Oper):List Oper→List Nat→List TO→List T→List (T×Option TO)
 | [],_,_,_=>[]
 | o::l,seen,Hn,L=>bif zNd o seen then[]else match xG P po H0 H Hn L ops o with
  | some z=>z::sH P po H0 H ops l (zQy o seen) (nxH Hn z.2) (dst o.dst z.1 L)
  | none=>[]
noncomputable def kJ:List Oper→List (T×Option TO)→List T→List T
 | o::l,z::rs,L=>kJ l rs (dst o.dst z.1 L)
 | _,_,L=>L
noncomputable def qD:List (T×Option TO)→List TO
 | []=>[]
 | (_,some ob)::rs=>ob::qD rs
 | (_,none)::rs=>qD rs
noncomputable def zTz(o:Oper)(i:Nat):Bool:=o.after.toList.any fun e=>Region.binds .any e&&Nat.beq e.on i
noncomputable def wrt(t:Nat):List Oper→Nat→Option Nat
 | [],_=>none
 | o::l,i=>match o.dst with
  | some d=>bif Nat.beq d t then some i else wrt t l (i+1)
  | none=>wrt t l (i+1)
noncomputable def zDu(hd:List Oper)(o:Oper)(i t:Nat):Bool:=match wrt t hd 0 with
 | none=>true
 | some j=>Nat.blt j i&&zTz o j
noncomputable def qFi(hd:List Oper)(o:Oper)(i:Nat):Operand→Bool
 | .tmp t=>zDu hd o i t
 | _=>true
noncomputable def qDe(ops:Array Oper)(hd:List Oper)(o:Oper)(i:Nat):Bool:=match o.guard with
 | none=>true
 | some (j,_)=>match ops[j]? with
  | some p=>(match p.dst with
   | some t=>zDu hd o i t
   | none=>true)
  | none=>true
noncomputable def zGh(ops:Array Oper)(hd:List Oper):List Oper→Nat→Bool
 | [],_=>true
 | o::l,i=>(o.op.operands.toList.all (qFi hd o i)&&qDe ops hd o i)&&((match o.dst with
  | some d=>(match wrt d l 0 with
   | none=>true
   | some _=>false)
  | none=>true)&&zGh ops hd l (i+1))
noncomputable def zGs(acc:List Nat):List Edge→Nat
 | []=>0
 | e::l=>bif Region.binds .any e then Nat.lor (Nat.lor (Nat.pow 2 e.on) (nth 0 acc e.on)) (zGs acc l)else zGs acc l
noncomputable def wP:List Oper→List Nat→List Nat
 | [],acc=>acc
 | o::l,acc=>wP l (acc++[zGs acc o.after.toList])
noncomputable def mmC(c:Call):Bool:=match c.callee with
 | .builtin .min=>true
 | .builtin .max=>true
 | _=>false
noncomputable def yG(o:Oper):Bool:=(match o.guard with | none=>true | some _=>false)&&(match o.op with
 | .move _=>true
 | .assign _=>true
 | .pick .. =>true
 | .nilCheck _=>true
 | .binOp .. =>true
 | .unOp .. =>true
 | .convert .. =>true
 | .slice .. =>true
 | .fieldAddr .. =>true
 | .field .. =>true
 | .indexAddr .. =>true
 | .index .. =>true
 | .extract .. =>true
 | .call c=>mmC c
 | _=>false)
noncomputable def gP(d:Nat):Operand→Bool
 | .tmp t=>!Nat.beq t d
 | _=>true
noncomputable def bF(ops:Array Oper)(o p:Oper):Bool:=match p.dst with
 | none=>false
 | some d=>o.op.operands.toList.all (gP d)&&((match o.guard with
  | none=>true
  | some (j,_)=>(match ops[j]? with
   | some g=>(match g.dst with
    | some t=>!Nat.beq t d
    | none=>true)
   | none=>true))&&(match o.dst with
  | none=>true
  | some x=>!Nat.beq x d&&p.op.operands.toList.all (gP x)))
noncomputable def eqV:Value→Value→Bool
 | .int j a,.int k b=>Nat.beq (kind j) (kind k)&&ieq a b
 | .bool a,.bool b=>zXk a b
 | .slice none 0 0,.slice none 0 0=>true
 | .pointer none,.pointer none=>true
 | .map none,.map none=>true
 | _,_=>false
noncomputable def gF(e:T→T→Bool):List T→List T→Bool
 | [],[]=>true
 | a::l,b::m=>e a b&&gF e l m
 | _,_=>false
noncomputable def eqU:Nat→T→T→Bool
 | 0,_,_=>false
 | k+1,a,b=>match a,b with
  | .v x,.v y=>eqV x y
  | .sl cs n,.sl ds m=>Nat.beq n m&&gF (eqU k) cs ds
  | .st cs n,.st ds m=>Nat.beq n m&&gF (eqU k) cs ds
  | .fp cs,.fp ds=>gF (eqU k) cs ds
  | .ag cs,.ag ds=>gF (eqU k) cs ds
  | .tu cs,.tu ds=>gF (eqU k) cs ds
  | .fn f cs,.fn g ds=>Nat.beq f g&&gF (eqU k) cs ds
  | .os i o n c,.os i' o' n' c'=>Nat.beq i i'&&(Nat.beq o o'&&(Nat.beq n n'&&Nat.beq c c'))
  | .og i o n,.og i' o' n'=>Nat.beq i i'&&(Nat.beq o o'&&Nat.beq n n')
  | .op i o,.op i' o'=>Nat.beq i i'&&Nat.beq o o'
  | .om i,.om j=>Nat.beq i j
  | _,_=>false
noncomputable def cB(p:Oper):Bool:=(match p.guard with | none=>true | some _=>false)&&(match p.op with
 | .load .. =>true
 | _=>false)
noncomputable def inN(i:Nat):List Nat→Bool
 | []=>false
 | j::l=>Nat.beq j i||inN i l
noncomputable def xP(m:Nat)(ld vl:List Nat)(i:Nat)(p:Oper):Bool:=bif Nat.blt i m then yG p||(cB p&&inN i ld)else yG p&&inN i vl
noncomputable def wfr(o p:Oper):Bool:=match o.dst with
 | none=>true
 | some x=>(match p.dst with
  | some d=>!Nat.beq x d
  | none=>true)&&p.op.operands.toList.all (gP x)
noncomputable def slf(o:Oper):Bool:=match o.dst with
 | none=>true
 | some x=>o.op.operands.toList.all (gP x)
noncomputable def qAq(o:Oper):List Oper→Bool
 | []=>true
 | p::l=>(bif yG p||cB p then wfr o p else true)&&qAq o l
noncomputable def vlE:List Oper→List Oper→Nat→List Nat
 | _,[],_=>[]
 | pre,o::l,j=>bif yG o&&(slf o&&qAq o pre)then j::vlE (pre++[o]) l (j+1)else vlE (pre++[o]) l (j+1)
noncomputable def vlR(ops:Array Oper)(m:Nat):List Nat:=vlE (ops.toList.take m) (ops.toList.drop m) m
noncomputable def qXj(K:Nat):List Oper→Nat→List Nat
 | [],_=>[]
 | p::l,i=>bif cB p&&!Nat.testBit K i then i::qXj K l (i+1)else qXj K l (i+1)
noncomputable def andM:List Nat→Nat→Nat
 | [],k=>k
 | m::l,k=>andM l (Nat.land m k)
noncomputable def bZ(ops:Array Oper)(m:Nat):List Nat:=qXj (andM ((wP ops.toList []).drop m) (Nat.sub (Nat.pow 2 m) 1)) (ops.toList.take m) 0
noncomputable def qXh(P:Program)(s:S)(p:Oper):Bool:=match p.op,p.dst with
 | .load t x,some d=>(match zBr P s.H t (evO s.L x)with
  | some (z,none)=>eqU 12 z (nth .u s.L d)
  | _=>false)
 | _,_=>false
noncomputable def rX(P:Program)(ops:Array Oper)(s:S):List Nat→Bool
 | []=>true
 | i::l=>(match ops[i]? with | some p=>qXh P s p | none=>false)&&rX P ops s l
noncomputable def zAs(ops:Array Oper)(m:Nat)(ld vl:List Nat)(o:Oper):List Oper→Nat→Nat
 | [],_=>0
 | p::l,i=>bif xP m ld vl i p&&bF ops o p then Nat.lor (Nat.pow 2 i) (zAs ops m ld vl o l (i+1))else zAs ops m ld vl o l (i+1)
noncomputable def aQ(ops:Array Oper)(m:Nat)(ld vl:List Nat)(hd:List Oper):List Nat→List Oper→Nat→Bool
 | k::ks,o::l,j=>(bif Nat.beq k (Nat.sub (Nat.pow 2 j) 1)then true else Nat.beq (Nat.lor k (zAs ops m ld vl o hd 0)) (Nat.sub (Nat.pow 2 j) 1))&&aQ ops m ld vl (hd++[o]) ks l (j+1)
 | _,_,_=>true
noncomputable def zGa:List Oper→Nat→Bool
 | [],_=>true
 | o::l,i=>o.after.toList.all (fun e=>!Region.binds .any e||Nat.blt e.on i)&&zGa l (i+1)
noncomputable def qCg(ops:Array Oper)(m:Nat):Bool:=zGh ops (ops.toList.take m) (ops.toList.take m) 0&&(aQ ops m (bZ ops m) (vlR ops m) (ops.toList.take m) ((wP ops.toList []).drop m) (ops.toList.drop m) m&&zGa ops.toList 0)
noncomputable def ksE:List Oper→List (T×Option TO)→List T→List (Option Nat)
 | o::l,z::rs,L=>(match z.2 with | some _=>sU L o.op | none=>none)::ksE l rs (dst o.dst z.1 L)
 | _,_,_=>[]
noncomputable def xO:List (Option Nat)→List TO→List TO
 | [],H=>H
 | some q::ks,H=>xO ks (put .gone H q)
 | none::ks,H=>xO ks H
noncomputable def qQk:List (Option Nat)→Bool
 | []=>false
 | some _::_=>true
 | none::ks=>qQk ks
noncomputable def qDj:TO→Bool
 | .gone=>true
 | _=>false
noncomputable def zIo(q:Nat):List (Option Nat)→Bool
 | []=>false
 | some k::ks=>Nat.beq k q||zIo q ks
 | none::ks=>zIo q ks
noncomputable def zLz(H:List TO):List (Option Nat)→Bool
 | []=>true
 | some q::ks=>!zIo q ks&&(qDj (nth .gone H q)&&zLz H ks)
 | none::ks=>zLz H ks
noncomputable def fG(P:Program)(cl yd:Cl)(ops:Array Oper)(ld:List Nat):List Oper→S→Option S
 | [],s=>some s
 | o::l,s=>match opE P cl yd ops o s with
  | some s=>bif rX P ops s ld then fG P cl yd ops ld l s else none
  | none=>none
noncomputable def jAo(P:Program)(cl yd:Cl)(ops:Array Oper)(ld:List Nat)(l:List Oper)(s:S):Option S:=bif rX P ops s ld then fG P cl yd ops ld l s else none
noncomputable def drF(P:Program)(cl yd:Cl)(ops:Array Oper)(s:S)(H:List TO)(rs:List (T×Option TO)):Option S:=
 bif qCg ops (ln rs)&&zLz H (ksE ops.toList rs s.L)then jAo P cl yd ops (bZ ops (ln rs)) (ops.toList.drop (ln rs)) ⟨kJ ops.toList rs s.L,xO (ksE ops.toList rs s.L) s.H++qD rs⟩else none
noncomputable def qOo(o:Oper):Bool:=match o.op with
 | .call _=>true
 | _=>false
noncomputable def tlK(ops:Array Oper)(i:Nat):Bool:=(match bZ ops i with | []=>true | _=>false)&&aQ ops i (bZ ops i) (vlR ops i) (ops.toList.take i) ((wP ops.toList []).drop i) (ops.toList.drop i) i
noncomputable def qIx(ops:Array Oper):List Oper→List (T×Option TO)→Nat→Nat
 | o::l,rs,i=>bif qOo o&&tlK ops i then i else match rs with
  | _::rs=>qIx ops l rs (i+1)
  | []=>i
 | [],_,i=>i
noncomputable def drG(P:Program)(po:Po)(cl yd:Cl)(ops:Array Oper)(s:S)(k:Nat)(rs:List (T×Option TO)):Option S:=
 bif qQk (ksE ops.toList rs s.L)then drF P cl yd ops s (xO (ksE ops.toList rs s.L) s.H) ((sH P po s.H (xO (ksE ops.toList rs s.L) s.H) ops ops.toList [] (xO (ksE ops.toList rs s.L) s.H) s.L).take k)else drF P cl yd ops s s.H rs
noncomputable def drU(P:Program)(po:Po)(cl yd:Cl)(ops:Array Oper)(s:S)(rs:List (T×Option TO)):Option S:=
 drG P po cl yd ops s (qIx ops ops.toList rs 0) (rs.take (qIx ops ops.toList rs 0))
noncomputable def drE(P:Program)(O:Po)(rn:Rn)(cl yd:Cl)(ops:Array Oper)(s:S):Option S:=
 drU P (zHp P O rn (ln s.H+ops.size)) cl yd ops s (sH P (zHp P O rn (ln s.H+ops.size)) s.H s.H ops ops.toList [] s.H s.L)
noncomputable def tQ(P:Program)(SO:Oo)(O:Po)(rn:Rn)(c:Code)(s:S):Option (Ex×S):=match c with
 | .skip=>some (.n,s)
 | .label _=>some (.n,s)
 | .seq x y=>zEv rn y (rn x s)
 | .cond c x y=>qOe rn x y s (evO s.L c)
 | .block id x=>zXl id (rn x s)
 | .exit id=>some (.x id,s)
 | .ret=>some (.r,s)
 | .scope x=>rn x s
 | .loop x=>zEv rn (.loop x) (rn x s)
 | .region _ ops false=>bif gQ ops then qFk P (zIx P SO O rn) (zEa rn) (zSg P rn) ops ops.toList s else none
 | .region _ ops true=>qMe (bif gQ ops then drE P O rn (zIx P SO O rn) (zEa rn) ops s else none)
 | .rangeFunc f ps a b=>bif noR a&&noR b then qMh P (zIx P SO O rn) ps.toList a b s.L s.H (evO s.L f)else none
 | _=>none
noncomputable def evC(P:Program)(SO:Oo)(O:Rn→Po):Nat→Rn
 | 0=>fun _ _=>none
 | k+1=>tQ P SO (O (evC P SO O k)) (evC P SO O k)
noncomputable def qTx(f:Nat):List Nat→Bool
 | []=>false
 | g::l=>Nat.beq g f||qTx f l
noncomputable def zRz:Option (T×Bool)→Option (T×Bool)
 | some (t,b)=>bif clean 12 t then some (t,b)else none
 | none=>none
noncomputable def orF(P:Program)(O:Po)(fs:List Nat)(rn:Rn):Po:=fun f az=>match O f az with
 | some r=>some r
 | none=>bif qTx f fs&&(az.map (unN 12)).all (clean 12)then zRz (zQ P rn 0 f (az.map (unN 12)))else none
end Go.Ev
namespace Go.Ev
open Go Go.Gv Go.RowKit IntKind
structure Bm where
 f:Nat→Option (Nat×Nat)
 N:Nat
instance:CoeFun Bm fun _=>Nat→Option (Nat×Nat):=⟨Bm.f⟩
structure BLe(B B':Bm):Prop where
 le:∀i p,B i=some p→B' i=some p
 n:B.N=B'.N
instance (B B':Bm):CoeFun (BLe B B') fun _=>∀i p,B i=some p→B' i=some p:=⟨BLe.le⟩
def Bm.In(B:Bm)(g:Tg)(b:Nat):Prop:=(g= .n→B.N≤b)∧(g= .o→b<B.N)
theorem Bm.In.any{B:Bm}{b:Nat}:B.In .a b:=⟨fun e=>(by cases e),fun e=>(by cases e)⟩
theorem Bm.In.eqN{B B':Bm}(h:B.N=B'.N){g:Tg}{b:Nat}(k:B.In g b):B'.In g b:=⟨fun e=>h▸k.1 e,fun e=>h▸k.2 e⟩
theorem Bm.In.nw{B:Bm}{b:Nat}(h:B.N≤b):B.In .n b:=⟨fun _=>h,fun e=>(by cases e)⟩
theorem Bm.In.le{B:Bm}{g g':Tg}{b:Nat}(h:g.le g'=true)(k:B.In g' b):B.In g b:=by
 cases g<;>cases g'<;>first | exact k | (cases h;done) | exact⟨fun e=>Tg.noConfusion e,fun e=>Tg.noConfusion e⟩
theorem BLe.refl(B:Bm):BLe B B:=⟨fun _ _ h=>h,rfl⟩
theorem BLe.trans{A B C:Bm}(h:BLe A B)(k:BLe B C):BLe A C:=⟨fun i p e=>k.le i p (h.le i p e),h.n.trans k.n⟩
def sK(B:Bm)(i:Nat)(p:Nat×Nat):Bm:=⟨fun j=>if j=i then some p else B j,B.N⟩
theorem BLe.set{B:Bm}{i:Nat}{p:Nat×Nat}(h:B i=none):BLe B (sK B i p):=⟨fun j q e=>by
 show(if j=i then some p else B j)=some q
 split
 ·rename_i hj;rw[hj,h]at e;cases e
 ·exact e,rfl⟩
theorem qJ(B:Bm)(i:Nat)(p:Nat×Nat):sK B i p i=some p:=by simp[sK]
theorem jX(B:Bm){i j:Nat}(p:Nat×Nat)(h:j≠i):sK B i p j=B j:=by simp[sK,h]
def zFq{α:Type}(r:Rd)(p:Nat→Prop)(s:Nat)(R:α→List Value→Prop)(ad:Option Addr)(c:Nat)(l:List α):Prop:=
 l.length≤c∧c≤maxLen∧(l=[]∨∃b o,ad=some ⟨b,o,none⟩∧p b∧∀(i:Nat)(x:α),l[i]?=some x→∃vs:List Value,vs.length=s∧R x vs∧∀(j:Nat)(v:Value),vs[j]?=some v→r ⟨b,o+(i*s+j),none⟩=some v)
def jI(r:Rd)(p:Nat→Prop):(A:Ty)→A.den→List Value→Prop
 | .lim,a,vs=>vs=[.int .u32 (.ofNat a)]∧a<4294967296
 | .int k,a,vs=>vs=[.int k a]
 | .bool,b,vs=>vs=[.bool b]
 | .str,s,vs=>vs=[.string s]
 | .list A,l,vs=>∃ad c,vs=[.slice ad l.length c]∧zFq r p A.size (fun x us=>jI r p A x us) ad c l
 | .prod A B,x,vs=>∃u w,vs=u++w∧jI r p A x.1 u∧jI r p B x.2 w
theorem zFq.mono{α:Type}{r r':Rd}{p p':Nat→Prop}{s:Nat}{R R':α→List Value→Prop}{ad:Option Addr}{c:Nat}{l:List α}(hr:Le r r')(hp:∀b,p b→p' b)(hR:∀x vs,R x vs→R' x vs)(h:zFq r p s R ad c l):zFq r' p' s R' ad c l:=
 ⟨h.1,h.2.1,h.2.2.imp id fun⟨b,o,e,hb,k⟩=>⟨b,o,e,hp b hb,fun i x hx=>by
  obtain⟨vs,h1,h2,h3⟩:=k i x hx;exact⟨vs,h1,hR _ _ h2,fun j v hv=>hr _ _ (h3 j v hv)⟩⟩⟩
theorem jI.mono{r r':Rd}{p p':Nat→Prop}(hr:Le r r')(hp:∀b,p b→p' b):∀(A:Ty)(x:A.den)(vs:List Value),jI r p A x vs→jI r' p' A x vs
 | .lim,_,_,h=>h
 | .int _,_,_,h=>h
 | .bool,_,_,h=>h
 | .str,_,_,h=>h
 | .list A,_,_,⟨ad,c,e,h⟩=>⟨ad,c,e,h.mono hr hp fun x vs=>jI.mono hr hp A x vs⟩
 | .prod A B,_,_,⟨u,w,e,h1,h2⟩=>⟨u,w,e,jI.mono hr hp A _ _ h1,jI.mono hr hp B _ _ h2⟩
theorem Ty.size_pos:∀A:Ty,0<A.size
 | .lim=>Nat.one_pos
 | .int _=>Nat.one_pos
 | .bool=>Nat.one_pos
 | .str=>Nat.one_pos
 | .list _=>Nat.one_pos
 | .prod A _=>Nat.lt_of_lt_of_le (Ty.size_pos A) (Nat.le_add_right _ _)
theorem jI.new{r:Rd}{p q:Nat→Prop}(hr:∀b j v,r ⟨b,j,none⟩=some v→q b):∀(A:Ty)(x:A.den)(vs:List Value),jI r p A x vs→jI r q A x vs
 | .lim,_,_,h=>h
 | .int _,_,_,h=>h
 | .bool,_,_,h=>h
 | .str,_,_,h=>h
 | .list _,[],_,⟨ad,c,e,h⟩=>⟨ad,c,e,h.1,h.2.1,.inl rfl⟩
 | .list A,x0::l,_,⟨ad,c,e,h⟩=>⟨ad,c,e,h.1,h.2.1,.inr (by
  rcases h.2.2 with h | ⟨b,o,e,_,k⟩
  ·cases h
  ·refine⟨b,o,e,?_,fun i x hx=>?_⟩
   ·obtain⟨vs,h1,_,h3⟩:=k 0 x0 rfl;cases vs with
    | nil=>have:=A.size_pos;simp at h1;omega
    | cons v vs=>exact hr _ _ _ (h3 0 v rfl)
   ·obtain⟨vs,h1,h2,h3⟩:=k i x hx;exact⟨vs,h1,jI.new hr A x vs h2,h3⟩)⟩
 | .prod A B,_,_,⟨u,w,e,h1,h2⟩=>⟨u,w,e,jI.new hr A _ _ h1,jI.new hr B _ _ h2⟩
theorem jI.far{r r':Rd}{p q:Nat→Prop}(hq:∀b,q b)(hr:∀b j v,p b→r ⟨b,j,none⟩=some v→r' ⟨b,j,none⟩=some v):∀(A:Ty)(x:A.den)(vs:List Value),jI r p A x vs→jI r' q A x vs
 | .lim,_,_,h=>h
 | .int _,_,_,h=>h
 | .bool,_,_,h=>h
 | .str,_,_,h=>h
 | .list A,l,_,⟨ad,c,e,h⟩=>⟨ad,c,e,h.1,h.2.1,h.2.2.imp id fun⟨b,o,e,hp,k⟩=>⟨b,o,e,hq b,fun i x hx=>by
  obtain⟨vs,h1,h2,h3⟩:=k i x hx;exact⟨vs,h1,jI.far hq hr A x vs h2,fun j v hv=>hr _ _ _ hp (h3 j v hv)⟩⟩⟩
 | .prod A B,_,_,⟨u,w,e,h1,h2⟩=>⟨u,w,e,jI.far hq hr A _ _ h1,jI.far hq hr B _ _ h2⟩
def nD(r:Rd)(p:Nat→Prop):(A:Ty)→A.den→List Value→Prop
 | .lim,_,vs=>∃a,vs=[.int .u32 a]
 | .int k,_,vs=>∃a,vs=[.int k a]
 | .bool,b,vs=>vs=[.bool b]
 | .str,s,vs=>vs=[.string s]
 | .list A,l,vs=>∃ad c,vs=[.slice ad l.length c]∧zFq r p A.size (fun x us=>nD r p A x us) ad c l
 | .prod A B,x,vs=>∃u w,vs=u++w∧nD r p A x.1 u∧nD r p B x.2 w
theorem nD.mono{r r':Rd}{p p':Nat→Prop}(hr:Le r r')(hp:∀b,p b→p' b):∀(A:Ty)(x:A.den)(vs:List Value),nD r p A x vs→nD r' p' A x vs
 | .lim,_,_,h=>h
 | .int _,_,_,h=>h
 | .bool,_,_,h=>h
 | .str,_,_,h=>h
 | .list A,_,_,⟨ad,c,e,h⟩=>⟨ad,c,e,h.mono hr hp fun x vs=>nD.mono hr hp A x vs⟩
 | .prod A B,_,_,⟨u,w,e,h1,h2⟩=>⟨u,w,e,nD.mono hr hp A _ _ h1,nD.mono hr hp B _ _ h2⟩
theorem jI.h{r:Rd}{p:Nat→Prop}:∀(A:Ty)(x:A.den)(vs:List Value),jI r p A x vs→nD r p A x vs
 | .lim,_,_,h=>⟨_,h.1⟩
 | .int _,_,_,h=>⟨_,h⟩
 | .bool,_,_,h=>h
 | .str,_,_,h=>h
 | .list A,_,_,⟨ad,c,e,h⟩=>⟨ad,c,e,h.mono (Le.refl _) (fun _ h=>h) fun x vs=>jI.h A x vs⟩
 | .prod A B,_,_,⟨u,w,e,h1,h2⟩=>⟨u,w,e,jI.h A _ _ h1,jI.h B _ _ h2⟩
inductive Rep (B:Bm) (r:Rd):T→Value→Prop
  | u {x:Value}:Rep B r .u x
  | v {x:Value} (h:sc x=true):Rep B r (.v x) x
  | sl {cs:List T} {n b o c:Nat} (hn:n≤c) (f:Nat→Value) (h:∀j t,cs[j]?=some t→r ⟨b,o+j,none⟩=some (f j)) (g:∀j t,cs[j]?=some t→Rep B r t (f j)) (hm:c≤maxLen):Rep B r (.sl cs n) (.slice (some ⟨b,o,none⟩) n c)
  | sl0 {ad:Option Addr} {c:Nat} (hm:c≤maxLen):Rep B r (.sl [] 0) (.slice ad 0 c)
  | sn {cs:List T} {n b o c:Nat} (hn:n≤c) (f:Nat→Value) (h:∀j t,cs[j]?=some t→r ⟨b,o+j,none⟩=some (f j)) (g:∀j t,cs[j]?=some t→Rep B r t (f j)) (hm:c≤maxLen) (hb:∀(j:Nat)(t:T),cs[j]?=some t→B.N≤b):Rep B r (.sn cs n) (.slice (some ⟨b,o,none⟩) n c)
  | sn0 {ad:Option Addr} {c:Nat} (hm:c≤maxLen):Rep B r (.sn [] 0) (.slice ad 0 c)
  | st {cs:List T} {n b o:Nat} (f:Nat→Value) (h:∀j t,cs[j]?=some t→r ⟨b,o+j,none⟩=some (f j)) (g:∀j t,cs[j]?=some t→Rep B r t (f j)):Rep B r (.st cs n) (.slice (some ⟨b,o,none⟩) n n)
  | st0 {ad:Option Addr}:Rep B r (.st [] 0) (.slice ad 0 0)
  | fp {cs:List T} {b o:Nat} (f:Nat→Value) (h:∀j t,cs[j]?=some t→r ⟨b,o+j,none⟩=some (f j)) (g:∀j t,cs[j]?=some t→Rep B r t (f j)):Rep B r (.fp cs) (.pointer (some ⟨b,o,none⟩))
  | os {i o n c b C:Nat} (h:B i=some (b,C)):Rep B r (.os i o n c) (.slice (some ⟨b,o,none⟩) n c)
  | og {i o n c b C:Nat} (h:B i=some (b,C)) (h1:n≤c) (h2:o=0→c=C) (h3:c≤maxLen):Rep B r (.og i o n) (.slice (some ⟨b,o,none⟩) n c)
  | op {i o b C:Nat} (h:B i=some (b,C)):Rep B r (.op i o) (.pointer (some ⟨b,o,none⟩))
  | ag {cs:List T} {vs:Array Value} (f:Nat→Value) (hl:cs.length=vs.size) (h:∀j t,cs[j]?=some t→vs[j]?=some (f j)) (g:∀j t,cs[j]?=some t→Rep B r t (f j)):Rep B r (.ag cs) (.agg vs)
  | tu {cs:List T} {vs:Array Value} (f:Nat→Value) (hl:cs.length=vs.size) (h:∀j t,cs[j]?=some t→vs[j]?=some (f j)) (g:∀j t,cs[j]?=some t→Rep B r t (f j)):Rep B r (.tu cs) (.tuple vs)
  | fn {k:Nat} {cs:List T} {vs:Array Value} (f:Nat→Value) (hl:cs.length=vs.size) (h:∀j t,cs[j]?=some t→vs[j]?=some (f j)) (g:∀j t,cs[j]?=some t→Rep B r t (f j)):Rep B r (.fn k cs) (.func (.func k) #[] vs)
  | fb {k:Nat} {cs:List T} {vs:Array Value} (f:Nat→Value) (hl:cs.length=vs.size) (h:∀j t,cs[j]?=some t→vs[j]?=some (f j)) (g:∀j t,cs[j]?=some t→Rep B r t (f j)):Rep B r (.fb k cs) (.func (.func k) vs #[])
  | om {i b C:Nat} (h:B i=some (b,C)):Rep B r (.om i) (.map (some b))
  | yl {i b C:Nat} (h:B i=some (b,C)):Rep B r (.yl i) (.func (.yield b) #[] #[])
  | ls {g:Tg} {A:Ty} {l:List A.den} {v:Value} (h:jI r (B.In g) (.list A) l [v]):Rep B r (.ls g A l) v
  | hv {A:Ty} {l:List A.den} {v:Value} (h:nD r (B.In .n) (.list A) l [v]):Rep B r (.hv A l) v
theorem Rep.mono{B B':Bm}{r r':Rd}(hB:BLe B B')(hr:Le r r'){t:T}{v:Value}(h:Rep B r t v):Rep B' r' t v:=by
 induction h with
 | u=>exact .u
 | v h=>exact .v h
 | sl hn f h g hm ih=>exact .sl hn f (fun j t e=>hr _ _ (h j t e)) ih hm
 | sl0 hm=>exact .sl0 hm
 | sn hn f h g hm hb ih=>exact .sn hn f (fun j t e=>hr _ _ (h j t e)) ih hm (fun j t e=>hB.n▸hb j t e)
 | sn0 hm=>exact .sn0 hm
 | st f h g ih=>exact .st f (fun j t e=>hr _ _ (h j t e)) ih
 | st0=>exact .st0
 | fp f h g ih=>exact .fp f (fun j t e=>hr _ _ (h j t e)) ih
 | os h=>exact .os (hB _ _ h)
 | og h h1 h2 h3=>exact .og (hB _ _ h) h1 h2 h3
 | op h=>exact .op (hB _ _ h)
 | ag f hl h g ih=>exact .ag f hl h ih
 | tu f hl h g ih=>exact .tu f hl h ih
 | fn f hl h g ih=>exact .fn f hl h ih
 | fb f hl h g ih=>exact .fb f hl h ih
 | om h=>exact .om (hB _ _ h)
 | yl h=>exact .yl (hB _ _ h)
 | ls h=>exact .ls (jI.mono hr (fun b h=>h.eqN hB.n) _ _ _ h)
 | hv h=>exact .hv (nD.mono hr (fun b h=>h.eqN hB.n) _ _ _ h)
theorem Rep.dn{B:Bm}{r:Rd}{t:T}{v:Value}(h:Rep B r t v):Rep B r (dn t) v:=by
 cases h with
 | sn hn f h g hm hb=>exact .sl hn f h g hm
 | sn0 hm=>exact .sl0 hm
 | u=>exact .u
 | v h=>exact .v h
 | sl hn f h g hm=>exact .sl hn f h g hm
 | sl0 hm=>exact .sl0 hm
 | st f h g=>exact .st f h g
 | st0=>exact .st0
 | fp f h g=>exact .fp f h g
 | os h=>exact .os h
 | og h h1 h2 h3=>exact .og h h1 h2 h3
 | op h=>exact .op h
 | ag f hl h g=>exact .ag f hl h g
 | tu f hl h g=>exact .tu f hl h g
 | fn f hl h g=>exact .fn f hl h g
 | fb f hl h g=>exact .fb f hl h g
 | om h=>exact .om h
 | yl h=>exact .yl h
 | ls h=>exact .ls h
 | hv h=>exact .hv h
theorem Rep.unN{B B2:Bm}{r:Rd}(hB:∀i p,B i=some p→B2 i=some p):∀(k:Nat){t:T}{v:Value},Rep B r t v→Rep B2 r (unN k t) v
 | 0,_,_,_=> .u
 | k+1,t,y,h=>by
  have all:∀{cs:List T}{f:Nat→Value}{q:Nat→Option Value},(∀j t,cs[j]?=some t→q j=some (f j))→(∀j t,cs[j]?=some t→Rep B r t (f j))→(∀j t,(cs.map (Ev.unN k))[j]?=some t→q j=some (f j))∧∀j t,(cs.map (Ev.unN k))[j]?=some t→Rep B2 r t (f j):=fun h1 h2=>by
   refine⟨fun j t e=>?_,fun j t e=>?_⟩
   ·rw[List.getElem?_map]at e;obtain⟨t',e1,rfl⟩:=Option.map_eq_some_iff.1 e;exact h1 j t' e1
   ·rw[List.getElem?_map]at e;obtain⟨t',e1,rfl⟩:=Option.map_eq_some_iff.1 e;exact Rep.unN hB k (h2 j t' e1)
  cases h with
  | sn hn f h g hm hb=>exact .sl hn f (all h g).1 (all h g).2 hm
  | sn0 hm=>exact .sl0 hm
  | u=>exact .u
  | v h=>exact .v h
  | sl hn f h g hm=>exact .sl hn f (all h g).1 (all h g).2 hm
  | sl0 hm=>exact .sl0 hm
  | st f h g=>exact .st f (all h g).1 (all h g).2
  | st0=>exact .st0
  | fp f h g=>exact .fp f (all h g).1 (all h g).2
  | os h=>exact .os (hB _ _ h)
  | og h h1 h2 h3=>exact .og (hB _ _ h) h1 h2 h3
  | op h=>exact .op (hB _ _ h)
  | @ag cs vs f hl h g=>exact .ag f (by simpa using hl) (all (q:=fun j=>vs[j]?) h g).1 (all (q:=fun j=>vs[j]?) h g).2
  | @tu cs vs f hl h g=>exact .tu f (by simpa using hl) (all (q:=fun j=>vs[j]?) h g).1 (all (q:=fun j=>vs[j]?) h g).2
  | @fn _ cs vs f hl h g=>exact .fn f (by simpa using hl) (all (q:=fun j=>vs[j]?) h g).1 (all (q:=fun j=>vs[j]?) h g).2
  | @fb _ cs vs f hl h g=>exact .fb f (by simpa using hl) (all (q:=fun j=>vs[j]?) h g).1 (all (q:=fun j=>vs[j]?) h g).2
  | om h=>exact .om (hB _ _ h)
  | yl h=>exact .yl (hB _ _ h)
  | ls h=>exact .ls (jI.mono (Le.refl _) (fun b _=>Bm.In.any) _ _ _ h)
  | hv h=>exact .u
theorem Rep.mkN{B:Bm}{r:Rd}(hr:∀b j v,r ⟨b,j,none⟩=some v→B.N≤b):∀(k:Nat){t:T}{v:Value},Rep B r t v→Rep B r (mkN k t) v
 | 0,_,_,h=>h
 | k+1,t,y,h=>by
  have all:∀{cs:List T}{f:Nat→Value}{q:Nat→Option Value},(∀j t,cs[j]?=some t→q j=some (f j))→(∀j t,cs[j]?=some t→Rep B r t (f j))→(∀j t,(cs.map (Ev.mkN k))[j]?=some t→q j=some (f j))∧∀j t,(cs.map (Ev.mkN k))[j]?=some t→Rep B r t (f j):=fun h1 h2=>by
   refine⟨fun j t e=>?_,fun j t e=>?_⟩
   ·rw[List.getElem?_map]at e;obtain⟨t',e1,rfl⟩:=Option.map_eq_some_iff.1 e;exact h1 j t' e1
   ·rw[List.getElem?_map]at e;obtain⟨t',e1,rfl⟩:=Option.map_eq_some_iff.1 e;exact Rep.mkN hr k (h2 j t' e1)
  cases h with
  | sl hn f h g hm=>exact .sn hn f (all h g).1 (all h g).2 hm (fun j t e=>hr _ _ _ ((all h g).1 j t e))
  | sl0 hm=>exact .sn0 hm
  | sn hn f h g hm hb=>exact .sn hn f h g hm hb
  | sn0 hm=>exact .sn0 hm
  | u=>exact .u
  | v h=>exact .v h
  | st f h g=>exact .st f h g
  | st0=>exact .st0
  | fp f h g=>exact .fp f h g
  | os h=>exact .os h
  | og h h1 h2 h3=>exact .og h h1 h2 h3
  | op h=>exact .op h
  | @ag cs vs f hl h g=>exact .ag f (by simpa using hl) (all (q:=fun j=>vs[j]?) h g).1 (all (q:=fun j=>vs[j]?) h g).2
  | @tu cs vs f hl h g=>exact .tu f (by simpa using hl) (all (q:=fun j=>vs[j]?) h g).1 (all (q:=fun j=>vs[j]?) h g).2
  | @fn _ cs vs f hl h g=>exact .fn f (by simpa using hl) (all (q:=fun j=>vs[j]?) h g).1 (all (q:=fun j=>vs[j]?) h g).2
  | fb f hl h g=>exact .fb f hl h g
  | om h=>exact .om h
  | yl h=>exact .yl h
  | ls h=>exact .ls (jI.new (fun b j v e=>Bm.In.nw (hr b j v e)) _ _ _ h)
  | hv h=>exact .hv h
theorem zPu{α:Type}(d x:α)(l:List α):nth d (x::l) 0=x:=rfl
theorem nY{α:Type}(d x:α)(l:List α)(n:Nat):nth d (x::l) (n+1)=nth d l n:=rfl
theorem qMa{α:Type}(x:α)(n:Nat):Ev.put x [] n=[]:=rfl
theorem zQj{α:Type}(x y:α)(l:List α):Ev.put x (y::l) 0=x::l:=rfl
theorem zHr{α:Type}(x y:α)(l:List α)(n:Nat):Ev.put x (y::l) (n+1)=y::Ev.put x l n:=rfl
def zN(B:Bm)(r:Rd):List T→List Value→Prop
 | [],[]=>True
 | t::ts,v::vs=>Rep B r t v∧zN B r ts vs
 | _,_=>False
section
variable {B B':Bm}{r r':Rd}
theorem zN.mono(hB:BLe B B')(hr:Le r r'):∀{ts:List T}{vs:List Value},zN B r ts vs→zN B' r' ts vs
 | [],[],_=>trivial
 | _::_,_::_,h=>⟨h.1.mono hB hr,zN.mono hB hr h.2⟩
 | [],_::_,h=>h.elim
 | _::_,[],h=>h.elim
theorem zN.unN{B2:Bm}(hB:∀i p,B i=some p→B2 i=some p)(k:Nat):∀{ts:List T}{vs:List Value},zN B r ts vs→zN B2 r (ts.map (unN k)) vs
 | [],[],_=>trivial
 | _::_,_::_,h=>⟨h.1.unN hB k,zN.unN hB k h.2⟩
 | [],_::_,h=>h.elim
 | _::_,[],h=>h.elim
theorem zN.length:∀{ts:List T}{vs:List Value},zN B r ts vs→ts.length=vs.length
 | [],[],_=>rfl
 | _::_,_::_,h=>congrArg (·+1) (zN.length h.2)
 | [],_::_,h=>h.elim
 | _::_,[],h=>h.elim
theorem zN.get:∀{ts:List T}{vs:List Value},zN B r ts vs→∀{j:Nat}{t:T},ts[j]?=some t→∃v,vs[j]?=some v∧Rep B r t v
 | _::_,v::_,h,0,t,e=>by simp at e;subst e;exact⟨v,rfl,h.1⟩
 | _::_,_::_,h,j+1,t,e=>by simpa using zN.get h.2 (by simpa using e)
 | [],_,_,_,_,e=>by simp at e
 | _::_,[],h,_,_,_=>h.elim
theorem zN.getD:∀{ts:List T}{vs:List Value},zN B r ts vs→∀(j:Nat),Rep B r (nth .u ts j) (vs.getD j undef)
 | _::_,v::_,h,0=>by rw[zPu];simpa using h.1
 | _::_,_::_,h,j+1=>by rw[nY];simpa using zN.getD h.2 j
 | [],_,_,_=> .u
 | _::_,[],h,_=>h.elim
theorem zN.of:∀{ts:List T}{vs:List Value},ts.length=vs.length→(∀(j:Nat)(t:T)(v:Value),ts[j]?=some t→vs[j]?=some v→Rep B r t v)→zN B r ts vs
 | [],[],_,_=>trivial
 | t::ts,v::vs,hl,h=>⟨h 0 t v rfl rfl,zN.of (by simpa using hl) fun j t v e e'=>h (j+1) t v (by simpa using e) (by simpa using e')⟩
 | [],_::_,hl,_=>by simp at hl
 | _::_,[],hl,_=>by simp at hl
theorem zN.app:∀{ts us:List T}{vs ws:List Value},zN B r ts vs→zN B r us ws→zN B r (ts++us) (vs++ws)
 | [],_,[],_,_,h=>h
 | _::_,_,_::_,_,h,k=>⟨h.1,zN.app h.2 k⟩
 | [],_,_::_,_,h,_=>h.elim
 | _::_,_,[],_,h,_=>h.elim
theorem zN.split:∀{ts us:List T}{vs:List Value},zN B r (ts++us) vs→zN B r ts (vs.take ts.length)∧zN B r us (vs.drop ts.length)
 | [],_,_,h=>⟨trivial,h⟩
 | _::ts,us,v::vs,h=>by
  obtain⟨h1,h2⟩:=zN.split (ts:=ts) (us:=us) h.2;exact⟨⟨h.1,h1⟩,h2⟩
 | _::_,_,[],h=>h.elim
theorem zN.drop:∀(n:Nat){ts:List T}{vs:List Value},zN B r ts vs→zN B r (jK ts n) (vs.drop n)
 | 0,[],[],h=>h
 | 0,_::_,_::_,h=>h
 | n+1,_::_,_::_,h=>by simpa[jK]using zN.drop n h.2
 | _+1,[],[],_=>trivial
 | _,[],_::_,h=>h.elim
 | _,_::_,[],h=>h.elim
theorem zN.take:∀{n:Nat}{ts us:List T}{vs:List Value},zN B r ts vs→jT n ts=some us→zN B r us (vs.take n)∧(vs.take n).length=n
 | 0,_,_,_,_,e=>by simp[jT]at e;subst e;exact⟨trivial,by simp⟩
 | n+1,_::ts,us,v::vs,h,e=>by
  simp only[jT]at e;cases he:jT n ts with
  | none=>simp[he]at e
  | some x=>
   simp only[he,Option.some.injEq]at e;subst e;obtain⟨h1,h2⟩:=zN.take h.2 he;exact⟨⟨h.1,h1⟩,by simp[h2]⟩
 | _+1,[],_,_,_,e=>by simp[jT]at e
 | _+1,_::_,_,[],h,_=>h.elim
theorem zN.put:∀{ts:List T}{vs:List Value},zN B r ts vs→∀(j:Nat){t:T}{v:Value},Rep B r t v→zN B r (put t ts j) (vs.set j v)
 | [],[],_,_,_,_,_=>trivial
 | _::_,_::_,h,0,_,_,k=>⟨k,h.2⟩
 | _::_,_::_,h,j+1,_,_,k=>⟨h.1,zN.put h.2 j k⟩
 | [],_::_,h,_,_,_,_=>h.elim
 | _::_,[],h,_,_,_,_=>h.elim
theorem qR{α:Type}:∀l:List α,ln l=l.length
 | []=>rfl
 | _::l=>by simp[ln,qR l]
theorem jA{α:Type}(d:α):∀(l:List α)(n:Nat),nth d l n=l.getD n d
 | [],_=>rfl
 | _::_,0=>rfl
 | _::l,n+1=>by rw[nY];simpa using jA d l n
theorem yP{α:Type}(x:α):∀(l:List α)(n:Nat),Ev.put x l n=l.set n x
 | [],_=>rfl
 | _::_,0=>rfl
 | _::l,n+1=>by rw[zHr];simp[yP x l n]
theorem rR:∀(l:List T)(n:Nat),jK l n=l.drop n
 | [],_=>by simp[jK]
 | _::_,0=>rfl
 | _::l,n+1=>by simp[jK,rR l n]
theorem zCd:∀{n:Nat}{l u:List T},jT n l=some u→n≤l.length∧u=l.take n
 | 0,_,_,h=>by simp[jT]at h;subst h;simp
 | n+1,x::l,u,h=>by
  simp only[jT]at h;cases he:jT n l with
  | none=>simp[he]at h
  | some y=>
   simp only[he,Option.some.injEq]at h;obtain⟨h1,h2⟩:=zCd he;subst h;subst h2;simpa using h1
 | _+1,[],_,h=>by simp[jT]at h
theorem fI:∀l:List T,jT l.length l=some l
 | []=>rfl
 | _::l=>by simp[jT,fI l]
def Cls(B:Bm)(r:Rd)(b o:Nat)(cs:List T):Prop:=∀j t,cs[j]?=some t→∃v,r ⟨b,o+j,none⟩=some v∧Rep B r t v
theorem Cls.mono(hB:BLe B B')(hr:Le r r'){b o:Nat}{cs:List T}(h:Cls B r b o cs):Cls B' r' b o cs:=fun j t e=>by
 obtain⟨v,h1,h2⟩:=h j t e;exact⟨v,hr _ _ h1,h2.mono hB hr⟩
theorem Cls.drop{b o:Nat}{cs:List T}(h:Cls B r b o cs)(n:Nat):Cls B r b (o+n) (jK cs n):=fun j t e=>by
 rw[rR,List.getElem?_drop]at e;obtain⟨v,h1,h2⟩:=h _ t e;exact⟨v,by rw[Nat.add_assoc];exact h1,h2⟩
theorem Cls.fun{b o:Nat}{cs:List T}(h:Cls B r b o cs):∃f:Nat→Value,(∀j t,cs[j]?=some t→r ⟨b,o+j,none⟩=some (f j))∧∀j t,cs[j]?=some t→Rep B r t (f j):=by
 refine⟨fun j=>(r ⟨b,o+j,none⟩).getD undef,fun j t e=>?_,fun j t e=>?_⟩<;>obtain⟨v,h1,h2⟩:=h j t e
 ·simp[h1]
 ·simpa[h1]using h2
theorem Cls.sl{b o n c:Nat}{cs:List T}(h:Cls B r b o cs)(hn:n≤c)(hm:c≤maxLen):Rep B r (.sl cs n) (.slice (some ⟨b,o,none⟩) n c):=by
 obtain⟨f,h1,h2⟩:=h.fun;exact .sl hn f h1 h2 hm
theorem Cls.st{b o n:Nat}{cs:List T}(h:Cls B r b o cs):Rep B r (.st cs n) (.slice (some ⟨b,o,none⟩) n n):=by
 obtain⟨f,h1,h2⟩:=h.fun;exact .st f h1 h2
theorem Cls.fp{b o:Nat}{cs:List T}(h:Cls B r b o cs):Rep B r (.fp cs) (.pointer (some ⟨b,o,none⟩)):=by
 obtain⟨f,h1,h2⟩:=h.fun;exact .fp f h1 h2
theorem zLb{cs:List T}{vs:Array Value}(h:zN B r cs vs.toList):∃f:Nat→Value,cs.length=vs.size∧(∀j t,cs[j]?=some t→vs[j]?=some (f j))∧∀j t,cs[j]?=some t→Rep B r t (f j):=by
 refine⟨fun j=>vs.getD j undef,by simpa using h.length,fun j t e=>?_,fun j t e=>?_⟩<;>obtain⟨v,h1,h2⟩:=h.get e
 ·have:vs[j]?=some v:=by simpa using h1
  simp[this]
 ·have:vs[j]?=some v:=by simpa using h1
  simpa[this]using h2
theorem zHb{cs:List T}{vs:Array Value}(f:Nat→Value)(hl:cs.length=vs.size)(h:∀j t,cs[j]?=some t→vs[j]?=some (f j))(g:∀j t,cs[j]?=some t→Rep B r t (f j)):zN B r cs vs.toList:=
 zN.of (by simpa using hl) fun j t v e e'=>by
  have h1:=h j t e;have e2:vs[j]?=some v:=by simpa using e'
  rw[h1]at e2;cases e2;exact g j t e
theorem Rep.mkAg{cs:List T}{vs:List Value}(h:zN B r cs vs):Rep B r (.ag cs) (.agg vs.toArray):=by
 obtain⟨f,h1,h2,h3⟩:=zLb (vs:=vs.toArray) (by simpa using h)
 exact .ag f h1 h2 h3
theorem Rep.mkTu{cs:List T}{vs:List Value}(h:zN B r cs vs):Rep B r (.tu cs) (.tuple vs.toArray):=by
 obtain⟨f,h1,h2,h3⟩:=zLb (vs:=vs.toArray) (by simpa using h)
 exact .tu f h1 h2 h3
theorem Rep.mkFn{k:Nat}{cs:List T}{vs:List Value}(h:zN B r cs vs):Rep B r (.fn k cs) (.func (.func k) #[] vs.toArray):=by
 obtain⟨f,h1,h2,h3⟩:=zLb (vs:=vs.toArray) (by simpa using h)
 exact .fn f h1 h2 h3
theorem Rep.agI{cs:List T}{v:Value}(h:Rep B r (.ag cs) v):∃vs:List Value,v= .agg vs.toArray∧zN B r cs vs:=by
 cases h with
 | @ag _ vs f hl h g=>exact⟨vs.toList,by simp,zHb f hl h g⟩
theorem Rep.tuI{cs:List T}{v:Value}(h:Rep B r (.tu cs) v):∃vs:List Value,v= .tuple vs.toArray∧zN B r cs vs:=by
 cases h with
 | @tu _ vs f hl h g=>exact⟨vs.toList,by simp,zHb f hl h g⟩
theorem Rep.fbI{k:Nat}{cs:List T}{v:Value}(h:Rep B r (.fb k cs) v):∃vs:List Value,v= .func (.func k) vs.toArray #[]∧zN B r cs vs:=by
 cases h with
 | @fb _ _ vs f hl h g=>exact⟨vs.toList,by simp,zHb f hl h g⟩
theorem Rep.mkFb{k:Nat}{cs:List T}{vs:List Value}(h:zN B r cs vs):Rep B r (.fb k cs) (.func (.func k) vs.toArray #[]):=by
 obtain⟨f,h1,h2,h3⟩:=zLb (vs:=vs.toArray) (by simpa using h)
 exact .fb f h1 h2 h3
theorem Rep.fnI{k:Nat}{cs:List T}{v:Value}(h:Rep B r (.fn k cs) v):∃vs:List Value,v= .func (.func k) #[] vs.toArray∧zN B r cs vs:=by
 cases h with
 | @fn _ _ vs f hl h g=>exact⟨vs.toList,by simp,zHb f hl h g⟩
theorem Rep.fpI{cs:List T}{v:Value}(h:Rep B r (.fp cs) v):∃b o,v= .pointer (some ⟨b,o,none⟩)∧Cls B r b o cs:=by
 cases h with
 | @fp _ b o f h g=>exact⟨b,o,rfl,fun j t e=>⟨f j,h j t e,g j t e⟩⟩
theorem Rep.slI{cs:List T}{n:Nat}{v:Value}(h:Rep B r (.sl cs n) v):∃ad c,v= .slice ad n c∧n≤c∧((n=0∧cs=[])∨∃b o,ad=some ⟨b,o,none⟩∧Cls B r b o cs):=by
 cases h with
 | @sl _ _ b o c hn f h g hm=>exact⟨_,c,rfl,hn,.inr ⟨b,o,rfl,fun j t e=>⟨f j,h j t e,g j t e⟩⟩⟩
 | @sl0 ad c hm=>exact⟨ad,c,rfl,Nat.zero_le _,.inl ⟨rfl,rfl⟩⟩
theorem Rep.slB{cs:List T}{n m c:Nat}{ad:Option Addr}(h:Rep B r (.sl cs n) (.slice ad m c)):c≤maxLen:=by
 cases h with
 | sl hn f h g hm=>exact hm
 | sl0 hm=>exact hm
theorem Rep.ogB{i o n m c:Nat}{ad:Option Addr}(h:Rep B r (.og i o n) (.slice ad m c)):c≤maxLen:=by
 cases h with
 | og h h1 h2 h3=>exact h3
theorem Rep.stI{cs:List T}{n:Nat}{v:Value}(h:Rep B r (.st cs n) v):∃ad,v= .slice ad n n∧((n=0∧cs=[])∨∃b o,ad=some ⟨b,o,none⟩∧Cls B r b o cs):=by
 cases h with
 | @st _ _ b o f h g=>exact⟨_,rfl,.inr ⟨b,o,rfl,fun j t e=>⟨f j,h j t e,g j t e⟩⟩⟩
 | @st0 ad=>exact⟨ad,rfl,.inl ⟨rfl,rfl⟩⟩
theorem Rep.vI{x v:Value}(h:Rep B r (.v x) v):v=x∧sc x=true:=by
 cases h with
 | v h=>exact⟨rfl,h⟩
theorem Rep.osI{i o n c:Nat}{v:Value}(h:Rep B r (.os i o n c) v):∃b C,v= .slice (some ⟨b,o,none⟩) n c∧B i=some (b,C):=by
 cases h with
 | @os _ _ _ _ b C h=>exact⟨b,C,rfl,h⟩
theorem Rep.ogI{i o n:Nat}{v:Value}(h:Rep B r (.og i o n) v):∃b C c,v= .slice (some ⟨b,o,none⟩) n c∧B i=some (b,C)∧n≤c∧(o=0→c=C):=by
 cases h with
 | @og _ _ _ c b C h h1 h2 h3=>exact⟨b,C,c,rfl,h,h1,h2⟩
theorem Rep.opI{i o:Nat}{v:Value}(h:Rep B r (.op i o) v):∃b C,v= .pointer (some ⟨b,o,none⟩)∧B i=some (b,C):=by
 cases h with
 | @op _ _ b C h=>exact⟨b,C,rfl,h⟩
theorem Rep.omI{i:Nat}{v:Value}(h:Rep B r (.om i) v):∃b C,v= .map (some b)∧B i=some (b,C):=by
 cases h with
 | @om _ b C h=>exact⟨b,C,rfl,h⟩
theorem Rep.ylI{i:Nat}{v:Value}(h:Rep B r (.yl i) v):∃b C,v= .func (.yield b) #[] #[]∧B i=some (b,C):=by
 cases h with
 | @yl _ b C h=>exact⟨b,C,rfl,h⟩
theorem Rep.lsI{g:Tg}{A:Ty}{l:List A.den}{v:Value}(h:Rep B r (.ls g A l) v):∃ad c,v= .slice ad l.length c∧zFq r (B.In g) A.size (fun x us=>jI r (B.In g) A x us) ad c l:=by
 cases h with
 | ls h=>
  obtain⟨ad,c,e,h⟩:=h;cases e;exact⟨ad,c,rfl,h⟩
theorem jI.reps{g:Tg}:∀(A:Ty)(x:A.den)(vs:List Value),jI r (B.In g) A x vs→zN B r (qF g A x) vs
 | .lim,_,_,h=>by rw[h.1];exact⟨.v rfl,trivial⟩
 | .int _,_,_,h=>by rw[show _=_ from h];exact⟨.v rfl,trivial⟩
 | .bool,_,_,h=>by rw[show _=_ from h];exact⟨.v rfl,trivial⟩
 | .str,_,_,h=>by rw[show _=_ from h];exact⟨.v rfl,trivial⟩
 | .list _,_,_,h=>by
  obtain⟨ad,c,e,h'⟩:=h;subst e;exact⟨.ls ⟨ad,c,rfl,h'⟩,trivial⟩
 | .prod A B,_,_,⟨u,w,e,h1,h2⟩=>by rw[e];exact zN.app (jI.reps A _ _ h1) (jI.reps B _ _ h2)
theorem Rep.hvI{A:Ty}{l:List A.den}{v:Value}(h:Rep B r (.hv A l) v):∃ad c,v= .slice ad l.length c∧zFq r (B.In .n) A.size (fun x us=>nD r (B.In .n) A x us) ad c l:=by
 cases h with
 | hv h=>
  obtain⟨ad,c,e,h⟩:=h;cases e;exact⟨ad,c,rfl,h⟩
theorem nD.reps:∀(A:Ty)(x:A.den)(vs:List Value),nD r (B.In .n) A x vs→zN B r (zCm A x) vs
 | .lim,_,_,h=>by obtain⟨a,rfl⟩:=h;exact⟨.u,trivial⟩
 | .int _,_,_,h=>by obtain⟨a,rfl⟩:=h;exact⟨.u,trivial⟩
 | .bool,_,_,h=>by rw[show _=_ from h];exact⟨.v rfl,trivial⟩
 | .str,_,_,h=>by rw[show _=_ from h];exact⟨.v rfl,trivial⟩
 | .list _,_,_,h=>by
  obtain⟨ad,c,e,h'⟩:=h;subst e;exact⟨.hv ⟨ad,c,rfl,h'⟩,trivial⟩
 | .prod A B,_,_,⟨u,w,e,h1,h2⟩=>by rw[e];exact zN.app (nD.reps A _ _ h1) (nD.reps B _ _ h2)
theorem jN(g:Tg):∀(A:Ty)(x:A.den),(qF g A x).length=A.size
 | .lim,_=>rfl
 | .int _,_=>rfl
 | .bool,_=>rfl
 | .str,_=>rfl
 | .list _,_=>rfl
 | .prod A B,x=>by rw[qF,List.length_append,jN g A,jN g B];rfl
theorem dD(g:Tg)(A:Ty):∀l:List A.den,(yA g A l).length=l.length*A.size
 | []=>by simp[yA]
 | x::l=>by rw[yA,List.length_append,jN,dD g A l,List.length_cons,Nat.succ_mul,Nat.add_comm]
theorem zJi(g:Tg)(A:Ty):∀(l:List A.den)(j:Nat)(t:T),(yA g A l)[j]?=some t→∃i x q,j=i*A.size+q∧l[i]?=some x∧(qF g A x)[q]?=some t
 | [],_,_,h=>by simp[yA]at h
 | x::l,j,t,h=>by
  rw[yA,List.getElem?_append]at h;split at h
  ·exact⟨0,x,j,by simp,rfl,h⟩
  ·rename_i hj;rw[jN]at h hj;obtain⟨i,y,q,h1,h2,h3⟩:=zJi g A l _ t h;exact⟨i+1,y,q,by rw[Nat.succ_mul];omega,by simpa using h2,h3⟩
theorem Rep.lsS{g:Tg}{A:Ty}{l:List A.den}{v:Value}(h:Rep B r (.ls g A l) v):Rep B r (.sl (yA g A l) l.length) v:=by
 obtain⟨ad,c,rfl,hn,hm,hh⟩:=h.lsI;rcases hh with rfl | ⟨b,o,rfl,hb,k⟩
 ·exact .sl0 hm
 ·refine Cls.sl (fun j t e=>?_) hn hm;obtain⟨i,x,q,h1,h2,h3⟩:=zJi g A l j t e;obtain⟨vs,g1,g2,g3⟩:=k i x h2;obtain⟨v,e1,e2⟩:=(jI.reps A x vs g2).get h3;exact⟨v,by rw[h1];exact g3 q v e1,e2⟩
theorem Rep.lsE{g:Tg}{A:Ty}{l:List A.den}{v:Value}(h:Rep B r (.ls g A l) v){i:Nat}(hi:i<l.length):∃b o n c,v= .slice (some ⟨b,o,none⟩) n c∧Cls B r b (o+i*A.size) (qF g A (nth A.zero l i)):=by
 obtain⟨ad,c,rfl,hn,hm,hh⟩:=h.lsI;rcases hh with rfl | ⟨b,o,rfl,hb,k⟩
 ·simp at hi
 ·refine⟨b,o,_,_,rfl,fun j t e=>?_⟩;have hx:l[i]?=some (nth A.zero l i):=by rw[jA];simp[hi]
  obtain⟨vs,g1,g2,g3⟩:=k i _ hx;obtain⟨v,e1,e2⟩:=(jI.reps A _ vs g2).get e;exact⟨v,by rw[Nat.add_assoc];exact g3 j v e1,e2⟩
theorem Rep.hvE{A:Ty}{l:List A.den}{v:Value}(h:Rep B r (.hv A l) v){i:Nat}(hi:i<l.length):∃b o n c,v= .slice (some ⟨b,o,none⟩) n c∧Cls B r b (o+i*A.size) (zCm A (nth A.zero l i)):=by
 obtain⟨ad,c,rfl,hn,hm,hh⟩:=h.hvI;rcases hh with rfl | ⟨b,o,rfl,hb,k⟩
 ·simp at hi
 ·refine⟨b,o,_,_,rfl,fun j t e=>?_⟩;have hx:l[i]?=some (nth A.zero l i):=by rw[jA];simp[hi]
  obtain⟨vs,g1,g2,g3⟩:=k i _ hx;obtain⟨v,e1,e2⟩:=(nD.reps A _ vs g2).get e;exact⟨v,by rw[Nat.add_assoc];exact g3 j v e1,e2⟩
theorem Rep.lsP{g:Tg}{A:Ty}{l:List A.den}{b o n c lo k:Nat}(h:Rep B r (.ls g A l) (.slice (some ⟨b,o,none⟩) n c))(hk:lo+k≤l.length):Rep B r (.ls g A ((l.drop lo).take k)) (.slice (some ⟨b,o+lo*A.size,none⟩) k (c-lo)):=by
 obtain⟨ad,c',e,hn,hm,hh⟩:=h.lsI;cases e;refine .ls ⟨some ⟨b,o+lo*A.size,none⟩,c-lo,?_,?_,by omega,?_⟩
 ·rw[List.length_take,List.length_drop,Nat.min_eq_left (by omega)]
 ·rw[List.length_take,List.length_drop,Nat.min_eq_left (by omega)];omega
 rcases hh with rfl | ⟨b',o',e,hb,kk⟩
 ·left;simp
 ·cases e;right;refine⟨_,_,rfl,hb,fun i x hx=>?_⟩;have hx:l[lo+i]?=some x:=by
   rw[List.getElem?_take]at hx;split at hx
   ·rwa[List.getElem?_drop]at hx
   ·cases hx
  obtain⟨vs,g1,g2,g3⟩:=kk _ x hx;refine⟨vs,g1,g2,fun j v hv=>?_⟩;have:=g3 j v hv;rwa[show o+lo*A.size+(i*A.size+j)=o+((lo+i)*A.size+j)by rw[Nat.add_mul];omega]
theorem Rep.cells{t:T}{v:Value}(ht:t≠.u)(h:Rep B r t v):zN B r (cellsOf t) v.cells.toList:=by
 have one:∀{t:T}{v:Value},v.cells=#[v]→cellsOf t=[t]→Rep B r t v→zN B r (cellsOf t) v.cells.toList:=fun e1 e2 h=>by rw[e1,e2];exact⟨h,trivial⟩
 cases h with
 | u=>exact absurd rfl ht
 | v h'=>refine one ?_ rfl (.v h');cases v<;>first | rfl | (simp[sc]at h')
 | ag f hl h g=>exact zHb f hl h g
 | sl hn f h g hm=>exact one rfl rfl (.sl hn f h g hm)
 | sl0 hm=>exact one rfl rfl (.sl0 hm)
 | sn hn f h g hm hb=>exact one rfl rfl (.sn hn f h g hm hb)
 | sn0 hm=>exact one rfl rfl (.sn0 hm)
 | st f h g=>exact one rfl rfl (.st f h g)
 | st0=>exact one rfl rfl .st0
 | fp f h g=>exact one rfl rfl (.fp f h g)
 | os h=>exact one rfl rfl (.os h)
 | og h h1 h2 h3=>exact one rfl rfl (.og h h1 h2 h3)
 | op h=>exact one rfl rfl (.op h)
 | tu f hl h g=>exact one rfl rfl (.tu f hl h g)
 | fn f hl h g=>exact one rfl rfl (.fn f hl h g)
 | fb f hl h g=>exact one rfl rfl (.fb f hl h g)
 | om h=>exact one rfl rfl (.om h)
 | yl h=>exact one rfl rfl (.yl h)
 | ls h=>exact one (by obtain⟨_,_,e,_⟩:=h;cases e;rfl) rfl (.ls h)
 | hv h=>exact one (by obtain⟨_,_,e,_⟩:=h;cases e;rfl) rfl (.hv h)
theorem zVt(x:Value):Rep B r (ofV x) x:=by
 unfold ofV;cases h:sc x with
 | true=>exact .v h
 | false=>exact .u
theorem mD:∀l:List Value,zN B r (l.map ofV) l
 | []=>trivial
 | x::l=>⟨zVt x,mD l⟩
theorem zBm(x:Value):Rep B r (ofC x) x:=by
 unfold ofC;split
 ·rename_i cs;have:=Rep.mkAg (B:=B) (r:=r) (mD cs.toList);simpa using this
 ·rename_i cs;have:=Rep.mkTu (B:=B) (r:=r) (mD cs.toList);simpa using this
 ·rename_i f;exact Rep.mkFn (vs:=[]) trivial
 ·exact zVt x
theorem Cls.cells{b o n:Nat}{cs us:List T}{w:World}{Y:Hid}(h:Cls B (rd w Y) b o cs)(ht:jT n cs=some us):∃vs,vs.length=n∧zN B (rd w Y) us vs∧jM w ⟨b,o,none⟩ vs:=by
 obtain⟨h1,h2⟩:=zCd ht;obtain⟨f,h3,h4⟩:=h.fun;have hg:∀j,j<n→∃t,cs[j]?=some t:=fun j hj=>⟨cs[j],by simp⟩
 refine⟨(List.range n).map f,by simp,zN.of (by simp[h2,Nat.min_eq_left h1]) fun j t v e e'=>?_,fun j v e=>?_⟩
 ·have hj:j<n:=by
   have:=(List.getElem?_eq_some_iff.1 e').1;simpa using this
  rw[h2,List.getElem?_take,if_pos hj]at e;have:v=f j:=by simpa[hj]using e'.symm
  rw[this];exact h4 j t e
 ·have hj:j<n:=by
   have:=(List.getElem?_eq_some_iff.1 e).1;simpa using this
  obtain⟨t,ht⟩:=hg j hj;have:v=f j:=by simpa[hj]using e.symm
  rw[this,yC];exact yQ (h3 j t ht)
end
def Iv(P:Program)(w:World):Prop:=P.globalNamed "internal/strconv.uint64pow10" ≠none→Lib.TabIs P w "internal/strconv.uint64pow10" .u64 Lib.pow10Tab
theorem Iv.upd{P:Program}{w w':World}(h:Iv P w)(hu:Upd E0 w w'):Iv P w':=fun hn=>Lib.tabBelow_of_tabIs (h hn) w' hu.below
def vB:TO→Bool
 | .row .. | .gro .. | .map _ | .mapd _ | .loop .. =>true
 | _=>false
def LSt:Bool→Option Code→Loop→Prop
 | true,none,rec=>rec.state= .ready∧rec.pending=none
 | true,some _,_=>False
 | false,none,rec=>rec.state= .busy
 | false,some c,rec=>rec.state= .done∧rec.pending=some c
def xD(B:Bm)(r:Rd):List (Value×T)→List MapEntry→Prop
 | [],[]=>True
 | e::l,f::es=>f.key=e.1∧Rep B r e.2 f.val∧xD B r l es
 | _,_=>False
theorem xD.mono{B B':Bm}{r r':Rd}(hB:BLe B B')(hr:Le r r'):∀{l:List (Value×T)}{es:List MapEntry},xD B r l es→xD B' r' l es
 | [],[],_=>trivial
 | _::_,_::_,h=>⟨h.1,h.2.1.mono hB hr,xD.mono hB hr h.2.2⟩
 | [],_::_,h=>h.elim
 | _::_,[],h=>h.elim
theorem xD.length{B:Bm}{r:Rd}:∀{l:List (Value×T)}{es:List MapEntry},xD B r l es→l.length=es.length
 | [],[],_=>rfl
 | _::_,_::_,h=>congrArg (·+1) (xD.length h.2.2)
 | [],_::_,h=>h.elim
 | _::_,[],h=>h.elim
inductive RO (P:Program) (B:Bm) (r:Rd) (C:Nat):TO→Obj→Prop
  | row {cs:List T} {e:TypeId} {c:Array Value} (h:zN B r cs c.toList):RO P B r C (.row cs e) (.cells c e (0,0))
  | gro {cs:Cs} {e:TypeId} {c:Array Value} {i0:TypeInfo} (hi:P.info? e=some i0) (hs:c.size=C*i0.size) (hC:C≤maxLen) (h:zN B r cs.list (c.toList.take cs.list.length)):RO P B r C (.gro cs e) (.cells c e (0,0))
  | map {l:List (Value×T)} {es:Array MapEntry} {clk:Nat} (h:xD B r l es.toList) (hc:clk=es.size) (hb:es.toList.map (·.born)=List.range es.size):RO P B r C (.map l) (.map es clk)
  | mapd {d:MD} {es:Array MapEntry} {clk:Nat} (h:xD B r d.ents es.toList) (hc:clk=es.size) (hb:es.toList.map (·.born)=List.range es.size):RO P B r C (.mapd d) (.map es clk)
  | loop {L:List T} {ps:List Nat} {a b:Code} {rec:Loop} {ready:Bool} {pend:Option Code} (hL:zN B r L rec.tmps.toList) (hp:rec.params.toList=ps) (ha:rec.assign=a) (hb:rec.body=b)
      (hna:noR a=true) (hnb:noR b=true) (hs:LSt ready pend rec):RO P B r C (.loop L ps a b ready pend) (.loop rec)
theorem RO.mono{P:Program}{B B':Bm}{r r':Rd}{C:Nat}{t:TO}{o:Obj}(hB:BLe B B')(hr:Le r r')(h:RO P B r C t o):RO P B' r' C t o:=by
 cases h with
 | row h=>exact .row (h.mono hB hr)
 | gro hi hs hC h=>exact .gro hi hs hC (h.mono hB hr)
 | map h hc hb=>exact .map (h.mono hB hr) hc hb
 | mapd h hc hb=>exact .mapd (h.mono hB hr) hc hb
 | loop hL hp ha hb hna hnb hs=>exact .loop (hL.mono hB hr) hp ha hb hna hnb hs
structure Wd(P:Program)(E:Nat→Prop)(w0:World)(X:Hid)(F:List Nat)(H:List TO)(B:Bm)(w:World)(Y:Hid)(Mo:List (Nat×Obj)):Prop where
 st:St E w0 X w Y (Mo++xH F)
 ob:∀(i:Nat)(o:TO),H[i]?=some o→vB o=true→∃b C ob,B i=some (b,C)∧(b,ob)∈Mo∧RO P B (rd w Y) C o ob
 fz:∀(i:Nat)(cs:List T),H[i]?=some (.fz cs)→∃b C,B i=some (b,C)∧Cls B (rd w Y) b 0 cs
 nn:∀i,H.length≤i→B i=none
 inj:∀(i j:Nat)(oi oj:TO)(p q:Nat×Nat),H[i]?=some oi→vB oi=true→H[j]?=some oj→vB oj=true→B i=some p→B j=some q→p.1=q.1→i=j
 bN:B.N=w0.heap.size
 iv:∀w',Upd E w0 w'→Iv P w'
section
variable {P:Program}{E:Nat→Prop}{w0:World}{X:Hid}{F:List Nat}{H:List TO}{B:Bm}{w w':World}{Y Y':Hid}{Mo:List (Nat×Obj)}
theorem St.perm{M M':List (Nat×Obj)}(hp:M.Perm M')(h:St E w0 X w Y M):St E w0 X w Y M':=
 ⟨h.upd,h.lt,h.hid,fun q hq=>h.own q (hp.mem_iff.2 hq),(hp.map (·.1)).nodup_iff.1 h.nd,h.ltX⟩
theorem Wd.step{F':List Nat}(h:Wd P E w0 X F H B w Y Mo)(hS:St E w0 X w' Y' (Mo++xH F'))(hle:Le (rd w Y) (rd w' Y')):Wd P E w0 X F' H B w' Y' Mo:=
 ⟨hS,fun i o ho hl=>by
  obtain⟨b,C,ob,h1,h2,h3⟩:=h.ob i o ho hl;exact⟨b,C,ob,h1,h2,h3.mono (BLe.refl B) hle⟩,fun i cs hc=>by
  obtain⟨b,C,h1,h2⟩:=h.fz i cs hc;exact⟨b,C,h1,h2.mono (BLe.refl B) hle⟩,h.nn,h.inj,h.bN,h.iv⟩
theorem Wd.call(h:Wd P E w0 X F H B w Y Mo)(k:Upd E0 w w'):Wd P E w0 X F H B w' Y Mo:=h.step (h.st.call k) (k.le Y)
theorem Wd.heap(h:Wd P E w0 X F H B w Y Mo){b:Nat}{ob:Obj}(hm:(b,ob)∈Mo):w.heap[b]?=some ob:=(h.st.own _ (List.mem_append_left _ hm)).1
theorem Wd.ivw(h:Wd P E w0 X F H B w Y Mo):Iv P w:=h.iv w h.st.upd
theorem Wd.bNle(h:Wd P E w0 X F H B w Y Mo):B.N≤w.heap.size:=by rw[h.bN];exact h.st.upd.size
theorem Wd.new{F':List Nat}(h:Wd P E w0 X F H B w Y Mo){g C:Nat}{o:TO}{ob:Obj}(hS:St E w0 X w' Y' (((g,ob)::Mo)++xH F'))(hle:Le (rd w Y) (rd w' Y'))(hl:vB o=true)(hR:RO P B (rd w' Y') C o ob):
  Wd P E w0 X F' (H++[o]) (sK B H.length (g,C)) w' Y' ((g,ob)::Mo)∧BLe B (sK B H.length (g,C)):=by
 have hB:BLe B (sK B H.length (g,C)):=BLe.set (h.nn _ (Nat.le_refl _));have hg:∀p∈Mo,p.1≠g:=fun p hp e=>by
  have:=hS.nd;simp only[List.cons_append,List.map_cons,List.nodup_cons,List.mem_map,not_exists,not_and]at this;exact this.1 p (List.mem_append_left _ hp) e
 have hget:∀(i:Nat)(x:TO),(H++[o])[i]?=some x→(H[i]?=some x∧i≠H.length)∨(i=H.length∧x=o):=fun i x hx=>by
  rcases Nat.lt_trichotomy i H.length with hlt | rfl | hlt
  ·rw[List.getElem?_append_left hlt]at hx;exact .inl ⟨hx,Nat.ne_of_lt hlt⟩
  ·simp at hx;exact .inr ⟨rfl,hx.symm⟩
  ·rw[List.getElem?_eq_none (by simp;omega)]at hx;cases hx
 refine⟨⟨hS,fun i x hx hlx=>?_,fun i cs hx=>?_,fun i hi=>?_,fun i j oi oj p q hi li hj lj hp hq e=>?_,h.bN,h.iv⟩,hB⟩
 ·rcases hget i x hx with⟨hx,_⟩ | ⟨rfl,rfl⟩
  ·obtain⟨b,C',ob',h1,h2,h3⟩:=h.ob i x hx hlx;exact⟨b,C',ob',hB _ _ h1,List.mem_cons_of_mem _ h2,h3.mono hB hle⟩
  ·exact⟨g,C,ob,qJ _ _ _,List.mem_cons_self,hR.mono hB (Le.refl _)⟩
 ·rcases hget i _ hx with⟨hx,_⟩ | ⟨rfl,e⟩
  ·obtain⟨b,C',h1,h2⟩:=h.fz i cs hx;exact⟨b,C',hB _ _ h1,h2.mono hB hle⟩
  ·subst e;cases hl
 ·rw[List.length_append,List.length_singleton]at hi;rw[jX _ _ (by omega)]
  exact h.nn i (by omega)
 ·have own:∀(i:Nat)(x:TO)(p:Nat×Nat),H[i]?=some x→vB x=true→B i=some p→p.1≠g:=fun i x p hx hl hp=>by
   obtain⟨b,C',ob',h1,h2,_⟩:=h.ob i x hx hl;rw[hp]at h1;cases h1;exact hg _ h2
  rcases hget i _ hi with⟨hi',ni⟩ | ⟨rfl,rfl⟩<;>rcases hget j _ hj with⟨hj',nj⟩ | ⟨rfl,rfl⟩
  ·rw[jX _ _ ni]at hp;rw[jX _ _ nj]at hq;exact h.inj i j oi oj p q hi' li hj' lj hp hq e
  ·rw[jX _ _ ni]at hp;rw[qJ]at hq;cases hq;exact absurd e (own i _ p hi' li hp)
  ·rw[jX _ _ nj]at hq;rw[qJ]at hp;cases hp;exact absurd e.symm (own j _ q hj' lj hq)
  ·rfl
theorem Wd.alloc(h:Wd P E w0 X F H B w Y Mo){C:Nat}{o:TO}{ob:Obj}(hl:vB o=true)(hR:RO P B (rd w Y) C o ob):
  Wd P E w0 X F (H++[o]) (sK B H.length (w.heap.size,C)) (w.alloc ob) (zAo w.heap.size Y) ((w.heap.size,ob)::Mo)∧BLe B (sK B H.length (w.heap.size,C)):=
 h.new (h.st.alloc ob) (Le.hide_new ob) hl (hR.mono (BLe.refl B) (Le.hide_new ob))
theorem zSu{α:Type}{l:List α}{k:Nat}{p q x:α}(hk:l[k]?=some q)(hp:p∈l)(hne:p≠q):p∈l.set k x:=by
 obtain⟨j,hj⟩:=List.getElem?_of_mem hp;have:k≠j:=fun e=>by subst e;rw[hk]at hj;cases hj;exact hne rfl
 exact List.mem_of_getElem? (i:=j) (by rw[List.getElem?_set_ne this];exact hj)
theorem Wd.set(h:Wd P E w0 X F H B w Y Mo){i k b C:Nat}{o o':TO}{ob ob':Obj}(hi:H[i]?=some o)(hl:vB o=true)(hB:B i=some (b,C))(hk:Mo[k]?=some (b,ob))(hS:St E w0 X w' Y (Mo.set k (b,ob')++xH F))(hle:Le (rd w Y) (rd w' Y))
  (hl':∀cs,o'≠.fz cs) (hR:vB o'=true→RO P B (rd w' Y) C o' ob'):Wd P E w0 X F (H.set i o') B w' Y (Mo.set k (b,ob')):=by
 have hlt:i<H.length:=(List.getElem?_eq_some_iff.1 hi).1;have hget:∀(j:Nat)(x:TO),(H.set i o')[j]?=some x→(j≠i∧H[j]?=some x)∨(j=i∧x=o'):=fun j x hx=>by
  by_cases e:i=j
  ·subst e;rw[List.getElem?_set_self hlt]at hx;cases hx;exact .inr ⟨rfl,rfl⟩
  ·rw[List.getElem?_set_ne e]at hx;exact .inl ⟨fun e'=>e e'.symm,hx⟩
 refine⟨hS,fun j x hx hlx=>?_,fun j cs hx=>?_,fun j hj=>h.nn j (by simpa using hj),fun j1 j2 o1 o2 p q h1 l1 h2 l2 hp hq e=>?_,h.bN,h.iv⟩
 ·rcases hget j x hx with⟨hne,hx⟩ | ⟨rfl,rfl⟩
  ·obtain⟨b',C',ob2,g1,g2,g3⟩:=h.ob j x hx hlx;refine⟨b',C',ob2,g1,zSu hk g2 (fun e=>hne ?_),g3.mono (BLe.refl B) hle⟩;cases e;exact h.inj j i x o _ _ hx hlx hi hl g1 hB rfl
  ·exact⟨b,C,ob',hB,List.mem_of_getElem? (i:=k) (by rw[List.getElem?_set_self (List.getElem?_eq_some_iff.1 hk).1]),hR hlx⟩
 ·rcases hget j _ hx with⟨hne,hx⟩ | ⟨rfl,e⟩
  ·obtain⟨b',C',g1,g2⟩:=h.fz j cs hx;exact⟨b',C',g1,g2.mono (BLe.refl B) hle⟩
  ·exact absurd e.symm (hl' cs)
 ·rcases hget j1 _ h1 with⟨n1,g1⟩ | ⟨rfl,rfl⟩<;>rcases hget j2 _ h2 with⟨n2,g2⟩ | ⟨rfl,rfl⟩
  ·exact h.inj _ _ _ _ _ _ g1 l1 g2 l2 hp hq e
  ·exact h.inj _ _ _ _ _ _ g1 l1 hi hl hp hq e
  ·exact h.inj _ _ _ _ _ _ hi hl g2 l2 hp hq e
  ·rfl
theorem Wd.gone(h:Wd P E w0 X F H B w Y Mo)(i:Nat):Wd P E w0 X F (H.set i .gone) B w Y Mo:=by
 have hget:∀(j:Nat)(x:TO),(H.set i .gone)[j]?=some x→x≠.gone→H[j]?=some x:=fun j x hx hne=>by
  by_cases e:i=j
  ·subst e;rw[List.getElem?_set]at hx;split at hx
   ·split at hx
    ·cases hx;exact absurd rfl hne
    ·cases hx
   ·exact hx
  ·rwa[List.getElem?_set_ne e]at hx
 have ng:∀{x:TO},vB x=true→x≠.gone:=fun h e=>by subst e;cases h
 exact⟨h.st,fun j x hx hlx=>h.ob j x (hget j x hx (ng hlx)) hlx,fun j cs hx=>h.fz j cs (hget j _ hx (by simp)),fun j hj=>h.nn j (by simpa using hj),
  fun j1 j2 o1 o2 p q h1 l1 h2 l2 hp hq e=>h.inj j1 j2 o1 o2 p q (hget _ _ h1 (ng l1)) l1 (hget _ _ h2 (ng l2)) l2 hp hq e,h.bN,h.iv⟩
theorem Wd.rowCells(h:Wd P E w0 X F H B w Y Mo){i b C o n:Nat}{cs us:List T}(hB:B i=some (b,C))(hr:nZ (nth .gone H i)=some cs)(ht:jT n (jK cs o)=some us):∃vs,vs.length=n∧zN B (rd w Y) us vs∧jM w ⟨b,o,none⟩ vs:=by
 rw[jA]at hr;cases hi:H[i]? with
 | none=>rw[List.getD_eq_getElem?_getD,hi]at hr;simp[nZ]at hr
 | some x=>
  rw[List.getD_eq_getElem?_getD,hi]at hr;have cellsCase:∀(c:Array Value)(e:TypeId)(z:Nat×Nat),w.heap[b]?=some (.cells c e z)→zN B (rd w Y) cs (c.toList.take cs.length)→∃vs,vs.length=n∧zN B (rd w Y) us vs∧jM w ⟨b,o,none⟩ vs:=fun c e z hb hR=>by
   obtain⟨h1,h2⟩:=zN.take (hR.drop o) ht;refine⟨_,h2,h1,fun j v hj=>?_⟩;rw[yC,cell_of_row w b _ c e z hb];have hj':j<n:=by rw[←h2];exact(List.getElem?_eq_some_iff.1 hj).1
   rw[List.getElem?_take,if_pos hj',List.getElem?_drop,List.getElem?_take]at hj;split at hj
   ·simpa using hj
   ·cases hj
  cases x with
  | row cs' e=>
   simp only[Option.getD_some,nZ,Option.some.injEq]at hr;subst hr;obtain⟨b',C',ob,g1,g2,g3⟩:=h.ob i _ hi rfl;rw[hB]at g1;cases g1;cases g3 with
   | @row _ _ c hR=>exact cellsCase c e _ (h.heap g2) (by rw[hR.length,List.take_length];exact hR)
  | gro cs' e=>
   simp only[Option.getD_some,nZ,Option.some.injEq]at hr;subst hr;obtain⟨b',C',ob,g1,g2,g3⟩:=h.ob i _ hi rfl;rw[hB]at g1;cases g1;cases g3 with
   | @gro _ _ c i0 _ _ _ hR=>exact cellsCase c e _ (h.heap g2) hR
  | fz cs'=>
   simp only[Option.getD_some,nZ,Option.some.injEq]at hr;subst hr;obtain⟨b',C',g1,g2⟩:=h.fz i _ hi;rw[hB]at g1;cases g1;have:=(g2.drop o).cells ht;simpa using this
  | _=>simp[nZ]at hr
theorem Wd.from(h:Wd P E w0 X F H B w Y Mo){t:T}{v:Value}{n:Nat}{cs us:List T}(hR:Rep B (rd w Y) t v)(hf:bG H t=some cs)(ht:jT n cs=some us):∃b o vs,v= .pointer (some ⟨b,o,none⟩)∧vs.length=n∧zN B (rd w Y) us vs∧jM w ⟨b,o,none⟩ vs:=by
 cases t<;>simp only[bG]at hf<;>try cases hf
 ·obtain⟨b,o,rfl,hc⟩:=hR.fpI;obtain⟨vs,h1,h2,h3⟩:=hc.cells ht;exact⟨b,o,vs,rfl,h1,h2,h3⟩
 ·rename_i i o;cases hr:nZ (nth .gone H i)with
  | none=>simp[hr]at hf
  | some cs'=>
   simp only[hr,Option.some.injEq]at hf;subst hf;cases hR with
   | @op _ _ b C hB=>
    obtain⟨vs,h1,h2,h3⟩:=h.rowCells hB hr ht;exact⟨b,o,vs,rfl,h1,h2,h3⟩
theorem Wd.slice(h:Wd P E w0 X F H B w Y Mo){t:T}{v:Value}{n s:Nat}{us:List T}(hR:Rep B (rd w Y) t v)(hn:jJ t=some n)(hc:qI H s t=some us):∃ad c vs,v= .slice ad n c∧vs.length=n*s∧zN B (rd w Y) us vs∧(n*s≠0→∃a,ad=some a)∧∀a,ad=some a→jM w a vs:=by
 have nul:∀{us:List T},jT 0 ([]:List T)=some us→us=[]:=fun h=>by simpa[jT]using h.symm
 cases t with
 | u=>cases hc
 | fp=>cases hc
 | op=>cases hc
 | ag=>cases hc
 | tu=>cases hc
 | fn=>cases hc
 | fb=>cases hc
 | om=>cases hc
 | yl=>cases hc
 | hv=>cases hc
 | ls g A l=>
  simp only[jJ,Option.some.injEq]at hn;subst hn;simp only[qI]at hc;cases hb:Nat.beq s A.size with
  | false=>simp[hb]at hc
  | true=>
   simp only[hb,cond_true,Option.some.injEq]at hc;obtain rfl:=Nat.eq_of_beq_eq_true hb;subst hc;have ht:jT (l.length*A.size) (yA g A l)=some (yA g A l):=by rw[←dD g A l];exact fI _
   obtain⟨ad,c,rfl,_,hh⟩:=hR.lsS.slI;rcases hh with⟨h0,h1⟩ | ⟨b,o,rfl,hc'⟩
   ·refine⟨ad,c,[],rfl,by simp[h0],?_,by simp[h0],fun a _ j v e=>by simp at e⟩
    rw[h1];trivial
   ·obtain⟨vs,h1,h2,h3⟩:=hc'.cells ht;exact⟨_,c,vs,rfl,h1,h2,fun _=>⟨_,rfl⟩,fun a e=>by cases e;exact h3⟩
 | v x=>
  obtain⟨rfl,_⟩:=hR.vI;unfold qI at hc;split at hc;all_goals first
   | (rename_i e;cases e;done)
   | (cases hc;done)
   | skip
  rename_i e;cases e;simp only[jJ,Option.some.injEq]at hn;subst hn;obtain rfl:=Option.some.inj hc;exact⟨none,0,[],rfl,by simp,trivial,by simp,fun a e=>by cases e⟩
 | sl cs k=>
  simp only[jJ,Option.some.injEq]at hn;subst hn;simp only[qI]at hc;obtain⟨ad,c,rfl,_,hh⟩:=hR.slI;rcases hh with⟨rfl,rfl⟩ | ⟨b,o,rfl,hc'⟩
  ·rw[Nat.zero_mul]at hc;obtain rfl:=nul hc;exact⟨ad,c,[],rfl,by simp,trivial,by simp,fun a _ j v e=>by simp at e⟩
  ·obtain⟨vs,h1,h2,h3⟩:=hc'.cells hc;exact⟨_,c,vs,rfl,h1,h2,fun _=>⟨_,rfl⟩,fun a e=>by cases e;exact h3⟩
 | sn cs k=>
  simp only[jJ,Option.some.injEq]at hn;subst hn;simp only[qI]at hc;obtain⟨ad,c,rfl,_,hh⟩:=(show Rep B (rd w Y) (.sl cs k) v from hR.dn).slI;rcases hh with⟨rfl,rfl⟩ | ⟨b,o,rfl,hc'⟩
  ·rw[Nat.zero_mul]at hc;obtain rfl:=nul hc;exact⟨ad,c,[],rfl,by simp,trivial,by simp,fun a _ j v e=>by simp at e⟩
  ·obtain⟨vs,h1,h2,h3⟩:=hc'.cells hc;exact⟨_,c,vs,rfl,h1,h2,fun _=>⟨_,rfl⟩,fun a e=>by cases e;exact h3⟩
 | st cs k=>
  simp only[jJ,Option.some.injEq]at hn;subst hn;simp only[qI]at hc;obtain⟨ad,rfl,hh⟩:=hR.stI;rcases hh with⟨rfl,rfl⟩ | ⟨b,o,rfl,hc'⟩
  ·rw[Nat.zero_mul]at hc;obtain rfl:=nul hc;exact⟨ad,0,[],rfl,by simp,trivial,by simp,fun a _ j v e=>by simp at e⟩
  ·obtain⟨vs,h1,h2,h3⟩:=hc'.cells hc;exact⟨_,_,vs,rfl,h1,h2,fun _=>⟨_,rfl⟩,fun a e=>by cases e;exact h3⟩
 | os i o k c=>
  simp only[jJ,Option.some.injEq]at hn;subst hn;simp only[qI]at hc;cases hr:nZ (nth .gone H i)with
  | none=>simp[hr]at hc
  | some cs'=>
   simp only[hr]at hc;cases hR with
   | @os _ _ _ _ b C hB=>
    obtain⟨vs,h1,h2,h3⟩:=h.rowCells hB hr hc;exact⟨_,c,vs,rfl,h1,h2,fun _=>⟨_,rfl⟩,fun a e=>by cases e;exact h3⟩
 | og i o k=>
  simp only[jJ,Option.some.injEq]at hn;subst hn;simp only[qI]at hc;cases hr:nZ (nth .gone H i)with
  | none=>simp[hr]at hc
  | some cs'=>
   simp only[hr]at hc;cases hR with
   | @og _ _ _ c b C hB _ _=>
    obtain⟨vs,h1,h2,h3⟩:=h.rowCells hB hr hc;exact⟨_,c,vs,rfl,h1,h2,fun _=>⟨_,rfl⟩,fun a e=>by cases e;exact h3⟩
end
def Ans(P:Program)(w:World)(ρ:Operand→Value)(o:Oper)(B:Bm)(r:Rd)(k:Nat):T×Option TO→Prop
 | (t,none)=>∃v,(execOp ρ o).run P w= .ok (.value v) w∧Rep B r t v
 | (t,some ob)=>∃(C:Nat)(obj:Obj)(vf:Nat→Value),(∀w',(execOp ρ o).run P w'= .ok (.value (vf w'.heap.size)) (w'.alloc obj))∧vB ob=true∧RO P B r C ob obj∧∀b,Rep (sK B k (b,C)) r t (vf b)
section
variable {P:Program}{E:Nat→Prop}{w0:World}{X:Hid}{F:List Nat}{H:List TO}{B:Bm}{w:World}{Y:Hid}{Mo:List (Nat×Obj)}{ρ:Operand→Value}{ρT:Operand→T}{o:Oper}{r:Rd}{k:Nat}
theorem qB{t:T}{x:T×Option TO}(h:val t=some x)(hA:Ans P w ρ o B r k (t,none)):Ans P w ρ o B r k x:=by cases h;exact hA
theorem zDs{α:Type}:∀{s:Sem α}{a:α},zIt P s=some a→∀w,s.run P w= .ok a w:=by
 intro s;induction s with
 | pure x=>intro a h w;simp only[zIt,Option.some.injEq]at h;subst h;rfl
 | program f ih=>intro a h w;exact ih P h w
 | _=>intro a h w;simp[zIt]at h
theorem zRg:∀{cs:List T}{l vs:List Value},zTx cs=some l→zN B r cs vs→vs=l
 | [],_,[],h,_=>by simp[zTx]at h;exact h.symm
 | t::cs,l,v::vs,h,hR=>by
  simp only[zTx]at h;cases ht:vOf t with
  | none=>simp[ht]at h
  | some x=>
   cases hl:zTx cs with
   | none=>simp[ht,hl]at h
   | some y=>
    simp only[ht,hl,Option.some.injEq]at h;subst h;cases t<;>simp only[vOf]at ht<;>try cases ht
    rw[hR.1.vI.1,zRg hl hR.2]
 | [],_,_::_,_,h=>h.elim
 | _::_,_,[],_,h=>h.elim
theorem zNc{t:T}{x v:Value}(h:sOf t=some x)(hR:Rep B r t v):v=x:=by
 cases t<;>simp only[sOf]at h<;>try cases h
 ·exact hR.vI.1
 ·rename_i cs;obtain⟨vs,rfl,hR2⟩:=hR.agI;cases hl:zTx cs with
  | none=>simp[hl]at h
  | some l=>
   simp only[hl,Option.some.injEq]at h;rw[←h,zRg hl hR2]
theorem zQx:∀{l:List Operand},zQw ρT l=true→∀x∈l,∃v,sOf (ρT x)=some v
 | [],_,x,h=>by cases h
 | y::l,hs,x,h=>by
  simp only[zQw]at hs;cases hy:sOf (ρT y)with
  | none=>simp[hy]at hs
  | some v=>
   rcases List.mem_cons.1 h with rfl | h
   ·exact⟨v,hy⟩
   ·exact zQx (by simpa[hy]using hs) x h
theorem qEg(hρ:∀x,Rep B r (ρT x) (ρ x)){t:T}(h:zBl P ρT o=some t):Ans P w ρ o B r k (t,none):=by
 unfold zBl at h;cases hc:zPr o.op&&zQw ρT o.op.operands.toList with
 | false=>simp[hc]at h
 | true=>
  simp only[hc,cond_true]at h;simp only[Bool.and_eq_true]at hc;have he:execOp ρ o=execOp (sAt ρT) o:=execOp_congr o (mX hc.1) fun x hx=>by
   obtain⟨v,hv⟩:=zQx hc.2 x (by simpa using hx)
   rw[zNc hv (hρ x)];simp[sAt,hv]
  cases hr:zIt P (execOp (sAt ρT) o)with
  | none=>simp[hr,qEj]at h
  | some x=>
   cases x<;>simp only[hr,qEj,Option.some.injEq]at h<;>try cases h
   rename_i v;exact⟨v,by rw[he];exact zDs hr w,zBm v⟩
theorem zXc(k:IntKind)(z:Int):wr k z=k.wrap z:=by
 unfold wr;split
 ·rename_i n;cases h:Nat.blt n (qJr k)with
  | false=>rfl
  | true=>
   have hn:n<qJr k:=by simpa[Nat.blt_eq]using h
   unfold IntKind.wrap;cases k<;>simp only[qJr]at hn<;>simp[IntKind.bits,IntKind.signed]<;>omega
 ·rfl
theorem zLx(a b:Int):ieq a b=(a==b):=by
 cases a<;>cases b<;>simp only[ieq]
 ·rename_i x y;rw[Bool.eq_iff_iff];simp[←Int.ofNat_inj]
 ·rfl
 ·rfl
 ·rename_i x y;rw[Bool.eq_iff_iff];simp
theorem qUd(a b:Int):ilt a b=decide (a<b):=by
 cases a<;>cases b<;>simp only[ilt]
 ·rename_i x y;rw[Bool.eq_iff_iff];simp[Nat.blt_eq]
 ·rename_i x y;rw[Bool.eq_iff_iff];simp;omega
 ·rename_i x y;rw[Bool.eq_iff_iff];simp;omega
 ·rename_i x y;rw[Bool.eq_iff_iff];simp[Nat.blt_eq];omega
theorem zVf{j k:IntKind}(h:Nat.beq (kind j) (kind k)=true):j=k:=by
 cases j<;>cases k<;>first | rfl | (revert h;decide)
theorem qIl{op:BinOp}{k:IntKind}{a b:Int}{c:Value}(h:zOc op k a b=some c)(t:TypeId)(w:World):(binOp op t (.int k a) (.int k b)).run P w= .ok c w∧sc c=true:=by
 have hd:∀{v:Value},(bif ieq b 0 then none else some v)=some c→b≠0∧v=c:=fun{v}h=>by
  cases e:ieq b 0 with
  | true=>rw[e]at h;cases h
  | false=>rw[e]at h;cases h;exact⟨fun k=>(by rw[k]at e;cases e),rfl⟩
 cases op
 case quo=>obtain⟨h1,rfl⟩:=hd h;simp only[binOp,ne_eq,not_true_eq_false,if_false,Op.intDiv,h1,Sem.run_pure,zXc,sc,and_true]
 case rem=>obtain⟨h1,rfl⟩:=hd h;simp only[binOp,ne_eq,not_true_eq_false,if_false,Op.intDiv,h1,Sem.run_pure,sc,and_true]
 all_goals simp only[zOc,Option.some.injEq]at h
 all_goals try cases h
 all_goals simp only[binOp,ne_eq,not_true_eq_false,if_false,Op.intArith,Op.intCmp,Sem.run_pure,zXc,zLx,qUd,sc,and_true]
 all_goals first
  | rfl
  | (simp only[Result.ok.injEq,Value.bool.injEq,and_true,bne,GT.gt,GE.ge];rw[Bool.eq_iff_iff];simp;try omega)
theorem vV{t e:TypeId}(h:elT P t=some e):P.underlying t=some (.slice e):=by
 unfold elT at h;split at h
 ·rename_i x hx;cases h;exact hx
 ·cases h
theorem qCl{d:Nat}{t e:TypeId}{a:Addr}{n c:Nat}(ht:P.underlying t=some (.slice e)):(Op.equalIn (d+1) t (.slice (some a) n c) (.slice none 0 0)).run P w= .ok false w:=by
 unfold Op.equalIn;simp only[underlying,ht,Sem.run_bind,Sem.run_pure,run_program,Result.andThen_ok]
theorem tH{j k:IntKind}(h:Nat.beq (kind j) (kind k)=true):j=k:=by
 have:=Nat.eq_of_beq_eq_true h;cases j<;>cases k<;>first | rfl | cases this
theorem rW(a b:Int):(a==b)=ieq a b:=by
 cases a with
 | ofNat a=>cases b with
  | ofNat b=>
   cases h:Nat.beq a b with
   | true=>obtain rfl:=Nat.eq_of_beq_eq_true h;simp[ieq]
   | false=>simp only[ieq,h,beq_eq_false_iff_ne];intro e;cases e;simp at h
  | negSucc b=>rfl
 | negSucc a=>cases b with
  | ofNat b=>rfl
  | negSucc b=>
   cases h:Nat.beq a b with
   | true=>obtain rfl:=Nat.eq_of_beq_eq_true h;simp[ieq]
   | false=>simp only[ieq,h,beq_eq_false_iff_ne];intro e;cases e;simp at h
theorem zLp{P:Program}{w:World}{d:Nat}{t:TypeId}{k k':IntKind}{a b:Int}(ht:P.underlying t=some (.int k')):(Op.equalIn (d+1) t (.int k a) (.int k b)).run P w= .ok (a==b) w:=by
 unfold Op.equalIn;simp only[underlying,ht,Sem.run_bind,Sem.run_pure,run_program,Result.andThen_ok];simp
theorem zBt{P:Program}{w:World}{t:TypeId}{k':IntKind}{cs:Array Value}{i:Nat}{v:Value}(ht:P.underlying t=some (.int k'))(h:cs[i]?=some v):(part t cs i).run P w= .ok v w:=by
 unfold part isAgg;simp only[underlying,ht,Sem.run_bind,Sem.run_pure,run_program,Result.andThen_ok];simp[h]
theorem qOh{P:Program}{w:World}{d:Nat}{t:TypeId}{f1 f2 f3:Field}{k1 k2 k3 q1 q2 q3:IntKind}{a1 a2 a3 b1 b2 b3:Int}(ht:P.underlying t=some (.struct #[f1,f2,f3]))(hs:P.stoodInHeld t=false)(h1:P.underlying f1.type=some (.int q1))(h2:P.underlying f2.type=some (.int q2))(h3:P.underlying f3.type=some (.int q3))
 (n1:f1.name≠ "_") (n2:f2.name≠ "_") (n3:f3.name≠ "_") (p1:f1.offset=0) (p2:f2.offset=1) (p3:f3.offset=2):
 (Op.equalIn (d+1+1) t (.agg #[.int k1 a1,.int k2 a2,.int k3 a3]) (.agg #[.int k1 b1,.int k2 b2,.int k3 b3])).run P w= .ok (a1==b1&&(a2==b2&&a3==b3)) w:=by
 unfold Op.equalIn;simp only[underlying,ht,Sem.run_bind,Sem.run_pure,run_program,Result.andThen_ok,hs];simp[n1,n2,n3,p1,p2,p3];simp only[zBt (cs:=#[Value.int k1 a1,.int k2 a2,.int k3 a3]) (i:=0) h1 rfl,zBt (cs:=#[Value.int k1 b1,.int k2 b2,.int k3 b3]) (i:=0) h1 rfl,zBt (cs:=#[Value.int k1 a1,.int k2 a2,.int k3 a3]) (i:=1) h2 rfl,zBt (cs:=#[Value.int k1 b1,.int k2 b2,.int k3 b3]) (i:=1) h2 rfl,zBt (cs:=#[Value.int k1 a1,.int k2 a2,.int k3 a3]) (i:=2) h3 rfl,zBt (cs:=#[Value.int k1 b1,.int k2 b2,.int k3 b3]) (i:=2) h3 rfl,Result.andThen_ok];simp only[List.getElem_toArray,List.getElem_cons_succ,List.getElem_cons_zero];have e1:=zLp (P:=P) (w:=w) (d:=d) (a:=a1) (b:=b1) (k:=k1) h1;have e2:=zLp (P:=P) (w:=w) (d:=d) (a:=a2) (b:=b2) (k:=k2) h2;have e3:=zLp (P:=P) (w:=w) (d:=d) (a:=a3) (b:=b3) (k:=k3) h3;rw[e1];cases a1==b1
 ·simp
 simp only[Result.andThen_ok];rw[if_neg (by simp),e2]
 cases a2==b2
 ·simp
 simp only[Result.andThen_ok];rw[if_neg (by simp),e3]
 cases a3==b3
 ·simp
 simp
theorem xN{k:IntKind}{o:Nat}{f:Field}(h:qDi P k o f=true):P.underlying f.type=some (.int k)∧f.offset=o∧f.name≠ "_" :=by
 unfold qDi at h;split at h
 ·rename_i k' hu;simp only[Bool.and_eq_true]at h;refine⟨by rw[hu,tH h.1],Nat.eq_of_beq_eq_true h.2.1,fun e=>?_⟩
  rw[e]at h;have:=h.2.2;simp at this
 ·cases h
theorem qSw{op:BinOp}{t t2:TypeId}{x y:Operand}{xs ys:List T}(ho:o.op= .binOp op t x y t2)(hx:Rep B r (.ag xs) (ρ x))(hy:Rep B r (.ag ys) (ρ y)){z:T×Option TO}(h:eq3 P op t xs ys=some z):Ans P w ρ o B r k z:=by
 unfold eq3 at h;split at h
 ·rename_i i a j b q c i' a' j' b' q' c';cases hc:wJ P t (.prod (.int i) (.prod (.int j) (.int q)))&&(!P.eqGuardType P.depth t&&(Nat.beq (kind i) (kind i')&&(Nat.beq (kind j) (kind j')&&Nat.beq (kind q) (kind q'))))with
  | false=>simp[hc]at h
  | true=>
   simp only[hc,cond_true]at h;simp only[Bool.and_eq_true,Bool.not_eq_true']at hc;obtain⟨hk,hg,e1,e2,e3⟩:=hc;obtain rfl:=tH e1;obtain rfl:=tH e2;obtain rfl:=tH e3;obtain⟨vs,hvx,hvs⟩:=hx.agI;obtain⟨us,hvy,hus⟩:=hy.agI;match vs,hvs with
   | [v1,v2,v3],⟨g1,g2,g3,_⟩=>
    match us,hus with
    | [u1,u2,u3],⟨f1,f2,f3,_⟩=>
     obtain⟨rfl,_⟩:=g1.vI;obtain⟨rfl,_⟩:=g2.vI;obtain⟨rfl,_⟩:=g3.vI;obtain⟨rfl,_⟩:=f1.vI;obtain⟨rfl,_⟩:=f2.vI;obtain⟨rfl,_⟩:=f3.vI;unfold wJ at hk;simp only at hk;split at hk
     ·rename_i f0 f1 f2 hu;simp only[Bool.and_eq_true,Bool.not_eq_true']at hk;obtain⟨hs,g0,g1,g2⟩:=hk;obtain⟨u0,o0,n0⟩:=xN g0;obtain⟨u1,o1,n1⟩:=xN g1;obtain⟨u2,o2,n2⟩:=xN g2;have he:(Op.equalIn 10000 t (.agg #[.int i a,.int j b,.int q c]) (.agg #[.int i a',.int j b',.int q c'])).run P w= .ok (ieq a a'&&(ieq b b'&&ieq c c')) w:=by
       have:=qOh (P:=P) (w:=w) (d:=9998) (k1:=i) (k2:=j) (k3:=q) (a1:=a) (a2:=b) (a3:=c) (b1:=a') (b2:=b') (b3:=c') hu hs u0 u1 u2 n0 n1 n2 o0 o1 o2;rw[rW,rW,rW]at this;exact this
      generalize (ieq a a'&&(ieq b b'&&ieq c c'))=bb at he h;split at h
      ·refine qB h ⟨_,?_,.v rfl⟩;unfold execOp;simp only[ho,hvx,hvy,binOp,Op.equal,Op.maxDepth,eqGuard,Sem.run_pure,Sem.run_bind,Result.andThen_ok];simp[hg,run_program,Sem.run_bind,Sem.run_pure];rw[he];rfl
      ·refine qB h ⟨_,?_,.v rfl⟩;unfold execOp;simp only[ho,hvx,hvy,binOp,Op.equal,Op.maxDepth,eqGuard,Sem.run_pure,Sem.run_bind,Result.andThen_ok];simp[hg,run_program,Sem.run_bind,Sem.run_pure];rw[he];rfl
      ·cases h
     ·cases hk
 ·cases h
theorem qLq(hρ:∀x,Rep B r (ρT x) (ρ x)){op:BinOp}{t t2:TypeId}{x y:Operand}(ho:o.op= .binOp op t x y t2){z:T×Option TO}(h:zYw P op t (ρT x) (ρT y)=some z):Ans P w ρ o B r k z:=by
 have hx:=hρ x;have hy:=hρ y;unfold zYw at h;have nil:∀{a:Option Addr}{n c:Nat},a.isSome=true→ρ x= .slice a n c→ρ y= .slice none 0 0→zGx P op t=some z→Ans P w ρ o B r k z:=fun{a n c}ha hx hy hz=>by
  obtain⟨a,rfl⟩:=Option.isSome_iff_exists.1 ha;unfold zGx at hz;cases he:elT P t with
  | none=>simp[he]at hz
  | some e=>
   have ht:=vV he;simp only[he]at hz;cases op<;>simp only[Option.some.injEq]at hz<;>try cases hz
   all_goals
    refine⟨_,?_,.v rfl⟩;unfold execOp;simp only[ho,hx,hy,eqGuard,binOp,Op.equal,Op.maxDepth,qCl (d:=9999) ht,Sem.run_bind,Sem.run_pure,Result.andThen_ok];simp[Sem.run_bind,Sem.run_pure]
 split at h
 ·rename_i a b e1 e2;rw[e1]at hx;rw[e2]at hy;obtain⟨hx,_⟩:=hx.vI;obtain⟨hy,_⟩:=hy.vI;cases hb:bin op a b with
  | none=>simp[hb]at h
  | some c=>
   simp only[hb]at h;refine qB h ?_;obtain⟨k1,a1,k2,b1,rfl,rfl⟩:∃k1 a1 k2 b1,a= .int k1 a1∧b= .int k2 b1:=by
    unfold bin at hb;split at hb
    ·exact⟨_,_,_,_,rfl,rfl⟩
    ·cases hb
   simp only[bin]at hb;cases hk:Nat.beq (kind k1) (kind k2)with
   | false=>simp[hk]at hb
   | true=>
    obtain rfl:=zVf hk;simp only[hk,cond_true]at hb;obtain⟨h1,h2⟩:=qIl (P:=P) hb t w;refine⟨c,?_,.v h2⟩;have hg:(eqGuard op t x y (.int k1 a1) (.int k1 b1)).run P w= .ok () w:=by
     unfold eqGuard;split<;>rfl
    unfold execOp;simp only[ho,hx,hy,Sem.run_bind,hg,Result.andThen_ok,h1,Sem.run_pure]
 ·rename_i e1 e2;rw[e1]at hx;rw[e2]at hy;obtain⟨b,C,hx,_⟩:=hx.osI;exact nil rfl hx hy.vI.1 h
 ·rename_i e1 e2;rw[e1]at hx;rw[e2]at hy;obtain⟨b,C,c,hx,_⟩:=hx.ogI;exact nil rfl hx hy.vI.1 h
 ·rename_i e1 e2;rw[e1]at hx;rw[e2]at hy;obtain⟨ad,c,hx,_,⟨_,h2⟩ | ⟨b,q,rfl,_⟩⟩:=hx.slI
  ·cases h2
  ·exact nil rfl hx hy.vI.1 h
 ·rename_i e1 e2;rw[e1]at hx;rw[e2]at hy;obtain⟨ad,hx,⟨_,h2⟩ | ⟨b,q,rfl,_⟩⟩:=hx.stI
  ·cases h2
  ·exact nil rfl hx hy.vI.1 h
 ·rename_i e1 e2;rw[e1]at hx;rw[e2]at hy;exact qSw ho hx hy h
 ·cases h
theorem Rep.bool{b:Bool}{v:Value}(h:Rep B r (.v (.bool b)) v):v= .bool b:=h.vI.1
theorem zUu{x:Operand}(ho:o.op= .move x∨o.op= .assign x)(w:World):(execOp ρ o).run P w= .ok (.value (ρ x)) w:=by
 unfold execOp;rcases ho with ho | ho<;>simp only[ho]<;>rfl
theorem qGb(hρ:∀x,Rep B r (ρT x) (ρ x)){c a b:Operand}(ho:o.op= .pick c a b){z:T×Option TO}(h:zKg (ρT c) (ρT a) (ρT b)=some z):Ans P w ρ o B r k z:=by
 have hc:=hρ c;unfold zKg at h;split at h
 ·rename_i q e;rw[e]at hc;refine qB h ?_;refine⟨bif q then ρ a else ρ b,?_,?_⟩
  ·unfold execOp;simp only[ho,hc.bool,asBool,Sem.run_bind,Sem.run_pure,Result.andThen_ok];cases q<;>rfl
  ·cases q
   ·exact hρ b
   ·exact hρ a
 ·cases h
theorem mO{e:TypeId}{cs:List T}(h:zer P e=some cs):∃i z,P.info? e=some i∧i.zero=some z∧cs=z.cells.toList.map ofV:=by
 unfold zer at h;cases hi:P.info? e with
 | none=>simp[hi]at h
 | some i=>
  simp only[hi]at h;cases hz:i.zero with
  | none=>simp[hz]at h
  | some z=>simp only[hz,Option.some.injEq]at h;exact⟨i,z,rfl,hz,h.symm⟩
theorem mG{e:TypeId}{i:TypeInfo}{z:Value}(hi:P.info? e=some i)(hz:i.zero=some z)(w:World):(zeroValue e).run P w= .ok z w:=by
 simp[zeroValue,typeInfo,hi,hz,Sem.run_bind,Sem.run_pure]
theorem zYv{e:TypeId}(ho:o.op= .alloc e){z:T×Option TO}(h:zTe P k e=some z):Ans P w ρ o B r k z:=by
 unfold zTe at h;cases hz:zer P e with
 | none=>simp[hz]at h
 | some cs=>
  simp only[hz,Option.some.injEq]at h;subst h;obtain⟨i,v,h1,h2,rfl⟩:=mO hz;refine⟨0,.cells v.cells e (0,0),fun n=> .pointer (some ⟨n,0,none⟩),fun w'=>?_,rfl,.row (mD _),fun b=> .op (qJ _ _ _)⟩;unfold execOp;simp only[ho,Instr.alloc,Sem.run_bind,mG h1 h2,Result.andThen_ok,Sem.run_pure,newVar,newRow];rfl
theorem qDl{t:T}(h:isU t=false):t≠.u:=fun e=>by subst e;cases h
theorem qLr(hρ:∀x,Rep B r (ρT x) (ρ x)){e:TypeId}{x:Operand}(ho:o.op= .box e x){z:T×Option TO}(h:qYy k e (ρT x)=some z):Ans P w ρ o B r k z:=by
 unfold qYy at h;cases hu:isU (ρT x)with
 | true=>simp[hu]at h
 | false=>
  simp only[hu,cond_false,Option.some.injEq]at h;subst h;refine⟨0,.cells (ρ x).cells e (0,0),fun n=> .pointer (some ⟨n,0,none⟩),fun w'=>?_,rfl,.row ((hρ x).cells (qDl hu)),fun b=> .op (qJ _ _ _)⟩;unfold execOp;simp only[ho,Instr.box,newVar,newRow,Sem.run_bind,Sem.run_pure];rfl
theorem qLw(hρ:∀x,Rep B r (ρT x) (ρ x)){x:Operand}(ho:o.op= .nilCheck x){z:T×Option TO}(h:qLv (ρT x)=some z):Ans P w ρ o B r k z:=by
 have hx:=hρ x;unfold qLv at h;split at h
 ·rename_i e;rw[e]at hx;obtain⟨b,C,hv,_⟩:=hx.opI;refine qB h ⟨ρ x,?_,hx⟩;unfold execOp;simp only[ho,hv,Sem.run_pure]
 ·rename_i e;rw[e]at hx;obtain⟨b,o',hv,_⟩:=hx.fpI;refine qB h ⟨ρ x,?_,hx⟩;unfold execOp;simp only[ho,hv,Sem.run_pure]
 ·rename_i e;rw[e]at hx;obtain⟨vs,hv,_⟩:=hx.fnI;refine qB h ⟨ρ x,?_,hx⟩;unfold execOp;simp only[ho,hv,Sem.run_pure]
 ·rename_i e;rw[e]at hx;obtain⟨b,C,hv,_⟩:=hx.ylI;refine qB h ⟨ρ x,?_,hx⟩;unfold execOp;simp only[ho,hv,Sem.run_pure]
 ·cases h
theorem zFe{g:Bool}{n:Nat}{us:List T}{vs:List Value}(hl:vs.length=n)(hg:(g||Nat.beq n 1)=true)(h:zN B r us vs):Rep B r (mkT g us) (ldV g vs)∧(g=true∨vs.length=1):=by
 cases g with
 | true=>exact⟨Rep.mkAg h,.inl rfl⟩
 | false=>
  have h1:vs.length=1:=by rw[hl];exact Nat.eq_of_beq_eq_true (by simpa using hg)
  obtain⟨v,rfl⟩:=List.length_eq_one_iff.1 h1;match us,h with
  | [t],h=>exact⟨h.1,.inr rfl⟩
structure zIk(B:Bm)(r:Rd)(w:World)(H:List TO):Prop where
 ptr:∀(t:T)(v:Value)(n:Nat)(cs us:List T),Rep B r t v→bG H t=some cs→jT n cs=some us→∃b o vs,v= .pointer (some ⟨b,o,none⟩)∧vs.length=n∧zN B r us vs∧jM w ⟨b,o,none⟩ vs
 map:∀(i b C:Nat)(l:List (Value×T)),B i=some (b,C)→nth .gone H i= .map l→∃es clk,w.heap[b]?=some (.map es clk)∧xD B r l es.toList
 mapd:∀(i b C:Nat)(d:MD),B i=some (b,C)→nth .gone H i= .mapd d→∃es clk,w.heap[b]?=some (.map es clk)∧xD B r d.ents es.toList
theorem Wd.hp(hW:Wd P E w0 X F H B w Y Mo):zIk B (rd w Y) w H:=⟨fun _ _ _ _ _ h1 h2 h3=>hW.from h1 h2 h3,fun i b C l hB hn=>by
 rw[jA,List.getD_eq_getElem?_getD]at hn;cases hi:H[i]? with
 | none=>rw[hi]at hn;cases hn
 | some x=>
  rw[hi]at hn;simp only[Option.getD_some]at hn;subst hn;obtain⟨b',C',ob,g1,g2,g3⟩:=hW.ob i _ hi rfl;rw[hB]at g1;cases g1;cases g3 with
  | @map _ es clk h _ _=>exact⟨es,clk,hW.heap g2,h⟩,fun i b C d hB hn=>by
 rw[jA,List.getD_eq_getElem?_getD]at hn;cases hi:H[i]? with
 | none=>rw[hi]at hn;cases hn
 | some x=>
  rw[hi]at hn;simp only[Option.getD_some]at hn;subst hn;obtain⟨b',C',ob,g1,g2,g3⟩:=hW.ob i _ hi rfl;rw[hB]at g1;cases g1;cases g3 with
  | @mapd _ es clk h _ _=>exact⟨es,clk,hW.heap g2,h⟩⟩
theorem zQe(hH:zIk B r w H)(hρ:∀x,Rep B r (ρT x) (ρ x)){t:TypeId}{x:Operand}(ho:o.op= .load t x){z:T×Option TO}(h:zBr P H t (ρT x)=some z):Ans P w ρ o B r k z:=by
 unfold zBr at h;cases hl:ldT P t with
 | none=>simp[hl]at h
 | some gs=>
  obtain⟨g,s⟩:=gs;cases hf:bG H (ρT x)with
  | none=>simp[hl,hf]at h
  | some cs=>
   cases ht:jT s cs with
   | none=>simp[hl,hf,ht]at h
   | some us=>
    simp only[hl,hf,ht]at h;cases hg:(g||Nat.beq s 1)with
    | false=>simp[hg]at h
    | true=>
     simp only[hg,cond_true]at h;obtain⟨b,off,vs,hv,h1,h2,h3⟩:=hH.ptr _ _ _ _ _ (hρ x) hf ht;obtain⟨h4,h5⟩:=zFe h1 hg h2;exact qB h ⟨_,zB ho hv (by rw[h1];exact hl) h5 h3,h4⟩
theorem zN.map(hρ:∀x,Rep B r (ρT x) (ρ x)):∀l:List Operand,zN B r (l.map ρT) (l.map ρ)
 | []=>trivial
 | x::l=>⟨hρ x,zN.map hρ l⟩
theorem zPn(hρ:∀x,Rep B r (ρT x) (ρ x)){f:FuncId}{caps:Array Operand}(ho:o.op= .makeFunc (.func f) #[] caps):Ans P w ρ o B r k (.fn f (caps.toList.map ρT),none):=by
 refine⟨.func (.func f) #[] (caps.map ρ),?_,?_⟩
 ·unfold execOp;simp[ho,Instr.makeFunc,Sem.run_bind,Sem.run_pure,Result.andThen_ok]
 ·have:=Rep.mkFn (k:=f) (zN.map hρ caps.toList);cases caps;simpa using this
theorem zMh(hρ:∀x,Rep B r (ρT x) (ρ x)){f:FuncId}{first:Array Operand}(ho:o.op= .makeFunc (.func f) first #[]):Ans P w ρ o B r k (.fb f (first.toList.map ρT),none):=by
 refine⟨.func (.func f) (first.map ρ) #[],?_,?_⟩
 ·unfold execOp;simp[ho,Instr.makeFunc,Sem.run_bind,Sem.run_pure,Result.andThen_ok]
 ·have:=Rep.mkFb (k:=f) (zN.map hρ first.toList)
  cases first
  simpa using this
theorem zQc(hρ:∀x,Rep B r (ρT x) (ρ x)){x:Operand}{i:Nat}(ho:o.op= .extract x i){z:T×Option TO}(h:zBq (ρT x) i=some z):Ans P w ρ o B r k z:=by
 have hx:=hρ x;unfold zBq at h;split at h
 ·rename_i ts e;rw[e]at hx;obtain⟨vs,hv,hR⟩:=hx.tuI;split at h
  ·rename_i t hi;obtain⟨v,h1,h2⟩:=hR.get hi;refine qB h ⟨v,?_,h2⟩;unfold execOp;simp only[ho,hv,Instr.extract,List.getElem?_toArray,h1,Sem.run_bind,Sem.run_pure,Result.andThen_ok]
  ·cases h
 ·cases h
theorem zYh{t:T}{n:Nat}{v:Value}(h:jJ t=some n)(hR:Rep B r t v):∃ad c,v= .slice ad n c:=by
 cases t with
 | v x=>
  obtain⟨rfl,_⟩:=hR.vI;unfold jJ at h;split at h<;>(try (rename_i e;cases e;done))<;>(try cases h)
  rename_i e;cases e;exact⟨_,_,rfl⟩
 | sl cs m=>simp only[jJ,Option.some.injEq]at h;subst h;obtain⟨ad,c,hv,_⟩:=hR.slI;exact⟨ad,c,hv⟩
 | sn cs m=>simp only[jJ,Option.some.injEq]at h;subst h;obtain⟨ad,c,hv,_⟩:=(show Rep B r (.sl cs m) v from hR.dn).slI;exact⟨ad,c,hv⟩
 | st cs m=>simp only[jJ,Option.some.injEq]at h;subst h;obtain⟨ad,hv,_⟩:=hR.stI;exact⟨ad,_,hv⟩
 | os i o m c=>simp only[jJ,Option.some.injEq]at h;subst h;obtain⟨b,C,hv,_⟩:=hR.osI;exact⟨_,_,hv⟩
 | og i o m=>simp only[jJ,Option.some.injEq]at h;subst h;obtain⟨b,C,c,hv,_⟩:=hR.ogI;exact⟨_,_,hv⟩
 | ls g A l=>simp only[jJ,Option.some.injEq]at h;subst h;obtain⟨ad,c,hv,_⟩:=hR.lsI;exact⟨_,_,hv⟩
 | hv A l=>simp only[jJ,Option.some.injEq]at h;subst h;obtain⟨ad,c,hv,_⟩:=hR.hvI;exact⟨_,_,hv⟩
 | _=>cases h
theorem qLu(hρ:∀x,Rep B r (ρT x) (ρ x)){c:Call}{x:Operand}(ho:o.op= .call c)(hc:c.callee= .builtin .len)(hx:c.args.toList=[x])(ht:∀n ad cp,ρ x= .slice ad n cp→∃t e,c.argTypes[0]?=some t∧P.underlying t=some (.slice e)){z:T×Option TO}(h:qYz (ρT x)=some z):Ans P w ρ o B r k z:=by
 unfold qYz at h;cases hn:jJ (ρT x)with
 | none=>simp[hn]at h
 | some n=>
  simp only[hn]at h;obtain⟨ad,cp,hv⟩:=zYh hn (hρ x);obtain⟨t,e,h1,h2⟩:=ht _ _ _ hv;refine qB h ⟨.int .i64 (n:Int),?_,.v rfl⟩;have ha:c.args=#[x]:=Array.ext' (by simpa using hx)
  unfold execOp;simp only[ho,resolve,hc,Sem.run_bind,Sem.run_pure,Result.andThen_ok,invoke,builtin,Builtin.len_,ha,List.map_toArray,List.map_cons,List.map_nil,h1,hv];simp[underlying,h2,run_program,Sem.run_bind,Sem.run_pure,goInt]
theorem wO{t:T}{n:Nat}{v:Value}(h:sV t=some n)(hR:Rep B r t v):∃kd,v= .int kd (n:Int):=by
 unfold sV at h;split at h
 ·cases h;exact⟨_,hR.vI.1⟩
 ·cases h
def Bd(ρ:Operand→Value)(d l:Nat):Option Operand→Prop
 | none=>l=d
 | some a=>∃kd,ρ a= .int kd (l:Int)
theorem zWk{t e:TypeId}{x:Operand}{lo hi mx:Option Operand}{ad:Option Addr}{len cap g l h m:Nat}{q:Bool}(ho:o.op= .slice t x lo hi mx)(ht:P.underlying t=some (.slice e))(he:ldT P e=some (q,g))(hx:ρ x= .slice ad len cap)
  (hlo:Bd ρ 0 l lo) (hhi:Bd ρ len h hi) (hmx:Bd ρ cap m mx) (hm:hi=none→mx=none)
  (h1:l≤h) (h2:h≤m∨hi=none) (h3:m≤cap) (w:World):(execOp ρ o).run P w= .ok (.value (.slice (if m=l then ad else ad.map (·.add (l*g))) (h-l) (m-l))) w:=by
 unfold execOp;have c1:(l:Int)≤(h:Int):=by omega
 have c3:(m:Int)≤(cap:Int):=by omega
 have z1:(0:Int)≤(l:Int):=by omega
 have z2:(0:Int)≤(h:Int):=by omega
 have z3:(0:Int)≤(m:Int):=by omega
 have c2:∀a,hi=some a→(h:Int)≤(m:Int):=fun a e=>by
  rcases h2 with h2 | h2
  ·omega
  ·rw[e]at h2;cases h2
 cases lo<;>cases hi<;>cases mx<;>simp only[Bd]at hlo hhi hmx;all_goals try (obtain⟨_,hlo⟩:=hlo)
 all_goals try (obtain⟨_,hmx⟩:=hmx)
 all_goals try (cases hm rfl;done)
 all_goals try (obtain⟨_,hhi⟩:=hhi)
 all_goals try subst hlo
 all_goals try subst hmx
 all_goals try subst hhi
 all_goals try (have c2:=c2 _ rfl)
 all_goals simp[ho,hx,Instr.sliceAt,Instr.slice,Instr.sliceBounds,Instr.sliceBound,asIntOf,underlying,ht,Sem.run_bind,Sem.run_pure,run_program,Result.andThen_ok,Gv.run_sizeOf he, *]
 all_goals (intro hh;exfalso;omega)
end
section
variable {P:Program}{B:Bm}{r:Rd}{w:World}
theorem zCc:∀(n:Nat)(l u:List T),fH n l=some u→n≤l.length∧u=l.take n
 | 0,_,_,h=>by simp[fH]at h;subst h;simp
 | _+1,[],_,h=>by simp[fH]at h
 | n+1,x::l,u,h=>by
  simp only[fH]at h;cases he:fH n l with
  | none=>simp[he]at h
  | some y=>
   simp only[he,Option.some.injEq]at h;obtain⟨h1,h2⟩:=zCc n l y he;subst h;subst h2;exact⟨by simpa using h1,by simp⟩
theorem zAd:∀(l:List T)(n:Nat),lM l n=l.drop n
 | [],_=>by simp[lM]
 | _::_,0=>rfl
 | _::l,n+1=>by simp[lM,zAd l n]
theorem lW{A C:Ty}{l:List A.den}{m:List C.den}(h:wY A C l=some m):A=C∧HEq l m:=by
 unfold wY at h;split at h
 ·rename_i hb;have e:=Ty.beq_eq hb;subst e;cases h;exact⟨rfl,HEq.rfl⟩
 ·cases h
theorem lV{g:Tg}:∀(A:Ty){ts:List T}{x:A.den}{vs:List Value},nM g A ts=some x→zN B r ts vs→zN B r (qF g A x) vs∧ts.length=A.size:=by
 intro A;induction A with
 | lim=>
  intro ts x vs h hR;replace h:qBj ts=some x:=h;unfold qBj at h;split at h
  ·rename_i k a;cases hk:Nat.beq (kind k) 6 with
   | false=>simp[hk]at h
   | true=>
    simp only[hk,cond_true,Option.some.injEq]at h;subst h;obtain rfl:k= .u32:=tH (k:= .u32) hk;exact⟨hR,rfl⟩
  ·cases h
 | int k=>
  intro ts x vs h hR;replace h:qBi k ts=some x:=h;unfold qBi at h;split at h
  ·rename_i k' a;cases hk:Nat.beq (kind k) (kind k')with
   | false=>simp[hk]at h
   | true=>
    simp only[hk,cond_true,Option.some.injEq]at h;subst h;obtain rfl:=tH hk;exact⟨hR,rfl⟩
  ·cases h
 | bool=>
  intro ts x vs h hR;replace h:qBh ts=some x:=h;unfold qBh at h;split at h
  ·cases h;exact⟨hR,rfl⟩
  ·cases h
 | str=>
  intro ts x vs h hR;replace h:qBl ts=some x:=h;unfold qBl at h;split at h
  ·cases h;exact⟨hR,rfl⟩
  ·cases h
 | list A ih=>
  intro ts x vs h hR;replace h:qBk g A ts=some x:=h;unfold qBk at h;split at h
  ·cases h;match vs,hR with
   | [v],hR=>
    obtain⟨rfl,_⟩:=hR.1.vI;exact⟨⟨.ls ⟨none,0,rfl,Nat.le_refl _,Nat.zero_le _,.inl rfl⟩,trivial⟩,rfl⟩
  ·rename_i g' A' l;cases hg:g.le g' with
   | false=>simp[hg]at h
   | true=>
    simp only[hg,cond_true]at h;obtain⟨rfl,he⟩:=lW h;obtain rfl:=eq_of_heq he;match vs,hR with
    | [v],hR=>
     refine⟨⟨?_,trivial⟩,rfl⟩;have h1:=hR.1;cases h1 with
     | ls h1=>exact .ls (jI.mono (Le.refl _) (fun b h=>h.le hg) _ _ _ h1)
  ·cases h
 | prod A C ih1 ih2=>
  intro ts x vs h hR;simp only[nM]at h;cases ht:fH A.size ts with
  | none=>simp[ht]at h
  | some u=>
   simp only[ht]at h;obtain⟨hle,rfl⟩:=zCc _ _ _ ht;rw[zAd]at h;cases h1:nM g A (ts.take A.size)with
   | none=>simp[h1]at h
   | some a=>
    cases h2:nM g C (ts.drop A.size)with
    | none=>simp[h1,h2]at h
    | some c=>
     simp only[h1,h2,Option.some.injEq]at h;subst h;have hs:=zN.split (ts:=ts.take A.size) (us:=ts.drop A.size) (by rw[List.take_append_drop];exact hR)
     obtain⟨k1,k2⟩:=ih1 h1 hs.1;obtain⟨k3,k4⟩:=ih2 h2 hs.2;refine⟨?_,?_⟩
     ·have:=k1.app k3;rwa[List.take_append_drop]at this
     ·show _=A.size+C.size;rw[←List.take_append_drop A.size ts,List.length_append,k2,k4]
theorem aZ{g:Tg}{A:Ty}{t:T}{x:A.den}{v:Value}(h:zIz g A t=some x)(hR:Rep B r t v):Rep B r (unT g A x) v:=by
 have hl:=jN g A x;unfold zIz at h;split at h
 ·rename_i cs;cases hb:Nat.blt 1 A.size with
  | false=>simp[hb]at h
  | true=>
   simp only[hb,cond_true]at h;obtain⟨vs,rfl,hvs⟩:=hR.agI;have k:=(lV A h hvs).1;have hb:1<A.size:=by simpa using hb
   unfold unT;split
   ·rename_i t ht;rw[ht]at hl;simp at hl;omega
   ·exact Rep.mkAg k
 ·cases hb:Nat.beq A.size 1 with
  | false=>simp[hb]at h
  | true=>
   simp only[hb,cond_true]at h;have k:=(lV A h (vs:=[v]) ⟨hR,trivial⟩).1;rw[Nat.eq_of_beq_eq_true hb]at hl;obtain⟨t',ht⟩:=List.length_eq_one_iff.1 hl;unfold unT;rw[ht]at k ⊢;exact k.1
theorem zVd{kt:TypeId}{K:Ty}{k:K.den}{v:Value}(hk:wJ P kt K=true)(hR:Rep B r (unT .a K k) v):v=xS K k:=by
 unfold wJ at hk;split at hk
 ·exact hR.vI.1
 ·exact hR.vI.1
 ·rename_i i j l;obtain⟨a,b,c⟩:=k;obtain⟨vs,rfl,hvs⟩:=Rep.agI (cs:=[.v (.int i a),.v (.int j b),.v (.int l c)]) hR;match vs,hvs with
  | [v1,v2,v3],⟨g1,g2,g3,_⟩=>
   obtain⟨rfl,_⟩:=g1.vI;obtain⟨rfl,_⟩:=g2.vI;obtain⟨rfl,_⟩:=g3.vI;rfl
 ·cases hk
theorem qUl{kt:TypeId}{K:Ty}{a b:K.den}(hk:wJ P kt K=true)(h:keq K a b=true):a=b:=by
 have hi:∀{x y:Int},ieq x y=true→x=y:=fun h=>by rw[←rW]at h;exact eq_of_beq h
 unfold wJ at hk;split at hk
 ·exact hi h
 ·exact of_decide_eq_true (p:=(a:ByteArray)=b) h
 ·obtain⟨a1,a2,a3⟩:=a;obtain⟨b1,b2,b3⟩:=b;have h:(ieq a1 b1&&(ieq a2 b2&&ieq a3 b3))=true:=h;simp only[Bool.and_eq_true]at h;rw[hi h.1,hi h.2.1,hi h.2.2]
 ·cases hk
theorem zWs(a b:ByteArray):(a==b)=decide (a=b):=by
 obtain⟨x⟩:=a;obtain⟨y⟩:=b;show(x==y)=_;by_cases h:x=y
 ·subst h;simp
 ·simp[h]
def Fnd{α:Type}(K:Ty)(R:α→Value→Prop)(k:K.den)(l:List (K.den×α))(es:List MapEntry)(i:Nat)(q:Option (Nat×Value)):Prop:=
 (q=none∧zSm K k l=false∧(∀z,tV K z k l=z)∧∀y,lT K k y l=l++[(k,y)])∨
 ∃j e f,q=some (i+j,f.val)∧l[j]?=some e∧es[j]?=some f∧f.key=xS K e.1∧keq K k e.1=true∧R e.2 f.val∧zSm K k l=true∧(∀z,tV K z k l=e.2)∧∀y,lT K k y l=l.set j (k,y)
theorem Fnd.nil{α:Type}{K:Ty}{R:α→Value→Prop}{k:K.den}{es:List MapEntry}{i:Nat}:Fnd K R k [] es i none:= .inl ⟨rfl,rfl,fun _=>rfl,fun _=>rfl⟩
theorem Fnd.hit{α:Type}{K:Ty}{R:α→Value→Prop}{k:K.den}{e:K.den×α}{l:List (K.den×α)}{f:MapEntry}{es:List MapEntry}{i:Nat}(h:keq K k e.1=true)(hf:f.key=xS K e.1)(hR:R e.2 f.val):Fnd K R k (e::l) (f::es) i (some (i,f.val)):=
 .inr ⟨0,e,f,rfl,rfl,rfl,hf,h,hR,by simp[zSm,h],fun z=>by simp[tV,h],fun y=>by simp[lT,h]⟩
theorem Fnd.skip{α:Type}{K:Ty}{R:α→Value→Prop}{k:K.den}{e:K.den×α}{l:List (K.den×α)}{f:MapEntry}{es:List MapEntry}{i:Nat}{q:Option (Nat×Value)}(h:keq K k e.1=false)(hq:Fnd K R k l es (i+1) q):Fnd K R k (e::l) (f::es) i q:=by
 rcases hq with⟨h1,h2,h3,h4⟩ | ⟨j,e',f',h1,h2,h3,h4,h5,h6,h7,h8,h9⟩
 ·exact .inl ⟨h1,by simp[zSm,h,h2],fun z=>by simp[tV,h,h3],fun y=>by simp[lT,h,h4]⟩
 ·exact .inr ⟨j+1,e',f',by rw[h1];congr 2;omega,by simpa using h2,by simpa using h3,h4,h5,h6,by simp[zSm,h7],fun z=>by simp[tV,h,h8],fun y=>by simp[lT,h,h9]⟩
def zZq{α:Type}(K:Ty)(R:α→Value→Prop):List (K.den×α)→List MapEntry→Prop
 | [],[]=>True
 | e::l,f::es=>f.key=xS K e.1∧R e.2 f.val∧zZq K R l es
 | _,_=>False
theorem zMl{α:Type}{K:Ty}{R:α→Value→Prop}{k:K.den}{d:TypeDesc}(hs:∀b:K.den,Instr.sameNow d (xS K k) (xS K b)=some (keq K k b)):∀(l:List (K.den×α))(es:List MapEntry)(i:Nat),zZq K R l es→∃q,Instr.findNow d (xS K k) es i=some q∧Fnd K R k l es i q
 | [],[],i,_=>⟨none,rfl,.nil⟩
 | e::l,f::es,i,h=>by
  unfold Instr.findNow;rw[h.1,hs e.1];cases hq:keq K k e.1 with
  | true=>exact⟨_,rfl,.hit hq h.1 h.2.1⟩
  | false=>
   obtain⟨q,h1,h2⟩:=zMl hs l es (i+1) h.2.2;exact⟨q,h1,.skip hq h2⟩
 | [],_::_,_,h=>h.elim
 | _::_,[],_,h=>h.elim
theorem zUj{α:Type}{K:Ty}{R:α→Value→Prop}{k:K.den}{t:TypeId}(hs:∀b:K.den,(Op.equal t (xS K k) (xS K b)).run P w= .ok (keq K k b) w):∀(l:List (K.den×α))(es:List MapEntry)(i:Nat),zZq K R l es→∃q,(Instr.findAsking t (xS K k) es i).run P w= .ok q w∧Fnd K R k l es i q
 | [],[],i,_=>⟨none,rfl,.nil⟩
 | e::l,f::es,i,h=>by
  unfold Instr.findAsking;rw[h.1];simp only[Sem.run_bind,hs e.1,Result.andThen_ok];cases hq:keq K k e.1 with
  | true=>exact⟨_,by simp[Sem.run_pure],.hit hq h.1 h.2.1⟩
  | false=>
   obtain⟨q,h1,h2⟩:=zUj hs l es (i+1) h.2.2;exact⟨q,by simpa using h1,.skip hq h2⟩
 | [],_::_,_,h=>h.elim
 | _::_,[],_,h=>h.elim
theorem zOv{α:Type}{K:Ty}{R:α→Value→Prop}{kt:TypeId}(hk:wJ P kt K=true)(k:K.den)(l:List (K.den×α))(es:List MapEntry)(h:zZq K R l es):∃q,(Instr.findKey kt (xS K k) es).run P w= .ok q w∧Fnd K R k l es 0 q:=by
 unfold wJ at hk;split at hk
 ·rename_i i;split at hk
  ·rename_i j hu;obtain rfl:=tH hk;obtain⟨q,h1,h2⟩:=zMl (d:= .int i) (k:=k) (R:=R) (fun b=>by
    show(if i=i then some ((k:Int)==(b:Int))else none)=some (ieq k b)
    rw[if_pos rfl,rW]) l es 0 h
   refine⟨q,?_,h2⟩;unfold Instr.findKey;simp only[underlying,hu,Sem.run_bind,Sem.run_pure,run_program,Result.andThen_ok,h1]
  ·cases hk
 ·split at hk
  ·rename_i hu;obtain⟨q,h1,h2⟩:=zMl (d:= .string) (k:=k) (R:=R) (fun b=>by
    show some ((k:ByteArray)==(b:ByteArray))=some (decide ((k:ByteArray)=b));rw[zWs]) l es 0 h
   refine⟨q,?_,h2⟩;unfold Instr.findKey;simp only[underlying,hu,Sem.run_bind,Sem.run_pure,run_program,Result.andThen_ok,h1]
  ·cases hk
 ·rename_i i j n;split at hk
  ·rename_i f0 f1 f2 hu;simp only[Bool.and_eq_true,Bool.not_eq_true']at hk;obtain⟨hs,g0,g1,g2⟩:=hk;obtain⟨u0,o0,n0⟩:=xN g0;obtain⟨u1,o1,n1⟩:=xN g1;obtain⟨u2,o2,n2⟩:=xN g2;have hq:∀b:(Ty.prod (.int i) (.prod (.int j) (.int n))).den,(Op.equal kt (xS (.prod (.int i) (.prod (.int j) (.int n))) k) (xS (.prod (.int i) (.prod (.int j) (.int n))) b)).run P w= .ok (keq (.prod (.int i) (.prod (.int j) (.int n))) k b) w:=fun b=>by
    obtain⟨a1,a2,a3⟩:=k;obtain⟨b1,b2,b3⟩:=b;have:=qOh (P:=P) (w:=w) (d:=9998) (k1:=i) (k2:=j) (k3:=n) (a1:=a1) (a2:=a2) (a3:=a3) (b1:=b1) (b2:=b2) (b3:=b3) hu hs u0 u1 u2 n0 n1 n2 o0 o1 o2;rw[rW,rW,rW]at this;exact this
   obtain⟨q,h1,h2⟩:=zUj (k:=k) (R:=R) hq l es 0 h;unfold Instr.findKey;simp only[underlying,hu,Sem.run_bind,Sem.run_pure,run_program,Result.andThen_ok];match l,es,h with
   | [],[],h=>exact⟨none,rfl,.nil⟩
   | e::l,f::es,h=>
    refine⟨q,?_,h2⟩;have:Instr.findNow (.struct ⟨[f0,f1,f2]⟩) (xS (.prod (.int i) (.prod (.int j) (.int n))) k) (f::es) 0=none:=rfl;rw[this];exact h1
  ·cases hk
 ·cases hk
theorem dI{K:Ty}{kt:TypeId}(hk:wJ P kt K=true)(k:K.den)(e:Bool):(Instr.checkKey e 10000 kt (xS K k)).run P w= .ok () w:=by
 unfold wJ at hk;split at hk
 ·split at hk
  ·rename_i j hu;show(Instr.checkKey e (9999+1) kt _).run P w=_;unfold Instr.checkKey;simp only[underlying,hu,Sem.run_bind,Sem.run_pure,run_program,Result.andThen_ok]
  ·cases hk
 ·split at hk
  ·rename_i hu;show(Instr.checkKey e (9999+1) kt _).run P w=_;unfold Instr.checkKey;simp only[underlying,hu,Sem.run_bind,Sem.run_pure,run_program,Result.andThen_ok]
  ·cases hk
 ·rename_i i j n;split at hk
  ·rename_i f0 f1 f2 hu;simp only[Bool.and_eq_true,Bool.not_eq_true']at hk;obtain⟨hs,g0,g1,g2⟩:=hk;obtain⟨u0,o0,n0⟩:=xN g0;obtain⟨u1,o1,n1⟩:=xN g1;obtain⟨u2,o2,n2⟩:=xN g2;obtain⟨a1,a2,a3⟩:=k;have one:∀{f:Field}{q q':IntKind}{a:Int},P.underlying f.type=some (.int q)→(Instr.checkKey e 9999 f.type (.int q' a)).run P w= .ok () w:=fun{f q q' a}hu=>by
    show(Instr.checkKey e (9998+1) f.type _).run P w=_;unfold Instr.checkKey;simp only[underlying,hu,Sem.run_bind,Sem.run_pure,run_program,Result.andThen_ok]
   show(Instr.checkKey e (9999+1) kt (.agg #[.int i a1,.int j a2,.int n a3])).run P w=_;unfold Instr.checkKey;simp only[underlying,hu,Sem.run_bind,Sem.run_pure,run_program,Result.andThen_ok];simp[n0,n1,n2,o0,o1,o2];simp only[zBt (cs:=#[Value.int i a1,.int j a2,.int n a3]) (i:=0) u0 rfl,zBt (cs:=#[Value.int i a1,.int j a2,.int n a3]) (i:=1) u1 rfl,zBt (cs:=#[Value.int i a1,.int j a2,.int n a3]) (i:=2) u2 rfl,Result.andThen_ok];simp only[List.getElem_toArray,List.getElem_cons_succ,List.getElem_cons_zero,one u0,one u1,one u2,Result.andThen_ok]
  ·cases hk
 ·cases hk
theorem qDp{K:Ty}{kt:TypeId}(hk:wJ P kt K=true)(k:K.den):Instr.sameBits 10000 (xS K k) (xS K k)=true:=by
 unfold wJ at hk;split at hk
 ·simp[xS,Instr.sameBits]
 ·simp[xS,Instr.sameBits,zWs]
 ·obtain⟨a,b,c⟩:=k;show Instr.sameBits (9999+1) _ _=true;simp[xS,zLd,Instr.sameBits]
 ·cases hk
end
section
variable {P:Program}{E:Nat→Prop}{w0:World}{X:Hid}{F:List Nat}{H:List TO}{B:Bm}{w:World}{Y:Hid}{Mo:List (Nat×Obj)}{ρ:Operand→Value}{ρT:Operand→T}{o:Oper}{r:Rd}{k:Nat}
theorem nW{t k v:TypeId}(h:zGr P t=some (k,v)):P.underlying t=some (.map k v):=by
 unfold zGr at h;split at h
 ·rename_i hx;cases h;exact hx
 ·cases h
theorem zUs(hH:zIk B r w H){m:T}{v:Value}{l:List (Value×T)}(h:zJf H m=some l)(hR:Rep B r m v):(v= .map none∧l=[])∨∃b es clk,v= .map (some b)∧w.heap[b]?=some (.map es clk)∧xD B r l es.toList:=by
 unfold zJf at h;split at h
 ·cases h;exact .inl ⟨hR.vI.1,rfl⟩
 ·rename_i i;split at h
  ·rename_i l' hn;cases h;cases hR with
   | @om _ b C hB=>
    obtain⟨es,clk,h1,h2⟩:=hH.map _ _ _ _ hB hn;exact .inr ⟨b,es,clk,rfl,h1,h2⟩
  ·cases h
 ·cases h
theorem zCs{d:MD}:∀{l:List (d.K.den×d.V.den)}{es:List MapEntry},xD B r (l.map fun e=>(xS d.K e.1,unT d.g d.V e.2)) es→zZq d.K (fun x v=>Rep B r (unT d.g d.V x) v) l es
 | [],[],_=>trivial
 | _::_,_::_,h=>⟨h.1,h.2.1,zCs h.2.2⟩
 | [],_::_,h=>h.elim
 | _::_,[],h=>h.elim
theorem qBz(hH:zIk B r w H){m:T}{v:Value}{d:MD}(h:dOf H m=some d)(hR:Rep B r m v):∃b es clk,v= .map (some b)∧w.heap[b]?=some (.map es clk)∧xD B r d.ents es.toList:=by
 unfold dOf at h;split at h
 ·rename_i i;split at h
  ·rename_i d' hn;cases h;cases hR with
   | @om _ b C hB=>
    obtain⟨es,clk,h1,h2⟩:=hH.mapd _ _ _ _ hB hn;exact⟨b,es,clk,rfl,h1,h2⟩
  ·cases h
 ·cases h
theorem yV{b:Nat}{es:Array MapEntry}{clk:Nat}(h:w.heap[b]?=some (.map es clk)):(getObj b).run P w= .ok (.map es clk) w:=by
 simp[getObj,Sem.run,h]
theorem qFw(hH:zIk B r w H)(hρ:∀x,Rep B r (ρT x) (ρ x)){c:Call}{x:Operand}{t:TypeId}{kv:TypeId×TypeId}(ho:o.op= .call c)(hc:c.callee= .builtin .len)(hx:c.args.toList=[x])(hts:c.argTypes.toList=[t])(ht:zGr P t=some kv){z:T×Option TO}(h:qFv H (ρT x)=some z):Ans P w ρ o B r k z:=by
 obtain⟨kt,vt⟩:=kv;have hu:=nW ht;unfold qFv at h;cases hd:dOf H (ρT x)with
 | some d=>
  simp only[hd]at h;have ha:c.args=#[x]:=Array.ext' (by simpa using hx)
  have hb:c.argTypes=#[t]:=Array.ext' (by simpa using hts)
  obtain⟨b,es,clk,hv,hg,hm⟩:=qBz hH hd (hρ x);refine qB h ⟨.int .i64 (d.l.length:Int),?_,.v rfl⟩;unfold execOp;simp only[ho,resolve,hc,Sem.run_bind,Sem.run_pure,Result.andThen_ok,invoke,builtin,Builtin.len_,ha,hb,List.map_toArray,List.map_cons,List.map_nil,hv];have:=hm.length;have e:d.ents.length=d.l.length:=by simp[MD.ents]
  rw[e]at this;simp[underlying,hu,run_program,Sem.run_bind,Sem.run_pure,goInt,yV hg,this]
 | none=>
 simp only[hd]at h;cases hl:zJf H (ρT x)with
 | none=>simp[hl]at h
 | some l=>
  simp only[hl]at h;have ha:c.args=#[x]:=Array.ext' (by simpa using hx)
  have hb:c.argTypes=#[t]:=Array.ext' (by simpa using hts)
  refine qB h ⟨.int .i64 (l.length:Int),?_,by rw[qR];exact .v rfl⟩
  unfold execOp;rcases zUs hH hl (hρ x)with⟨hv,rfl⟩ | ⟨b,es,clk,hv,hg,hm⟩
  ·simp only[ho,resolve,hc,Sem.run_bind,Sem.run_pure,Result.andThen_ok,invoke,builtin,Builtin.len_,ha,hb,List.map_toArray,List.map_cons,List.map_nil,hv];simp[underlying,hu,run_program,Sem.run_bind,Sem.run_pure,goInt]
  ·simp only[ho,resolve,hc,Sem.run_bind,Sem.run_pure,Result.andThen_ok,invoke,builtin,Builtin.len_,ha,hb,List.map_toArray,List.map_cons,List.map_nil,hv];have:=hm.length;simp[underlying,hu,run_program,Sem.run_bind,Sem.run_pure,goInt,yV hg,this]
theorem zUx:∀a b:Int,ilt a b=decide (a<b)
 | .ofNat a,.ofNat b=>by
  show Nat.blt a b=_;have:Nat.blt a b=decide (a<b):=by rw[Bool.eq_iff_iff];simp[Nat.blt_eq]
  rw[this];exact decide_eq_decide.2 (by simp)
 | .ofNat a,.negSucc b=>by
  show false=_;exact(decide_eq_false (by simp only[Int.ofNat_eq_natCast];omega)).symm
 | .negSucc a,.ofNat b=>by
  show true=_;exact(decide_eq_true (by simp only[Int.ofNat_eq_natCast];omega)).symm
 | .negSucc a,.negSucc b=>by
  show Nat.blt b a=_;have:Nat.blt b a=decide (b<a):=by rw[Bool.eq_iff_iff];simp[Nat.blt_eq]
  rw[this];exact decide_eq_decide.2 (by omega)
theorem qEf(f:Bool)(hρ:∀x,Rep B r (ρT x) (ρ x)){c:Call}{x y:Operand}{t t':TypeId}(ho:o.op= .call c)(hc:c.callee= .builtin (bif f then .min else .max))(hx:c.args.toList=[x,y])(hts:c.argTypes.toList=[t,t']){z:T×Option TO}(h:mnT f (ρT x) (ρT y)=some z):Ans P w ρ o B r k z:=by
 have hX:=hρ x;have hY:=hρ y;unfold mnT at h;split at h
 ·rename_i k a k' b ex ey;rw[ex]at hX;rw[ey]at hY;have ha:c.args=#[x,y]:=Array.ext' (by simpa using hx)
  have hb:c.argTypes=#[t,t']:=Array.ext' (by simpa using hts)
  generalize hvx:ρ x=vx at hX;generalize hvy:ρ y=vy at hY;cases hX;cases hY;refine qB h ⟨.int k (bif bif f then ilt b a else ilt a b then b else a),?_,.v rfl⟩;unfold execOp;simp only[ho,resolve,hc,Sem.run_bind,Sem.run_pure,Result.andThen_ok];cases f with
  | true=>
   simp only[cond_true,invoke,builtin,Builtin.min_,ha,hb,List.map_toArray,List.map_cons,List.map_nil,hvx,hvy];rw[zUx];by_cases hq:b<a<;>simp[Builtin.min2,hq,Sem.run_bind,Sem.run_pure]
  | false=>
   simp only[cond_false,invoke,builtin,Builtin.max_,ha,hb,List.map_toArray,List.map_cons,List.map_nil,hvx,hvy];rw[zUx];by_cases hq:a<b<;>simp[Builtin.max2,hq,Sem.run_bind,Sem.run_pure]
 ·cases h
theorem qFt(hH:zIk B r w H)(hρ:∀x,Rep B r (ρT x) (ρ x)){c:Call}(ho:o.op= .call c){z:T×Option TO}(h:lS P H ρT c=some z):Ans P w ρ o B r k z:=by
 unfold lS at h;split at h
 ·rename_i x y t t' e1 e2 e3;exact qEf true hρ ho e1 e2 e3 h
 ·rename_i x y t t' e1 e2 e3;exact qEf false hρ ho e1 e2 e3 h
 ·rename_i x t e1 e2 e3;cases he:elT P t with
  | none=>
   simp only[he]at h;cases hm:zGr P t with
   | none=>simp[hm]at h
   | some kv=>simp only[hm]at h;exact qFw hH hρ ho e1 e2 e3 hm h
  | some e=>
   simp only[he]at h;refine qLu hρ ho e1 e2 (fun n ad cp hv=>⟨t,e,?_,vV he⟩) h;have:c.argTypes=#[t]:=Array.ext' (by simpa using e3)
   rw[this];rfl
 ·cases h
theorem zVc{d:TypeDesc}{kv:Value}:∀{l:List (Value×T)}{es:List MapEntry}{i:Nat}{q:Option Nat},xD B r l es→zLy d kv l i=some q→
  (q=none∧Instr.findNow d kv es i=some none)∨∃j e f,q=some (i+j)∧l[j]?=some e∧es[j]?=some f∧Instr.findNow d kv es i=some (some (i+j,f.val))∧f.key=e.1∧Rep B r e.2 f.val
 | [],[],i,q,_,h=>by simp only[zLy,Option.some.injEq]at h;exact .inl ⟨h.symm,rfl⟩
 | e::l,f::es,i,q,hm,h=>by
  simp only[zLy]at h;unfold Instr.findNow;rw[hm.1];cases hs:Instr.sameNow d kv e.1 with
  | none=>simp[hs]at h
  | some b=>
   cases b with
   | true=>simp only[hs,Option.some.injEq]at h;exact .inr ⟨0,e,f,h.symm,rfl,rfl,rfl,hm.1,hm.2.1⟩
   | false=>
    simp only[hs]at h ⊢;rcases zVc hm.2.2 h with⟨h1,h2⟩ | ⟨j,e',f',h1,h2,h3,h4,h5,h6⟩
    ·exact .inl ⟨h1,h2⟩
    ·exact .inr ⟨j+1,e',f',by rw[h1];congr 1;omega,by simpa using h2,by simpa using h3,by rw[h4];congr 3;omega,h5,h6⟩
 | [],_::_,_,_,hm,_=>hm.elim
 | _::_,[],_,_,hm,_=>hm.elim
theorem zJp{d:TypeDesc}{kv:Value}:∀{l:List (Value×T)}{es:List MapEntry}{i:Nat},xD B r l es→zLy d kv l i=none→Instr.findNow d kv es i=none
 | [],[],i,_,h=>by simp[zLy]at h
 | e::l,f::es,i,hm,h=>by
  simp only[zLy]at h;unfold Instr.findNow;rw[hm.1];cases hs:Instr.sameNow d kv e.1 with
  | none=>rfl
  | some b=>
   cases b with
   | true=>simp[hs]at h
   | false=>simp only[hs]at h ⊢;exact zJp hm.2.2 h
 | [],_::_,_,hm,_=>hm.elim
 | _::_,[],_,hm,_=>hm.elim
theorem zVa{t:TypeId}{kv:Value}:∀{l:List (Value×T)}{es:List MapEntry}{i:Nat}{q:Option Nat},xD B r l es→qDn P t kv l i=some q→
  (q=none∧(Instr.findAsking t kv es i).run P w= .ok none w)∨∃j e f,q=some (i+j)∧l[j]?=some e∧es[j]?=some f∧(Instr.findAsking t kv es i).run P w= .ok (some (i+j,f.val)) w∧f.key=e.1∧Rep B r e.2 f.val
 | [],[],i,q,_,h=>by simp only[qDn,Option.some.injEq]at h;exact .inl ⟨h.symm,rfl⟩
 | e::l,f::es,i,q,hm,h=>by
  simp only[qDn]at h;unfold Instr.findAsking;rw[hm.1];cases hs:zIt P (Op.equal t kv e.1)with
  | none=>simp[hs]at h
  | some b=>
   simp only[Sem.run_bind,zDs hs w,Result.andThen_ok];cases b with
   | true=>simp only[hs,Option.some.injEq]at h;exact .inr ⟨0,e,f,h.symm,rfl,rfl,by simp[Sem.run_pure],hm.1,hm.2.1⟩
   | false=>
    simp only[hs]at h;rcases zVa hm.2.2 h with⟨h1,h2⟩ | ⟨j,e',f',h1,h2,h3,h4,h5,h6⟩
    ·exact .inl ⟨h1,by simpa using h2⟩
    ·exact .inr ⟨j+1,e',f',by rw[h1];congr 1;omega,by simpa using h2,by simpa using h3,by simp;rw[h4];congr 3;omega,h5,h6⟩
 | [],_::_,_,_,hm,_=>hm.elim
 | _::_,[],_,_,hm,_=>hm.elim
theorem zPe{t:TypeId}{kv:Value}{l:List (Value×T)}{es:List MapEntry}{q:Option Nat}(hm:xD B r l es)(h:zJo P t kv l=some q):
  (q=none∧(Instr.findKey t kv es).run P w= .ok none w)∨∃j e f,q=some j∧l[j]?=some e∧es[j]?=some f∧(Instr.findKey t kv es).run P w= .ok (some (j,f.val)) w∧f.key=e.1∧Rep B r e.2 f.val:=by
 unfold zJo at h;cases hu:P.underlying t with
 | none=>simp[hu]at h
 | some d=>
  simp only[hu]at h;unfold Instr.findKey;simp only[underlying,hu,Sem.run_bind,Sem.run_pure,run_program,Result.andThen_ok];cases hn:zLy d kv l 0 with
  | some q'=>
   simp only[hn,Option.some.injEq]at h;subst h;rcases zVc hm hn with⟨h1,h2⟩ | ⟨j,e',f',h1,h2,h3,h4,h5,h6⟩
   ·rw[h2];exact .inl ⟨h1,rfl⟩
   ·rw[h4];exact .inr ⟨j,e',f',by rw[h1,Nat.zero_add],h2,h3,by rw[Nat.zero_add];rfl,h5,h6⟩
  | none=>
   simp only[hn]at h;rw[zJp hm hn];rcases zVa (w:=w) hm h with⟨h1,h2⟩ | ⟨j,e',f',h1,h2,h3,h4,h5,h6⟩
   ·exact .inl ⟨h1,h2⟩
   ·exact .inr ⟨j,e',f',by rw[h1,Nat.zero_add],h2,h3,by rw[Nat.zero_add]at h4;exact h4,h5,h6⟩
theorem zPf{e:Bool}{t:TypeId}{kv:Value}(h:kOk P e t kv=true)(w:World):(Instr.checkKey e 10000 t kv).run P w= .ok () w:=by
 unfold kOk at h;cases hr:zIt P (Instr.checkKey e 10000 t kv)with
 | none=>simp[hr]at h
 | some u=>exact zDs hr w
def lkR(ok:Bool)(v:Value)(b:Bool):Value:=if ok then .tuple #[v,.bool b]else v
theorem zFh{ok b:Bool}{t:T}{v:Value}(h:Rep B r t v):Rep B r (okT ok t b) (lkR ok v b):=by
 cases ok with
 | false=>exact h
 | true=>exact Rep.mkTu (vs:=[v,.bool b]) ⟨h,.v rfl,trivial⟩
theorem qSu{l:List (Value×T)}{es:List MapEntry}(h:xD B r l es):emp l=es.toArray.isEmpty:=by
 cases l<;>cases es<;>first | rfl | exact h.elim
theorem zQf(hH:zIk B r w H)(hρ:∀x,Rep B r (ρT x) (ρ x)){t:TypeId}{m x:Operand}{ok:Bool}(ho:o.op= .lookup t m x ok){z:T×Option TO}(h:zHk P H t (ρT m) (ρT x) ok=some z):Ans P w ρ o B r k z:=by
 unfold zHk at h;cases hm:zGr P t with
 | none=>simp[hm]at h
 | some kv=>
  obtain⟨kt,vt⟩:=kv;cases hl:zJf H (ρT m)with
  | none=>simp[hm,hl]at h
  | some l=>
   cases hs:sOf (ρT x)with
   | none=>simp[hm,hl,hs]at h
   | some key=>
    simp only[hm,hl,hs]at h;cases hk:kOk P (emp l) kt key with
    | false=>simp[hk]at h
    | true=>
     simp only[hk,cond_true]at h;have hu:=nW hm;have hx:=zNc hs (hρ x);have fin:∀(es:Array MapEntry),xD B r l es.toList→
       (∀(n:Nat)(v:Value),(Instr.checkKey es.isEmpty 10000 kt key).run P w= .ok () w→(Instr.findKey kt key es.toList).run P w= .ok (some (n,v)) w→(Instr.lookup t (ρ m) key ok).run P w= .ok (lkR ok v true) w)→
       (∀(v:Value),(Instr.checkKey es.isEmpty 10000 kt key).run P w= .ok () w→(Instr.findKey kt key es.toList).run P w= .ok none w→(zeroValue vt).run P w= .ok v w→(Instr.lookup t (ρ m) key ok).run P w= .ok (lkR ok v false) w)→Ans P w ρ o B r k z:=fun es hme h1 h0=>by
      have hck:=zPf hk w;rw[qSu hme]at hck;have he2:es.toList.toArray=es:=by simp
      rw[he2]at hck;have hex:∀u,(Instr.lookup t (ρ m) key ok).run P w= .ok u w→(execOp ρ o).run P w= .ok (.value u) w:=fun u N2=>by
       unfold execOp;simp only[ho,hx,Sem.run_bind,N2,Result.andThen_ok,Sem.run_pure]
      cases hf:zJo P kt key l with
      | none=>simp[hf]at h
      | some q=>
       rcases zPe (w:=w) hme hf with⟨rfl,hr⟩ | ⟨j,e',f',rfl,h2,h3,hr,h5,h6⟩
       ·simp only[hf]at h;unfold qNb at h;cases hi:P.info? vt with
        | none=>simp[hi]at h
        | some i0=>
         cases hz:i0.zero with
         | none=>simp[hi,hz]at h
         | some zv=>
          simp only[hi,hz]at h;exact qB h ⟨_,hex _ (h0 zv hck hr (mG hi hz w)),zFh (zBm zv)⟩
       ·simp only[hf]at h;have hn:qYc l j=some e'.2:=by unfold qYc;rw[h2]
        simp only[hn]at h;exact qB h ⟨_,hex _ (h1 j f'.val hck hr),zFh h6⟩
     rcases zUs hH hl (hρ m)with⟨hv,rfl⟩ | ⟨b,es,clk,hv,hg,hme⟩
     ·refine fin #[] trivial (fun n v g1 g2=>?_) (fun v g1 g2 g3=>?_)
      ·rw[hv];unfold Instr.lookup;simp only[underlying,hu,Sem.run_bind,Sem.run_pure,run_program,Result.andThen_ok,g1,g2];rfl
      ·rw[hv];unfold Instr.lookup;simp only[underlying,hu,Sem.run_bind,Sem.run_pure,run_program,Result.andThen_ok,g1,g2,g3];rfl
     ·refine fin es hme (fun n v g1 g2=>?_) (fun v g1 g2 g3=>?_)
      ·rw[hv];unfold Instr.lookup;simp only[underlying,hu,Sem.run_bind,Sem.run_pure,run_program,yV hg,Result.andThen_ok,g1,g2];rfl
      ·rw[hv];unfold Instr.lookup;simp only[underlying,hu,Sem.run_bind,Sem.run_pure,run_program,yV hg,Result.andThen_ok,g1,g2,g3];rfl
theorem zTh(hH:zIk B r w H)(hρ:∀x,Rep B r (ρT x) (ρ x)){t:TypeId}{m x:Operand}{ok:Bool}(ho:o.op= .lookup t m x ok){z:T×Option TO}(h:zMr P H t (ρT m) (ρT x) ok=some z):Ans P w ρ o B r k z:=by
 unfold zMr at h;cases hd:dOf H (ρT m)with
 | none=>simp only[hd]at h;exact zQf hH hρ ho h
 | some d=>
  simp only[hd]at h;cases hm:zGr P t with
  | none=>simp[hm]at h
  | some kv=>
   obtain⟨kt,vt⟩:=kv;simp only[hm]at h;unfold lkD at h;split at h
   ·rename_i key z' hk hz;split at h
    ·rename_i z0 hz0;cases hko:wJ P kt d.K with
     | false=>simp[hko]at h
     | true=>
      simp only[hko,cond_true]at h;have hu:=nW hm;have hx:=zVd hko (aZ hk (hρ x));obtain⟨b,es,clk,hv,hg,hme⟩:=qBz hH hd (hρ m);obtain⟨q,hr,hf⟩:=zOv (w:=w) hko key d.l es.toList (zCs hme);unfold qNb at hz;cases hi:P.info? vt with
      | none=>simp[hi]at hz
      | some i0=>
       cases hzv:i0.zero with
       | none=>simp[hi,hzv]at hz
       | some zv=>
        simp only[hi,hzv,Option.some.injEq]at hz;subst hz;have hzr:=aZ hz0 (zBm (B:=B) (r:=r) zv);have hex:∀u,(Instr.lookup t (ρ m) (xS d.K key) ok).run P w= .ok u w→(execOp ρ o).run P w= .ok (.value u) w:=fun u N2=>by
         unfold execOp;simp only[ho,hx,Sem.run_bind,N2,Result.andThen_ok,Sem.run_pure]
        rcases hf with⟨rfl,h2,h3,_⟩ | ⟨j,e,f,rfl,_,_,_,_,h6,h7,h8,_⟩
        ·rw[h2,h3]at h;refine qB h ⟨_,hex (lkR ok zv false) ?_,zFh hzr⟩;rw[hv];unfold Instr.lookup;simp only[underlying,hu,Sem.run_bind,Sem.run_pure,run_program,Result.andThen_ok,yV hg,dI hko,hr,mG hi hzv w];rfl
        ·rw[h7,h8]at h;refine qB h ⟨_,hex (lkR ok f.val true) ?_,zFh h6⟩;rw[hv];unfold Instr.lookup;simp only[underlying,hu,Sem.run_bind,Sem.run_pure,run_program,Result.andThen_ok,yV hg,dI hko,hr];rfl
    ·cases h
   ·cases h
theorem zY{a b:Nat}(h:Nat.beq a b=true):a=b:=Nat.eq_of_beq_eq_true h
theorem wX(b o' j:Nat):(some (⟨b,o',none⟩:Addr)).map (·.add j)=some ⟨b,o'+j,none⟩:=by simp[yC]
def ad'(ad:Option Addr)(m l s:Nat):Option Addr:=if m=l then ad else ad.map (·.add (l*s))
theorem qRh{cs:List T}{ad:Option Addr}{lo hi m n s:Nat}(hmx:m≤maxLen)(h1:lo≤hi)(h2:hi≤m)(hn:hi≤n)(hh:(n=0∧cs=[])∨∃b o,ad=some ⟨b,o,none⟩∧Cls B r b o cs):
  Rep B r (bif Nat.beq lo hi then .sl [] 0 else .sl (jK cs (lo*s)) (hi-lo)) (.slice (ad' ad m lo s) (hi-lo) (m-lo)):=by
 cases e:Nat.beq lo hi with
 | true=>
  obtain rfl:=Nat.eq_of_beq_eq_true e;rw[Nat.sub_self];exact .sl0 (Nat.le_trans (Nat.sub_le _ _) hmx)
 | false=>
  have hne:lo≠hi:=fun e'=>by subst e';simp at e
  rcases hh with⟨rfl,rfl⟩ | ⟨b,o,rfl,hc⟩
  ·omega
  ·unfold ad';rw[if_neg (by omega),wX];exact(hc.drop _).sl (by omega) (Nat.le_trans (Nat.sub_le _ _) hmx)
theorem zSb{cs:List T}{ad:Option Addr}{lo hi n s:Nat}(h1:lo≤hi)(hn:hi≤n)(hh:(n=0∧cs=[])∨∃b o,ad=some ⟨b,o,none⟩∧Cls B r b o cs):
  Rep B r (bif Nat.beq lo hi then .st [] 0 else .st (jK cs (lo*s)) (hi-lo)) (.slice (ad' ad hi lo s) (hi-lo) (hi-lo)):=by
 cases e:Nat.beq lo hi with
 | true=>
  obtain rfl:=Nat.eq_of_beq_eq_true e;rw[Nat.sub_self];exact .st0
 | false=>
  have hne:lo≠hi:=fun e'=>by subst e';simp at e
  rcases hh with⟨rfl,rfl⟩ | ⟨b,o,rfl,hc⟩
  ·omega
  ·unfold ad';rw[if_neg (by omega),wX];exact(hc.drop _).st
theorem zZh{x t:T}{lo hi s n:Nat}{v:Value}(hn:jJ x=some n)(h:pW x lo hi s=some t)(hR:Rep B r x v):
  ∃ad c,v= .slice ad n c∧lo≤hi∧hi≤c∧Rep B r t (.slice (ad' ad c lo s) (hi-lo) (c-lo)):=by
 cases x with
 | sl cs m=>
  simp only[jJ,Option.some.injEq]at hn;subst hn;simp only[pW]at h;cases hc:Nat.ble lo hi&&Nat.ble hi m with
  | false=>simp[hc]at h
  | true=>
   simp only[hc,cond_true,Option.some.injEq]at h;subst h;simp only[Bool.and_eq_true,Nat.ble_eq]at hc;have hmx:=hR;obtain⟨ad,c,rfl,hcap,hh⟩:=hR.slI;exact⟨ad,c,rfl,hc.1,by omega,qRh hmx.slB hc.1 (by omega) hc.2 hh⟩
 | st cs m=>
  simp only[jJ,Option.some.injEq]at hn;subst hn;simp only[pW]at h;cases hc:Nat.ble lo hi&&Nat.beq hi m with
  | false=>simp[hc]at h
  | true=>
   simp only[hc,cond_true,Option.some.injEq]at h;subst h;simp only[Bool.and_eq_true,Nat.ble_eq]at hc;obtain⟨h1,h2⟩:=hc;obtain rfl:=zY h2;obtain⟨ad,rfl,hh⟩:=hR.stI;exact⟨ad,hi,rfl,h1,Nat.le_refl _,zSb h1 (Nat.le_refl _) hh⟩
 | os i o m c=>
  simp only[jJ,Option.some.injEq]at hn;subst hn;simp only[pW]at h;cases hc:Nat.ble lo hi&&Nat.ble hi c with
  | false=>simp[hc]at h
  | true=>
   simp only[hc,cond_true]at h;simp only[Bool.and_eq_true,Nat.ble_eq]at hc;obtain⟨b,C,rfl,hB⟩:=hR.osI;refine⟨_,c,rfl,hc.1,hc.2,?_⟩;unfold ad';cases e:Nat.beq lo c with
   | true=>
    simp only[e,cond_true,Option.some.injEq]at h;subst h;rw[if_pos (Nat.eq_of_beq_eq_true e).symm];exact .os hB
   | false=>
    simp only[e,cond_false,Option.some.injEq]at h;subst h;rw[if_neg (fun e'=>by subst e';simp at e),wX];exact .os hB
 | og i o m=>
  simp only[jJ,Option.some.injEq]at hn;subst hn;simp only[pW]at h;obtain⟨b,C,c,rfl,hB,hcap,h0⟩:=hR.ogI;have hmx:=hR.ogB;cases hc:Nat.ble lo hi&&(Nat.ble hi m&&(Nat.blt lo m&&Nat.blt 0 s))with
  | true=>
   simp only[hc,cond_true,Option.some.injEq]at h;subst h;simp only[Bool.and_eq_true,Nat.ble_eq,Nat.blt_eq]at hc;refine⟨_,c,rfl,hc.1,by omega,?_⟩
   unfold ad';rw[if_neg (by omega),wX]
   refine .og hB (by omega) (fun e=>?_) (Nat.le_trans (Nat.sub_le _ _) hmx)
   have h1:o=0:=by omega
   have h2:lo*s=0:=by omega
   have h3:lo=0:=by
    rcases Nat.mul_eq_zero.1 h2 with h | h
    ·exact h
    ·omega
   rw[h3,Nat.sub_zero];exact h0 h1
  | false=>
   simp only[hc,cond_false]at h;cases hz:Nat.beq lo 0&&Nat.beq hi 0 with
   | false=>
    simp only[hz,cond_false]at h;cases hy:Nat.beq lo hi&&Nat.ble hi m with
    | false=>simp[hy]at h
    | true=>
     simp only[hy,cond_true,Option.some.injEq]at h;subst h;simp only[Bool.and_eq_true,Nat.ble_eq]at hy;obtain rfl:=zY hy.1;refine⟨_,c,rfl,Nat.le_refl _,by omega,?_⟩
     rw[Nat.sub_self];exact .sl0 (Nat.le_trans (Nat.sub_le _ _) hmx)
   | true=>
    simp only[hz,cond_true,Option.some.injEq]at h;subst h;simp only[Bool.and_eq_true]at hz;obtain rfl:=zY hz.1;obtain rfl:=zY hz.2;refine⟨_,c,rfl,Nat.le_refl _,Nat.zero_le _,?_⟩;unfold ad';have:(if c=0 then some (⟨b,o,none⟩:Addr)else(some (⟨b,o,none⟩:Addr)).map (·.add (0*s)))=some ⟨b,o,none⟩:=by
     split
     ·rfl
     ·rw[wX];simp
    rw[this];exact .og hB (Nat.zero_le _) h0 hmx
 | v x=>
  obtain⟨rfl,_⟩:=hR.vI;unfold pW at h;split at h<;>(try (rename_i e;cases e;done))<;>(try cases h)
  rename_i e;cases e;cases hz:Nat.beq hi 0&&Nat.beq lo 0 with
  | false=>simp[hz]at h
  | true=>
   simp only[hz,cond_true,Option.some.injEq]at h;subst h;simp only[Bool.and_eq_true]at hz;obtain rfl:=zY hz.1;obtain rfl:=zY hz.2;simp only[jJ,Option.some.injEq]at hn;subst hn;exact⟨none,0,rfl,Nat.le_refl _,Nat.le_refl _,.v rfl⟩
 | sn=>simp[pW]at h
 | ls g A l=>
  simp only[jJ,Option.some.injEq]at hn;subst hn;simp only[pW]at h;cases hc:Nat.beq s A.size&&(Nat.ble lo hi&&Nat.ble hi l.length)with
  | false=>simp[hc]at h
  | true=>
   simp only[hc,cond_true,Option.some.injEq]at h;subst h;simp only[Bool.and_eq_true,Nat.ble_eq]at hc;obtain⟨hs,h1,h2⟩:=hc;obtain rfl:=zY hs;have hR':=hR;obtain⟨ad,c,rfl,hn,hm,hh⟩:=hR.lsI;refine⟨ad,c,rfl,h1,by omega,?_⟩
   by_cases e:lo=hi
   ·subst e;rw[Nat.sub_self,List.take_zero];exact .ls ⟨_,c-lo,rfl,Nat.zero_le _,by omega,.inl rfl⟩
   ·rcases hh with rfl | ⟨b,o,rfl,_,_⟩
    ·simp at h2;omega
    ·unfold ad';rw[if_neg (by omega),wX]
     exact hR'.lsP (by omega)
 | hv A l=>cases h
 | _=>cases hn
theorem zZg{x t:T}{lo hi mx s n:Nat}{v:Value}(hn:jJ x=some n)(h:lI x lo hi mx s=some t)(hR:Rep B r x v):
  ∃ad c,v= .slice ad n c∧lo≤hi∧hi≤mx∧mx≤c∧Rep B r t (.slice (ad' ad mx lo s) (hi-lo) (mx-lo)):=by
 cases x with
 | sl cs m=>
  simp only[jJ,Option.some.injEq]at hn;subst hn;simp only[lI]at h;cases hc:Nat.ble lo hi&&(Nat.beq hi mx&&Nat.ble mx m)with
  | false=>simp[hc]at h
  | true=>
   simp only[hc,cond_true,Option.some.injEq]at h;subst h;simp only[Bool.and_eq_true,Nat.ble_eq]at hc;obtain⟨h1,h2,h3⟩:=hc;obtain rfl:=zY h2;obtain⟨ad,c,rfl,hcap,hh⟩:=hR.slI;exact⟨ad,c,rfl,h1,Nat.le_refl _,by omega,zSb h1 h3 hh⟩
 | st cs m=>
  simp only[jJ,Option.some.injEq]at hn;subst hn;simp only[lI]at h;cases hc:Nat.ble lo hi&&(Nat.beq hi mx&&Nat.ble mx m)with
  | false=>simp[hc]at h
  | true=>
   simp only[hc,cond_true,Option.some.injEq]at h;subst h;simp only[Bool.and_eq_true,Nat.ble_eq]at hc;obtain⟨h1,h2,h3⟩:=hc;obtain rfl:=zY h2;obtain⟨ad,rfl,hh⟩:=hR.stI;exact⟨ad,m,rfl,h1,Nat.le_refl _,h3,zSb h1 h3 hh⟩
 | os i o m c=>
  simp only[jJ,Option.some.injEq]at hn;subst hn;simp only[lI]at h;cases hc:Nat.ble lo hi&&(Nat.ble hi mx&&Nat.ble mx c)with
  | false=>simp[hc]at h
  | true=>
   simp only[hc,cond_true,Option.some.injEq]at h;subst h;simp only[Bool.and_eq_true,Nat.ble_eq]at hc;obtain⟨b,C,rfl,hB⟩:=hR.osI;refine⟨_,c,rfl,hc.1,hc.2.1,hc.2.2,?_⟩;unfold ad';cases e:Nat.beq lo mx with
   | true=>rw[if_pos (zY e).symm];exact .os hB
   | false=>rw[if_neg (fun e'=>by subst e';simp at e),wX];exact .os hB
 | og i o m=>
  simp only[jJ,Option.some.injEq]at hn;subst hn;simp only[lI]at h;obtain⟨b,C,c,rfl,hB,hcap,h0⟩:=hR.ogI;have hmx:=hR.ogB;cases hc:Nat.ble lo hi&&(Nat.ble hi mx&&Nat.ble mx m)with
  | false=>simp[hc]at h
  | true=>
   simp only[hc,cond_true,Option.some.injEq]at h;subst h;simp only[Bool.and_eq_true,Nat.ble_eq]at hc;refine⟨_,c,rfl,hc.1,hc.2.1,by omega,?_⟩
   unfold ad';cases e:Nat.beq lo mx with
   | true=>rw[if_pos (zY e).symm];exact .os hB
   | false=>rw[if_neg (fun e'=>by subst e';simp at e),wX];exact .os hB
 | v x=>
  obtain⟨rfl,_⟩:=hR.vI;unfold lI at h;split at h<;>(try (rename_i e;cases e;done))<;>(try cases h)
  rename_i e;cases e;cases hz:Nat.beq hi 0&&(Nat.beq lo 0&&Nat.beq mx 0)with
  | false=>simp[hz]at h
  | true=>
   simp only[hz,cond_true,Option.some.injEq]at h;subst h;simp only[Bool.and_eq_true]at hz;obtain rfl:=zY hz.1;obtain rfl:=zY hz.2.1;obtain rfl:=zY hz.2.2;simp only[jJ,Option.some.injEq]at hn;subst hn;exact⟨none,0,rfl,Nat.le_refl _,Nat.le_refl _,Nat.le_refl _,.v rfl⟩
 | sn=>simp[lI]at h
 | ls g A l=>
  simp only[jJ,Option.some.injEq]at hn;subst hn;simp only[lI]at h;cases hc:(Nat.beq lo hi&&Nat.beq hi mx)&&Nat.ble mx l.length with
  | false=>simp[hc]at h
  | true=>
   simp only[hc,cond_true,Option.some.injEq]at h;subst h;simp only[Bool.and_eq_true,Nat.ble_eq]at hc;obtain⟨⟨h1,h2⟩,h3⟩:=hc;obtain rfl:=zY h1;obtain rfl:=zY h2;obtain⟨ad,c,rfl,hn,hm,hh⟩:=hR.lsI;refine⟨ad,c,rfl,Nat.le_refl _,Nat.le_refl _,by omega,?_⟩
   rw[Nat.sub_self];exact .st0
 | hv A l=>cases h
 | _=>cases hn
theorem zNx{t:Option T}{x:T×Option TO}(h:zZk t=some x):∃q,t=some q∧x=(q,none):=by
 cases t with
 | none=>cases h
 | some q=>cases h;exact⟨q,rfl,rfl⟩
theorem qFl{lo:Option Operand}{d l:Nat}(hρ:∀x,Rep B r (ρT x) (ρ x))(h:opt ρT d lo=some l):Bd ρ d l lo:=by
 cases lo with
 | none=>simp only[opt,Option.some.injEq]at h;exact h.symm
 | some a=>exact wO h (hρ a)
theorem zYz(hρ:∀x,Rep B r (ρT x) (ρ x)){t:TypeId}{x:Operand}{lo hi mx:Option Operand}(ho:o.op= .slice t x lo hi mx){z:T×Option TO}(h:pQ P t (ρT x) ρT lo hi mx=some z):Ans P w ρ o B r k z:=by
 unfold pQ at h;cases he:elT P t with
 | none=>simp[he]at h
 | some e=>
  cases hl:ldT P e with
  | none=>simp[he,hl]at h
  | some gs=>
   obtain⟨g,s⟩:=gs;cases hn:jJ (ρT x)with
   | none=>simp[he,hl,hn]at h
   | some n=>
    simp only[he,hl,hn]at h;cases h1:opt ρT 0 lo with
    | none=>simp[h1]at h
    | some l=>
     cases h2:opt ρT n hi with
     | none=>simp[h1,h2]at h
     | some hh=>
      have e1:=qFl hρ h1;have e2:=qFl hρ h2;cases mx with
      | none=>
       simp only[h1,h2,wU]at h;obtain⟨tu,hu,rfl⟩:=zNx h;obtain⟨ad,c,hv,k1,k2,k3⟩:=zZh hn hu (hρ x);exact⟨_,zWk (m:=c) (l:=l) (h:=hh) ho (vV he) hl hv e1 e2 rfl (fun _=>rfl) k1 (.inl k2) (Nat.le_refl _) w,k3⟩
      | some mo=>
       cases h3:sV (ρT mo)with
       | none=>cases hi<;>simp[h1,h2,h3,wU]at h
       | some m=>
        cases hi with
        | none=>simp[h1,h2,wU]at h
        | some a=>
        simp only[h1,h2,h3,wU]at h;obtain⟨tu,hu,rfl⟩:=zNx h;obtain⟨ad,c,hv,k1,k2,k3,k4⟩:=zZg hn hu (hρ x);exact⟨_,zWk (m:=m) (l:=l) (h:=hh) ho (vV he) hl hv e1 e2 (wO h3 (hρ mo)) (fun e=>nomatch e) k1 (.inl k2) k3 w,k4⟩
end
end Go.Ev

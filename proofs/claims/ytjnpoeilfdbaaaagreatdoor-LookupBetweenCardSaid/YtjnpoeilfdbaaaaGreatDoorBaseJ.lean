import Derived.Test.YtjnpoeilfdbaaaaGreatDoorBaseA
import Derived.Test.YtjnpoeilfdbaaaaGreatDoorBaseB
import Derived.Test.YtjnpoeilfdbaaaaGreatDoorBaseC
import Derived.Test.YtjnpoeilfdbaaaaGreatDoorBaseD
import Derived.Test.YtjnpoeilfdbaaaaGreatDoorBaseE
import Derived.Test.YtjnpoeilfdbaaaaGreatDoorBaseF
import Derived.Test.YtjnpoeilfdbaaaaGreatDoorBaseG
import Derived.Test.YtjnpoeilfdbaaaaGreatDoorBaseH
import Derived.Test.YtjnpoeilfdbaaaaGreatDoorBaseI
set_option linter.unusedVariables false
set_option linter.unusedSimpArgs false
set_option linter.unnecessarySimpa false
namespace Go.Proofs.YtjnpoeilfdbaaaaGreatDoor
open Go Go.Gv Go.Ev Go.RowKit IntKind
theorem zHq(g:Nat→Rat):∀m,xM g (m+1)=g 0+xM (fun i=>g (i+1)) m
 | 0=>by show 0+g 0=g 0+0;grind
 | m+1=>by show xM g (m+1)+g (m+1)=g 0+(xM (fun i=>g (i+1)) m+g (m+1));rw[zHq g m];grind
theorem zLi{a b c:Rat}(hc:0<c)(h:a≤b):a / c≤b / c:=by
 rw[Rat.div_def,Rat.div_def];exact Rat.mul_le_mul_of_nonneg_right h (Rat.le_of_lt (Rat.inv_pos.2 hc))
theorem qGs{Z:Int}{F I:List (List Int)}{L nn Y:Int}{ws:List Nz}:∀(k b:Nat)(acc:List Raw){l:List Raw},skA Z F I L nn Y ws k b acc= .inl l→∃r,l=acc.reverse++r
 | 0,_,acc,l,hh=>by cases hh;exact⟨[],(List.append_nil _).symm⟩
 | k+1,b,acc,l,hh=>by
  simp only[skA,skL]at hh;cases H:sk1 frA qN jJ yD yE dvR dvP Z F I L nn Y ws b with
  | inr e=>rw[H]at hh;cases hh
  | inl y=>
   rw[H]at hh;obtain⟨r,hr⟩:=qGs k (b+1) (y::acc) hh;exact⟨y::r,by rw[hr];simp⟩
theorem qPc{Z:Int}{F I:List (List Int)}{L nn Y:Int}{ws:List Nz}:∀(k b:Nat)(acc:List Raw){l:List Raw},skA Z F I L nn Y ws k b acc= .inl l→∀j,b≤j→j<b+k→∃x,sk1 frA qN jJ yD yE dvR dvP Z F I L nn Y ws j= .inl x∧(l.map toT)[acc.length+(j-b)]?=some (toT x)
 | 0,b,acc,l,hh,j,h1,h2=>by omega
 | k+1,b,acc,l,hh,j,h1,h2=>by
  simp only[skA,skL]at hh;cases H:sk1 frA qN jJ yD yE dvR dvP Z F I L nn Y ws b with
  | inr e=>rw[H]at hh;cases hh
  | inl y=>
   rw[H]at hh;rcases Nat.eq_or_lt_of_le h1 with rfl | hlt
   ·refine⟨y,H,?_⟩;obtain⟨r,hr⟩:=qGs k (b+1) (y::acc) hh;rw[hr];simp
   ·obtain⟨x,x1,x2⟩:=qPc k (b+1) (y::acc) hh j hlt (by omega)
    refine⟨x,x1,?_⟩;rw[List.length_cons]at x2;rwa[show acc.length+(j-b)=acc.length+1+(j-(b+1))by omega]
theorem qGm:∀(ws:List Nz){i:Nat}(hi:i<ws.length),rI (scW ws) i=(ws[i]).2
 | y::l,0,_=>rfl
 | y::l,i+1,hi=>qGm l (i:=i) (by simpa using hi)
theorem zTk{F I:List (List Int)}{L nn Y:Int}{b:Nat}:∀(ws:List Nz){i:Nat}(hi:i<ws.length),rI (scV frA F I L nn Y b ws) i=toT (frA (vS F I L nn Y b ws[i]))
 | y::l,0,_=>rfl
 | y::l,i+1,hi=>zTk l (i:=i) (by simpa using hi)
theorem zWp:∀ws:List Nz,(scW ws).length=ws.length
 | []=>rfl
 | y::l=>congrArg (·+1) (zWp l)
theorem qGz:∀ws:List Nz,lT ws=xM (fun i=>(rw' (rI (scW ws) i)).rat) ws.length
 | []=>rfl
 | y::l=>by
  rw[List.length_cons,zHq];show(rw' y.2).rat+lT l=(rw' y.2).rat+xM (fun i=>(rw' (rI (scW l) i)).rat) l.length;rw[qGz l]
theorem zSl(h o t:List Int)(G:List Bd)(P D S:Int)(O U:List Nz)(C st V:Raw)(Z:Int)(F I:List (List Int)){L H W vq Y:Int}(hk:sU h o t G P D S O U C st V Z F I L H W vq Y=true){b:Nat}(hb:b<G.length):(rw' (rI (lkL h o t G P D S O U C st V Z F I L H W vq Y) b)).chk=0∧(∃y∈wgA h o t H W vq,((vS F I L (.ofNat G.length) Y b y:Int):Rat) / ((Z:Int):Rat)≤(rw' (rI (lkL h o t G P D S O U C st V Z F I L H W vq Y) b)).rat)∧∃y∈wgA h o t H W vq,(rw' (rI (lkL h o t G P D S O U C st V Z F I L H W vq Y) b)).rat≤((vS F I L (.ofNat G.length) Y b y:Int):Rat) / ((Z:Int):Rat):=by
 have hT:Tab h o t G S Z F I:=zNb hk;obtain⟨w1,w2⟩:=jAu H W vq hT.mod.grid;have sc1:=hT.sc1;have key:∃x,sk1 frA qN jJ yD yE dvR dvP Z F I L (.ofNat G.length) Y (wgA h o t H W vq) b= .inl x∧rI (lkL h o t G P D S O U C st V Z F I L H W vq Y) b=toT x:=by
  unfold sU at hk;unfold lkL;cases e:lkR h o t G P D S O U C st V Z F I L H W vq Y with
  | inr e'=>rw[e]at hk;cases hk
  | inl l=>
   unfold lkR at e;cases hc:Nat.beq (lkE h o t G P D S O U C st V Z F I L H W vq Y) 0 with
   | false=>rw[hc]at e;cases e
   | true=>
    rw[hc]at e;obtain⟨x,x1,x2⟩:=qPc G.length 0 [] e b (Nat.zero_le _) (by omega)
    rw[show([]:List Raw).length+(b-0)=b from Nat.zero_add _]at x2;refine⟨x,x1,?_⟩;show rI (l.map toT) b=toT x;have hl:b<(l.map toT).length:=(List.getElem?_eq_some_iff.1 x2).1;rw[qZo hl];exact(List.getElem?_eq_some_iff.1 x2).2
 obtain⟨x,x1,x2⟩:=key;rw[x2];unfold sk1 at x1;cases q1:qN (scW (wgA h o t H W vq)) (scV frA F I L (.ofNat G.length) Y b (wgA h o t H W vq))with
 | false=>rw[q1]at x1;cases x1
 | true=>
  cases q2:yE (jJ (scW (wgA h o t H W vq)) (scV frA F I L (.ofNat G.length) Y b (wgA h o t H W vq))) (frA Z)with
  | false=>rw[q1,q2]at x1;cases x1
  | true=>
   rw[q1,q2]at x1;cases x1;have d:=gQ (qG.1 q2);obtain⟨_,t2,_⟩:=jBo q1;rw[zWp]at t2;have fs:(frA Z).rat=((Z:Int):Rat):=Raw.of_rat _;have ps:(0:Rat)<((Z:Int):Rat):=Rat.intCast_pos.2 (by omega)
   have n0:0<(wgA h o t H W vq).length:=by
    rcases Nat.eq_zero_or_pos (wgA h o t H W vq).length with k | k
    ·rw[List.eq_nil_of_length_eq_zero k]at w2;exact absurd w2 (by show(0:Rat)≠1;decide)
    ·exact k
   have w2':=w2;rw[qGz]at w2';have hs:(jJ (scW (wgA h o t H W vq)) (scV frA F I L (.ofNat G.length) Y b (wgA h o t H W vq))).rat=xM (fun i=>(rw' (rI (scW (wgA h o t H W vq)) i)).rat*(rw' (rI (scV frA F I L (.ofNat G.length) Y b (wgA h o t H W vq)) i)).rat) (wgA h o t H W vq).length:=t2;obtain⟨⟨i,i1,i2⟩,⟨j,j1,j2⟩⟩:=qKq n0 (fun i hi=>by rw[qGm _ hi];exact(w1 _ (List.getElem_mem hi)).pos) w2' hs
   rw[zTk _ i1]at i2;rw[zTk _ j1]at j2;have v:∀n:Int,(rw' (toT (frA n))).rat=(n:Rat):=fun n=>Raw.of_rat _;rw[v]at i2 j2;have e:(rw' (toT (dvR (jJ (scW (wgA h o t H W vq)) (scV frA F I L (.ofNat G.length) Y b (wgA h o t H W vq))) (frA Z)))).rat=(jJ (scW (wgA h o t H W vq)) (scV frA F I L (.ofNat G.length) Y b (wgA h o t H W vq))).rat / ((Z:Int):Rat):=d.2.2.2.1.trans (by rw[fs])
   refine⟨d.2.2.2.2,⟨_,List.getElem_mem i1,?_⟩,⟨_,List.getElem_mem j1,?_⟩⟩
   ·rw[e];exact zLi ps i2
   ·rw[e];exact zLi ps j2
noncomputable def qEk:List T→DT (T×Bool)
 | [.ls .a (.int .i64) l]=>grd (Nat.blt 0 l.length&&Nat.blt l.length 1000) (.ret (.ls .a (.int .i64) l,true))
 | _=> .no
theorem kClo:∀az tv nw,(qEk az).run=some (tv,nw)→∀k,KnP Tryz.prog k 23 az tv nw:=by
 intro az tv nw h k;unfold qEk at h;split at h
 ·rename_i l;obtain⟨h1,h2⟩:=zV h;cases h2;simp only[Bool.and_eq_true]at h1;have g1:=qU h1.1;have g2:=qU h1.2;intro B w X qC R hI _ hX hR hK;match qC,hR with
  | [v],⟨hv,_⟩=>
   cases hv with
   | ls hv=>
    obtain⟨ad,c,ev,hD⟩:=hv;cases ev;rcases hD.2.2 with rfl | ⟨b,o,rfl,hb,H⟩
    ·exact absurd g1 (Nat.lt_irrefl _)
    ·show Calls Tryz.prog 23 #[.slice (some ⟨b,o,none⟩) l.length c] w R;refine(Go.Proofs.Any.slices_Clone_int qIq b o l.length c l w (Nat.le_refl _) (by omega) fun j hj=>?_).mono ?_
     ·obtain⟨vs,h3,h4,h5⟩:=H j _ (List.getElem?_eq_getElem hj);obtain rfl:vs=[.int .i64 l[j]]:=h4;have h6:=h5 0 _ rfl;rw[show o+(j*Ty.size nT+0)=o+j by simp[Ty.size]]at h6
      rw[yM h6];simp[List.getD,hj]
     ·rintro e w' ⟨v',rfl,⟨e1,e2⟩,hn,hb⟩;rcases e2 with⟨e3,_⟩ | ⟨g,cap,cur,rfl,hg,hc,hnc,hcm,hsz,ht⟩
      ·exact absurd e3 hn
      ·refine hK _ w' (Upd.of_below hb) (.ls ⟨some ⟨g,0,none⟩,cap,rfl,hnc,hcm,.inr ⟨g,0,rfl,Bm.In.any,fun i x hx=>⟨[.int .i64 x],rfl,rfl,fun j v hv=>?_⟩⟩⟩);match j,hv with
       | 0,hv=>
        cases hv;obtain⟨hi,rfl⟩:=List.getElem?_eq_some_iff.1 hx;have H:cur[i]?=some (.int .i64 l[i]):=by
         have h7:(cur.toList.take (l.length*1))[i]?=some (Value.int .i64 l[i]):=by rw[ht];simp[hi]
         rw[List.getElem?_take_of_lt (by omega)]at h7
         simpa using h7
        refine sZ ?_ (fun h=>?_) ?_
        ·show World.cell? w' ⟨g,0+(i*Ty.size nT+0),none⟩=_;rw[show 0+(i*Ty.size nT+0)=i by simp[Ty.size]]
         simp[World.cell?,hc,H]
        ·exact absurd h (Nat.not_lt.2 hg)
        ·simp[World.frozen?,hc]
 ·cases h
noncomputable def rwK(I:List (List Int))(L sq:Int):Nat:=(nI (gI I (kS L)) sq.toNat).toNat
noncomputable def rwR(F I:List (List Int))(L sq:Int):List Int:=gI F (rwK I L sq)
noncomputable def rwB(S:Int)(I:List (List Int))(L sq:Int):Bool:=!ilt L (.ofNat 1)&&(!ilt S L&&(!ilt sq (.ofNat 0)&&ilt sq (.ofNat (gI I (kS L)).length)))
theorem eRw(okP:TF Bool)(pP:TF Nat)(h o t:List Int)(G:List Bd)(P D S:Int)(O U:List Nz)(C st V:Raw)(Z:Int)(F I:List (List Int))(L sq:Int):((jB Tryz.prog (evD Tryz.prog (odT [(22,odR [tbT] (kM okP pP)),(23,odR [.list nT] qEk)]) (loT []) 60) 7 [.ag (tbC h o t G P D S O U C st V Z F I),vi L,vi sq] []).bind jF).run=gd (Nat.blt F.length 9223372036854775807) (bif okP h o t G P D S O U C st V Z F I then(bif ilt L (.ofNat 1)then er 1 else(bif ilt S L then er 1 else(bif ilt sq (.ofNat 0)then er 8 else gd (inW (Int.sub L 1)) (gd (nng (Int.sub L 1)) (gd (Nat.blt (kS L) I.length) (bif !ilt sq (.ofNat (gI I (kS L)).length)then er 8 else gd (inW (Int.sub L 1)) (gd (nng (Int.sub L 1)) (gd (Nat.blt (kS L) I.length) (gd (nng sq) (gd (Nat.blt sq.toNat (gI I (kS L)).length) (gd (nng (nI (gI I (kS L)) sq.toNat)) (gd (Nat.blt (rwK I L sq) F.length) (gd (Nat.blt 0 (rwR F I L sq).length&&Nat.blt (rwR F I L sq).length 1000) (some (.tu [.ls .a nT (rwR F I L sq),vn 0],true)))))))))))))))else er (pP h o t G P D S O U C st V Z F I+1)):=by kernel_rfl
noncomputable def oRw(okP:TF Bool):List T→DT (T×Bool)
 | [.ag [.ls .a (.int .i64) h,.ls .a (.int .i64) o,.ls .a (.int .i64) t,.ls .a (.prod (.int .u8) (.prod (.int .i64) (.int .i64))) G,.v (.int .i64 P),.v (.int .i64 D),.v (.int .i64 S),.ls .a (.prod (.int .i64) zR) O,.ls .a (.prod (.int .i64) zR) U,.v (.bool ab),.ls .a .lim C,.ls .a .lim am,.v (.bool sb),.ls .a .lim sl,.ls .a .lim sm,.v (.bool rb),.ls .a .lim rl,.ls .a .lim rm,.v (.int .i64 Z),.ls .a (.list (.int .i64)) F,.ls .a (.list (.int .i64)) I],.v (.int .i64 L),.v (.int .i64 sq)]=>grd (Nat.blt F.length 9223372036854775807&&(okP h o t G P D S O U ⟨ab,C,am⟩ ⟨sb,sl,sm⟩ ⟨rb,rl,rm⟩ Z F I&&rwB S I L sq)) (.ret (.tu [.ls .a nT (rwR F I L sq),.v (.int .i64 (.ofNat 0))],true))
 | _=> .no
theorem qGi{S:Int}{I:List (List Int)}{L sq:Int}(h:rwB S I L sq=true):1≤L∧L≤S∧0≤sq∧sq<((gI I (kS L)).length:Int):=by
 simp only[rwB,Bool.and_eq_true,Bool.not_eq_true']at h;refine⟨?_,?_,?_,xW.1 h.2.2.2⟩
 ·rcases Int.lt_or_le L 1 with g | g
  ·rw[sP (show L<(.ofNat 1:Int)from g)]at h;cases h.1
  ·exact g
 ·rcases Int.lt_or_le S L with g | g
  ·rw[sP g]at h;cases h.2.1
  ·exact g
 ·rcases Int.lt_or_le sq 0 with g | g
  ·rw[sP (show sq<(.ofNat 0:Int)from g)]at h;cases h.2.2.1
  ·exact g
theorem qGk{h o t:List Int}{G:List Bd}{S Z:Int}{F I:List (List Int)}{L sq:Int}(hT:Tab h o t G S Z F I)(hb:rwB S I L sq=true):rwK I L sq<F.length∧(rwR F I L sq).length=G.length∧∀i,i<G.length→0≤nI (rwR F I L sq) i∧nI (rwR F I L sq) i≤1099511627776:=by
 obtain⟨k1,k2,s1,s2⟩:=qGi hb;have hix:=hT.ixl;obtain⟨j,hj⟩:∃j:Nat,L=((j+1:Nat):Int):=⟨L.toNat-1,by omega⟩
 have hj2:j<I.length:=by omega
 have ek:Int.sub L 1= .ofNat j:=by rw[hj];show((j+1:Nat):Int)-1=(j:Int);omega
 have eS:kS L=j:=by unfold kS;rw[ek];rfl
 rw[eS]at s2;obtain⟨r1,r2⟩:=hT.row j hj2;obtain⟨n1,n2⟩:=r2 sq.toNat (by omega)
 have hK:rwK I L sq<F.length:=by unfold rwK;rw[eS];omega
 obtain⟨g1,g2⟩:=hT.num _ hK;exact⟨hK,g1,fun i hi=>g2 i (by rw[g1];exact hi)⟩
theorem qZy(h o t:List Int)(G:List Bd)(P D S:Int)(O U:List Nz)(C st V:Raw)(Z:Int)(F I:List (List Int))(L sq:Int)(hr:F.length<9223372036854775807)(ho:jH h o t G P D S O U C st V Z F I=true)(hb:rwB S I L sq=true):((jB Tryz.prog (evD Tryz.prog (odT [(22,odR [tbT] (kM jH pPA)),(23,odR [.list nT] qEk)]) (loT []) 60) 7 [.ag (tbC h o t G P D S O U C st V Z F I),vi L,vi sq] []).bind jF).run=some (.tu [.ls .a nT (rwR F I L sq),vn 0],true):=by
 have hT:Tab h o t G S Z F I:=zNc kyF h o t G P D S O U C st V Z F I (qG.1 ho);obtain⟨q1,q2,q3⟩:=qGk hT hb;obtain⟨k1,k2,s1,s2⟩:=qGi hb;have hix:=hT.ixl;have hst:=zHp hT.mod;obtain⟨j,hj⟩:∃j:Nat,L=((j+1:Nat):Int):=⟨L.toNat-1,by omega⟩
 obtain⟨p,hp⟩:∃p:Nat,sq=(p:Int):=Int.eq_ofNat_of_zero_le s1;have hj2:j<I.length:=by omega
 have ek:Int.sub L 1= .ofNat j:=by rw[hj];show((j+1:Nat):Int)-1=(j:Int);omega
 have eS:kS L=j:=by unfold kS;rw[ek];rfl
 rw[eS]at s2;obtain⟨r1,r2⟩:=hT.row j hj2;have hl:p<(gI I j).length:=by rw[hp]at s2;exact Int.ofNat_lt.1 s2
 obtain⟨n1,n2⟩:=r2 p hl;obtain⟨r,hr'⟩:∃r:Nat,nI (gI I j) p=(r:Int):=Int.eq_ofNat_of_zero_le n1;have a1:=hT.mod.av1;have a6:=hT.mod.av6;have e1:ilt L (.ofNat 1)=false:=tX (show(1:Int)≤L from k1);have e2:ilt S L=false:=tX k2;have e3:ilt sq (.ofNat 0)=false:=tX (show(0:Int)≤sq from s1);have e4:ilt sq (.ofNat (gI I (kS L)).length)=true:=sP (by rw[eS];exact s2)
 have e5:nng sq=true:=by rw[hp];rfl
 have e6:nng (nI (gI I (kS L)) sq.toNat)=true:=by rw[eS,hp];show nng (nI (gI I j) p)=true;rw[hr'];rfl
 have e7:sq.toNat=p:=by rw[hp];rfl
 rw[eRw,zO hr,ho,e1,e2,e3,ek,eS,jV (show j<9223372036854775808 by omega)]
 rw[eS]at e4 e6;rw[e4,e5,e6,zO q1,zO hj2,q2,zO (show 0<G.length by omega),zO (show G.length<1000 by omega),e7,zO hl]
 rfl
theorem qYx:wG Tryz.prog (odT [(22,odR [tbT] (kM jH pPA)),(23,odR [.list nT] qEk)]):=zX (zX yS (yN kClo)) (yN qUc)
theorem kRw:∀az tv nw,(oRw jH az).run=some (tv,nw)→∀k,KnP Tryz.prog k 7 az tv nw:=by
 intro az tv nw hh k;unfold oRw at hh;split at hh
 ·rename_i h o t G P D S O U ab C am sb sl sm rb rl rm Z F I L sq;obtain⟨h1,h2⟩:=zV hh;cases h2;simp only[Bool.and_eq_true]at h1;exact vF (cz:=[.ag (tbC h o t G P D S O U ⟨ab,C,am⟩ ⟨sb,sl,sm⟩ ⟨rb,rl,rm⟩ Z F I),vi L,vi sq]) xY qYx jK (qZy h o t G P D S O U ⟨ab,C,am⟩ ⟨sb,sl,sm⟩ ⟨rb,rl,rm⟩ Z F I L sq (qU h1.1) h1.2.1 h1.2.2) rfl k
 ·cases hh
abbrev LH:=Int×Int
noncomputable def sB(y n i:Nat):Int:= .ofNat (y+i*n)
noncomputable def xB(F I:List (List Int))(L:Int)(n y b i:Nat):Int:=nI (rwR F I L (sB y n i)) b
noncomputable def gLh(F I:List (List Int))(L:Int)(n y b i:Nat)(a:LH):LH⊕LH:= .inl (mnI a.1 (xB F I L n y b i),mxI a.2 (xB F I L n y b i))
noncomputable def lhF(F I:List (List Int))(L:Int)(n y b M:Nat):LH:=fol (gLh F I L n y b) id M 0 (2199023255552,-1)
theorem qDu{F I:List (List Int)}{L:Int}{n y b M:Nat}(hx:∀j,j<M→0≤xB F I L n y b j∧xB F I L n y b j≤1099511627776):∀(k i:Nat)(a:LH),i+k=M→0≤a.1→a.2≤1099511627776→(fol (gLh F I L n y b) id k i a).1≤a.1∧a.2≤(fol (gLh F I L n y b) id k i a).2∧0≤(fol (gLh F I L n y b) id k i a).1∧(fol (gLh F I L n y b) id k i a).2≤1099511627776∧∀j,i≤j→j<M→(fol (gLh F I L n y b) id k i a).1≤xB F I L n y b j∧xB F I L n y b j≤(fol (gLh F I L n y b) id k i a).2
 | 0,i,a,e,h1,h2=>⟨Int.le_refl _,Int.le_refl _,h1,h2,fun j _ _=>by omega⟩
 | k+1,i,a,e,h1,h2=>by
  obtain⟨x1,x2⟩:=hx i (by omega)
  obtain⟨m1,m2,m3⟩:=zSo a.1 (xB F I L n y b i);obtain⟨p1,p2,p3⟩:=zMe a.2 (xB F I L n y b i);obtain⟨r1,r2,r3,r4,r5⟩:=qDu hx k (i+1) (mnI a.1 (xB F I L n y b i),mxI a.2 (xB F I L n y b i)) (by omega) (by rcases m3 with g | g<;>omega) (by rcases p3 with g | g<;>omega)
  rw[show fol (gLh F I L n y b) id (k+1) i a=fol (gLh F I L n y b) id k (i+1) (mnI a.1 (xB F I L n y b i),mxI a.2 (xB F I L n y b i))from rfl];refine⟨Int.le_trans r1 m1,Int.le_trans p1 r2,r3,r4,fun j hj hj2=>?_⟩;rcases Nat.eq_or_lt_of_le hj with rfl | g
  ·exact⟨Int.le_trans r1 m2,Int.le_trans p2 r2⟩
  ·exact r5 j g hj2
theorem jCd{n m:Int}(hn:0≤n)(hm:0<m):ofA n m=Raw.of (mkRat n m.toNat):=by
 obtain⟨a,rfl⟩:=Int.eq_ofNat_of_zero_le hn;obtain⟨b,rfl⟩:=Int.eq_ofNat_of_zero_le (Int.le_of_lt hm);have e1:decide ((a:Int)<0)=false:=decide_eq_false (by omega)
 have e2:decide ((b:Int)<0)=false:=decide_eq_false (by omega)
 unfold ofA;rw[e1,e2];rfl
theorem qEo{n m:Int}(hn:0≤n)(hm:0<m)(h1:n≤2199023255552)(h2:m≤1048576):(ofA n m).chk=0∧(ofA n m).rat=(n:Rat) / (m:Rat):=by
 have b:BQ 42 (mkRat n m.toNat):=zGk (by omega) (by omega) (by omega)
 rw[jCd hn hm,Raw.of_rat];refine⟨Raw.of_chk (b.fit (by omega)),?_⟩
 rw[Rat.mkRat_eq_div];obtain⟨q,rfl⟩:=Int.eq_ofNat_of_zero_le (Int.le_of_lt hm);rfl
theorem zVh{h o t:List Int}{G:List Bd}{P D S:Int}{O U:List Nz}{C st V:Raw}{Z:Int}{F I:List (List Int)}{L H W vq Y:Int}(hk:sU h o t G P D S O U C st V Z F I L H W vq Y=true):jH h o t G P D S O U C st V Z F I=true∧1≤L∧L≤S∧0≤Y∧Y<(G.length:Int):=by
 have hc:Nat.beq (lkE h o t G P D S O U C st V Z F I L H W vq Y) 0=true:=by
  cases hc:Nat.beq (lkE h o t G P D S O U C st V Z F I L H W vq Y) 0 with
  | true=>rfl
  | false=>
   have e:lkR h o t G P D S O U C st V Z F I L H W vq Y= .inr (lkE h o t G P D S O U C st V Z F I L H W vq Y):=by unfold lkR;rw[hc];rfl
   unfold sU at hk;rw[e]at hk;cases hk
 obtain⟨h1,k1,k2,p1,p2,_⟩:=zVi jH pPA h o t G P D S O U C st V Z F I L H W vq Y hc;exact⟨h1,k1,k2,p1,p2⟩
theorem qGj{h o t:List Int}{G:List Bd}{S Z:Int}{F I:List (List Int)}(hT:Tab h o t G S Z F I){L:Int}(k1:1≤L)(k2:L≤S){y i:Nat}(hy:y<G.length)(hi:i<h.length*o.length*t.length):rwB S I L (sB y G.length i)=true:=by
 have hix:=hT.ixl;obtain⟨j,hj⟩:∃j:Nat,L=((j+1:Nat):Int):=⟨L.toNat-1,by omega⟩
 have hj2:j<I.length:=by omega
 have ek:Int.sub L 1= .ofNat j:=by rw[hj];show((j+1:Nat):Int)-1=(j:Int);omega
 have eS:kS L=j:=by unfold kS;rw[ek];rfl
 obtain⟨r1,r2⟩:=hT.row j hj2;have m1:i*G.length+G.length≤h.length*o.length*t.length*G.length:=by
  rw[←Nat.succ_mul];exact Nat.mul_le_mul_right _ hi
 unfold rwB sB;rw[eS,r1,show ilt L (.ofNat 1)=false from tX (show(1:Int)≤L from k1),tX k2,show ilt (.ofNat (y+i*G.length)) (.ofNat 0)=false from tX (Int.natCast_nonneg _),sP (show(.ofNat (y+i*G.length):Int)<.ofNat (h.length*o.length*t.length*G.length)from Int.ofNat_lt.2 (by omega))]
 rfl
theorem jBl(h o t:List Int)(G:List Bd)(P D S:Int)(O U:List Nz)(C st V:Raw)(Z:Int)(F I:List (List Int)){L H W vq Y:Int}(hk:sU h o t G P D S O U C st V Z F I L H W vq Y=true){b:Nat}(hb:b<G.length):∃lo hi,lhF F I L G.length Y.toNat b (h.length*o.length*t.length)=(lo,hi)∧0≤lo∧lo≤2199023255552∧ -1≤hi∧hi≤1099511627776∧wI (ofA lo Z) (rw' (rI (lkL h o t G P D S O U C st V Z F I L H W vq Y) b))=0∧kX (ofA lo Z) (rw' (rI (lkL h o t G P D S O U C st V Z F I L H W vq Y) b))≤0∧wI (rw' (rI (lkL h o t G P D S O U C st V Z F I L H W vq Y) b)) (ofA hi Z)=0∧kX (rw' (rI (lkL h o t G P D S O U C st V Z F I L H W vq Y) b)) (ofA hi Z)≤0:=by
 obtain⟨c1,⟨y,y1,y2⟩,⟨z,z1,z2⟩⟩:=zSl h o t G P D S O U C st V Z F I hk hb;have hT:Tab h o t G S Z F I:=zNb hk;obtain⟨_,k1,k2,p1,p2⟩:=zVh hk;obtain⟨q,hq'⟩:∃q:Nat,Y=(q:Int):=Int.eq_ofNat_of_zero_le p1;have hq2:q<G.length:=by omega
 have eq:Y.toNat=q:=by rw[hq'];rfl
 rw[eq];have hx:∀j,j<h.length*o.length*t.length→0≤xB F I L G.length q b j∧xB F I L G.length q b j≤1099511627776:=fun j hj=>(qGk hT (qGj hT k1 k2 hq2 hj)).2.2 b hb;obtain⟨r1,r2,r3,r4,r5⟩:=qDu hx (h.length*o.length*t.length) 0 (2199023255552,-1) (Nat.zero_add _) (by decide) (by decide)
 have at':∀y∈wgA h o t H W vq,∃j,j<h.length*o.length*t.length∧vS F I L (.ofNat G.length) Y b y=xB F I L G.length q b j:=fun y hy=>by
  have hg:=hT.mod.grid;have hw:inV (h.length*o.length*t.length) (wgA h o t H W vq):=by
   unfold wgA wgR;rw[kW hg];exact qPg ofA muA frA hg
  obtain⟨v1,v2⟩:=hw y hy;obtain⟨v,hv⟩:∃v:Nat,y.1=(v:Int):=Int.eq_ofNat_of_zero_le v1;have hv2:v<h.length*o.length*t.length:=by rw[hv]at v2;exact Int.ofNat_lt.1 v2
  have hsz:=hT.mod.sz;have m1:v*G.length+G.length≤h.length*o.length*t.length*G.length:=by
   rw[←Nat.succ_mul];exact Nat.mul_le_mul_right _ hv2
  have em:Int.mul y.1 (.ofNat G.length)= .ofNat (v*G.length):=by rw[hv];rfl
  have ej:jS (.ofNat G.length) Y y=sB q G.length v:=by
   show wq (Int.add (Int.mul y.1 (.ofNat G.length)) Y)= .ofNat (q+v*G.length);rw[em,hq',Nat.add_comm q];exact zXg (jV (show v*G.length+q<9223372036854775808 by omega))
  refine⟨v,hv2,?_⟩;unfold vS rS;rw[ej];rfl
 obtain⟨i,i1,i2⟩:=at' y y1;obtain⟨j,j1,j2⟩:=at' z z1;have sc1:=hT.sc1;have sc2:=hT.sc2;have ps:(0:Rat)<((Z:Int):Rat):=Rat.intCast_pos.2 (by omega)
 have h5:=(r5 i (Nat.zero_le _) i1).1;have h6:=(r5 j (Nat.zero_le _) j1).2;have hj0:=hx j j1;have b1:(fol (gLh F I L G.length q b) id (h.length*o.length*t.length) 0 (2199023255552,-1)).1≤2199023255552:=r1;have b2:0≤(fol (gLh F I L G.length q b) id (h.length*o.length*t.length) 0 (2199023255552,-1)).2:=by omega
 unfold lhF;generalize fol (gLh F I L G.length q b) id (h.length*o.length*t.length) 0 (2199023255552,-1)=r at r1 r2 r3 r4 r5 h5 h6 b1 b2;obtain⟨lo,hi⟩:=r;obtain⟨d1,d2⟩:=qEo (n:=lo) (m:=Z) r3 (by omega) b1 sc2
 obtain⟨f1,f2⟩:=qEo (n:=hi) (m:=Z) b2 (by omega) (by show hi≤_;have:hi≤1099511627776:=r4;omega) sc2
 refine⟨lo,hi,rfl,r3,b1,?_,r4,zLe d1 c1,(zLd d1 c1).2 ?_,zLe c1 f1,(zLd c1 f1).2 ?_⟩
 ·have:0≤hi:=b2;omega
 ·rw[d2];refine Rat.le_trans (zLi ps (Rat.intCast_le_intCast.2 ?_)) y2;rw[i2];exact h5
 ·rw[f2];refine Rat.le_trans z2 (zLi ps (Rat.intCast_le_intCast.2 ?_));rw[j2];exact h6
noncomputable def qId(p:Nat→Bool)(n:Nat):Bool:=fol (fun i(_:Unit)=>bif p i then .inr true else .inl ()) (fun _=>false) n 0 ()
theorem zGe{st:Hs→Option (Hs⊕(Ex×Hs))}{iv:Nat→Hs}{p:Nat→Bool}{n:Nat}{A B:Ex×Hs}(h1:∀i,i<n→st (iv i)=some (bif p i then .inr A else .inl (iv (i+1))))(h2:st (iv n)=some (.inr B)):lpF st n (iv 0)=some (bif qId p n then A else B):=
 yX (st:=st) (iv:=fun i(_:Unit)=>iv i) (g:=fun i(_:Unit)=>(bif p i then .inr true else .inl ():Unit⊕Bool)) (d:=fun _=>false) (out:=fun b=>bif b then A else B) (n:=n) (fun _ _=>True)
  (fun i _ hi _=>by rw[h1 i hi];cases p i<;>rfl) (fun _ _ _ _ _ _=>trivial) (fun _ _=>h2) n 0 () (by omega) trivial
theorem zBd{α:Type}{g b:Bool}{A B y:α}(h:(grd g (.ite b (.ret A) (.ret B))).run=some y):g=true∧y=bif b then A else B:=by
 obtain⟨h1,h2⟩:=zV h;refine⟨h1,?_⟩;cases b<;>cases h2<;>rfl
noncomputable abbrev rTT:Ex×Hs:=(.r,⟨[.v (.bool true)],[],[]⟩)
noncomputable def iL6(l:List Rt)(i:Nat):Hs:=⟨[.ls .a zR l,vn i],[],[]⟩
noncomputable def Ll6:Lp:=⟨0,
 ⟨[.h,.u,.u,.h]++(us' 42),[]⟩,
 ⟨us' 46,[]⟩,
 ⟨[.u,.u,.h]++(us' 43),[]⟩⟩
noncomputable abbrev qNg:Code:=lpc Tryz.prog 41 [false,true,false,true]
theorem qPr:cAt Tryz.prog 41 [false,true,false,true]=some (.loop qNg):=by kernel_rfl
noncomputable abbrev zZv(OD:Od)(LO:Lo):Hs→Option (Hs⊕(Ex×Hs)):=Ll6.stp (evD Tryz.prog OD LO 60) 41 [false,true,false,true] qNg
noncomputable def l6B(n d:Nat):Bool:=bif ilt (.ofNat 6) (.ofNat n)&&!ilt 128 (.ofNat n)then true else(bif ilt (.ofNat 6) (.ofNat d)&&!ilt 128 (.ofNat d)then true else(bif ilt (.ofNat 200) (.ofNat n)then true else ilt (.ofNat 200) (.ofNat d)))
noncomputable def l6F(l:List Rt):Bool:=qId (fun i=>l6B (rA l i).2.1.length (rA l i).2.2.length) l.length
theorem sL6(l:List Rt)(i:Nat):zZv (odT []) (loT []) (iL6 l i)=bif ilt (.ofNat i) (.ofNat l.length)then gd (Nat.blt i l.length) (gd (Nat.blt i l.length) (bif ilt (.ofNat 6) (.ofNat ((((rA l i).2).1).length))then(bif !(ilt 128 (.ofNat ((((rA l i).2).1).length)))then some (.inr (.r,⟨[.v (.bool true)],[],[]⟩))else(bif ilt (.ofNat 6) (.ofNat ((((rA l i).2).2).length))then(bif !(ilt 128 (.ofNat ((((rA l i).2).2).length)))then some (.inr (.r,⟨[.v (.bool true)],[],[]⟩))else(bif ilt (.ofNat 200) (.ofNat ((((rA l i).2).1).length))then some (.inr (.r,⟨[.v (.bool true)],[],[]⟩))else(bif ilt (.ofNat 200) (.ofNat ((((rA l i).2).2).length))then some (.inr (.r,⟨[.v (.bool true)],[],[]⟩))else nx i (.inl (iL6 l (i+1))))))else(bif ilt (.ofNat 200) (.ofNat ((((rA l i).2).1).length))then some (.inr (.r,⟨[.v (.bool true)],[],[]⟩))else(bif ilt (.ofNat 200) (.ofNat ((((rA l i).2).2).length))then some (.inr (.r,⟨[.v (.bool true)],[],[]⟩))else nx i (.inl (iL6 l (i+1)))))))else(bif ilt (.ofNat 6) (.ofNat ((((rA l i).2).2).length))then(bif !(ilt 128 (.ofNat ((((rA l i).2).2).length)))then some (.inr (.r,⟨[.v (.bool true)],[],[]⟩))else(bif ilt (.ofNat 200) (.ofNat ((((rA l i).2).1).length))then some (.inr (.r,⟨[.v (.bool true)],[],[]⟩))else(bif ilt (.ofNat 200) (.ofNat ((((rA l i).2).2).length))then some (.inr (.r,⟨[.v (.bool true)],[],[]⟩))else nx i (.inl (iL6 l (i+1))))))else(bif ilt (.ofNat 200) (.ofNat ((((rA l i).2).1).length))then some (.inr (.r,⟨[.v (.bool true)],[],[]⟩))else(bif ilt (.ofNat 200) (.ofNat ((((rA l i).2).2).length))then some (.inr (.r,⟨[.v (.bool true)],[],[]⟩))else nx i (.inl (iL6 l (i+1))))))))else some (.inr (.x 0,⟨[],[],[]⟩)):=by kernel_rfl
theorem lpL6(l:List Rt)(h9:l.length<9223372036854775807):lpF (zZv (odT []) (loT [])) l.length (iL6 l 0)=some (bif l6F l then rTT else(.x 0,⟨[],[],[]⟩)):=
 zGe (iv:=iL6 l)
  (fun i hi=>by
   rw[sL6,show ilt (.ofNat i) (.ofNat l.length)=true from zO hi,zO hi,vG (show i+1<9223372036854775808 by omega)]
   unfold l6B;cases ilt (.ofNat 6) (.ofNat (rA l i).2.1.length)<;>cases ilt 128 (.ofNat (rA l i).2.1.length)<;>cases ilt (.ofNat 6) (.ofNat (rA l i).2.2.length)<;>cases ilt 128 (.ofNat (rA l i).2.2.length)<;>cases ilt (.ofNat 200) (.ofNat (rA l i).2.1.length)<;>cases ilt (.ofNat 200) (.ofNat (rA l i).2.2.length)<;>rfl)
  (by rw[sL6,show ilt (.ofNat l.length) (.ofNat l.length)=false from kG (Nat.le_refl _)];rfl)
noncomputable def hL6:Hs→DT (Ex×Hs)
 | ⟨[.ls .a (.prod .bool (.prod (.list .lim) (.list .lim))) l,.v (.int .i64 (.ofNat 0))],[],[]⟩=>grd (Nat.blt l.length 9223372036854775807) (.ite (l6F l) (.ret rTT) (.ret (.x 0,⟨[],[],[]⟩)))
 | _=> .no
theorem qTb:∀q y,(hL6 q).run=some y→∃n,It (zZv (odT []) (loT [])) n q y:=fun q y hh=>by
 unfold hL6 at hh;split at hh
 ·rename_i l;obtain⟨h1,rfl⟩:=zBd hh;exact kC _ _ (lpL6 l (qU h1))
 ·cases hh
noncomputable abbrev LL6:Lo:=loT [(41,[false,true,false,true],Ll6.row hL6)]
theorem qXh:pY Tryz.prog LL6:=yG jK fB qPr qTb
theorem eL6(l:List Rt):((jB Tryz.prog (evD Tryz.prog (odT []) (LL6) 60) 41 [.ls .a zR l] []).bind jF).run=gd (Nat.blt l.length 9223372036854775807) (bif l6F l then yB true else yB false):=by kernel_rfl
theorem kL6:∀az tv nw,(oWd l6F az).run=some (tv,nw)→∀k,KnP Tryz.prog k 41 az tv nw:=by
 intro az tv nw h k;unfold oWd at h;split at h
 ·rename_i l;obtain⟨h1,h2⟩:=zV h;cases h2;have q:((jB Tryz.prog (evD Tryz.prog (odT []) (LL6) 60) 41 [.ls .a zR l] []).bind jF).run=yB (l6F l):=by
   rw[eL6,h1];cases l6F l<;>rfl
  exact vF (cz:=[.ls .a zR l]) xY yS qXh q rfl k
 ·cases h
noncomputable abbrev nN(l:List Nz)(i:Nat):Nz:=nth nzT.zero l i
noncomputable def iLn(i:Nat)(h o t:List Int)(G:List Bd)(P D S:Int)(O U:List Nz)(C st V:Raw):Hs:=⟨[vn i],[],[[.ls .a nT h,.ls .a nT o,.ls .a nT t,.ls .a bT G,vi P,vi D,vi S,.ls .a nzT O,.ls .a nzT U,.v (.bool C.1),.ls .a .lim C.2,.ls .a .lim C.3,.v (.bool st.1),.ls .a .lim st.2,.ls .a .lim st.3,.v (.bool V.1),.ls .a .lim V.2,.ls .a .lim V.3]]⟩
noncomputable def xLn(h o t:List Int)(G:List Bd)(P D S:Int)(O U:List Nz)(C st V:Raw):Hs:=⟨[],[],[[.ls .a nT h,.ls .a nT o,.ls .a nT t,.ls .a bT G,vi P,vi D,vi S,.ls .a nzT O,.ls .a nzT U,.v (.bool C.1),.ls .a .lim C.2,.ls .a .lim C.3,.v (.bool st.1),.ls .a .lim st.2,.ls .a .lim st.3,.v (.bool V.1),.ls .a .lim V.2,.ls .a .lim V.3]]⟩
noncomputable def Lln0:Lp:=⟨1,
 ⟨[.u,.t (.op 0 0),.u,.h]++(us' 73),[.r [.h,.h,.h,.h,.h,.h,.h,.h,.h,.h,.h,.h,.h,.h,.h,.h,.h,.h] 30]⟩,
 ⟨[.u,.t (.op 0 0)]++(us' 75),[.r [.h,.h,.h,.h,.h,.h,.h,.h,.h,.h,.h,.h,.h,.h,.h,.h,.h,.h] 30]⟩,
 ⟨[.u,.u,.h]++(us' 74),[.g]⟩⟩
noncomputable abbrev zZw:Code:=lpc Tryz.prog 18 [false,true,false,true,true]
theorem qHv:cAt Tryz.prog 18 [false,true,false,true,true]=some (.loop zZw):=by kernel_rfl
noncomputable abbrev zRg(OD:Od)(LO:Lo):Hs→Option (Hs⊕(Ex×Hs)):=Lln0.stp (evD Tryz.prog OD LO 60) 18 [false,true,false,true,true] zZw
noncomputable def Lln1:Lp:=⟨1,
 ⟨[.u,.t (.op 0 0),.u,.u,.h]++(us' 72),[.r [.h,.h,.h,.h,.h,.h,.h,.h,.h,.h,.h,.h,.h,.h,.h,.h,.h,.h] 30]⟩,
 ⟨[.u,.t (.op 0 0)]++(us' 75),[.r [.h,.h,.h,.h,.h,.h,.h,.h,.h,.h,.h,.h,.h,.h,.h,.h,.h,.h] 30]⟩,
 ⟨[.u,.u,.h]++(us' 74),[.g]⟩⟩
noncomputable abbrev zZx:Code:=lpc Tryz.prog 18 [false,true,false,true,true,true]
theorem qHw:cAt Tryz.prog 18 [false,true,false,true,true,true]=some (.loop zZx):=by kernel_rfl
noncomputable abbrev zRh(OD:Od)(LO:Lo):Hs→Option (Hs⊕(Ex×Hs)):=Lln1.stp (evD Tryz.prog OD LO 60) 18 [false,true,false,true,true,true] zZx
theorem sLn0(fW:List Rt→Bool)(i:Nat)(h o t:List Int)(G:List Bd)(P D S:Int)(O U:List Nz)(C st V:Raw):zRg (odT [(41,odR [.list zR] (oWd fW))]) (loT []) (iLn i h o t G P D S O U C st V)=bif ilt (.ofNat i) (.ofNat O.length)then gd (Nat.blt i O.length) (bif fW [(((nN O i).2).1,(((nN O i).2).2).1,(((nN O i).2).2).2)]then some (.inr (.r,⟨[.v (.bool true)],[],[[]]⟩))else nx i (.inl (iLn (i+1) h o t G P D S O U C st V)))else some (.inr (.x 0,(xLn h o t G P D S O U C st V))):=by kernel_rfl
theorem sLn1(fW:List Rt→Bool)(i:Nat)(h o t:List Int)(G:List Bd)(P D S:Int)(O U:List Nz)(C st V:Raw):zRh (odT [(41,odR [.list zR] (oWd fW))]) (loT []) (iLn i h o t G P D S O U C st V)=bif ilt (.ofNat i) (.ofNat U.length)then gd (Nat.blt i U.length) (bif fW [(((nN U i).2).1,(((nN U i).2).2).1,(((nN U i).2).2).2)]then some (.inr (.r,⟨[.v (.bool true)],[],[[]]⟩))else nx i (.inl (iLn (i+1) h o t G P D S O U C st V)))else some (.inr (.x 2,(xLn h o t G P D S O U C st V))):=by kernel_rfl
noncomputable def ln0(fW:List Rt→Bool)(l:List Nz):Bool:=qId (fun i=>fW [(nN l i).2]) l.length
theorem jBw(fW:List Rt→Bool)(h o t:List Int)(G:List Bd)(P D S:Int)(O U:List Nz)(C st V:Raw)(h9:O.length<9223372036854775807):lpF (zRg (odT [(41,odR [.list zR] (oWd fW))]) (loT [])) O.length (iLn 0 h o t G P D S O U C st V)=some (bif ln0 fW O then(.r,⟨[.v (.bool true)],[],[[]]⟩)else(.x 0,xLn h o t G P D S O U C st V)):=
 zGe (iv:=fun i=>iLn i h o t G P D S O U C st V)
  (fun i hi=>by
   rw[sLn0,show ilt (.ofNat i) (.ofNat O.length)=true from zO hi,zO hi,vG (show i+1<9223372036854775808 by omega)]
   cases fW [(nN O i).2]<;>rfl)
  (by rw[sLn0,show ilt (.ofNat O.length) (.ofNat O.length)=false from kG (Nat.le_refl _)];rfl)
noncomputable def qOg(fW:List Rt→Bool):List T→DT (Ex×Hs)
 | [.ls .a (.int .i64) h,.ls .a (.int .i64) o,.ls .a (.int .i64) t,.ls .a (.prod (.int .u8) (.prod (.int .i64) (.int .i64))) G,.v (.int .i64 P),.v (.int .i64 D),.v (.int .i64 S),.ls .a (.prod (.int .i64) zR) O,.ls .a (.prod (.int .i64) zR) U,.v (.bool ab),.ls .a .lim C,.ls .a .lim am,.v (.bool sb),.ls .a .lim sl,.ls .a .lim sm,.v (.bool rb),.ls .a .lim rl,.ls .a .lim rm]=>grd (Nat.blt O.length 9223372036854775807) (.ite (ln0 fW O) (.ret (.r,⟨[.v (.bool true)],[],[[]]⟩)) (.ret (.x 0,xLn h o t G P D S O U ⟨ab,C,am⟩ ⟨sb,sl,sm⟩ ⟨rb,rl,rm⟩)))
 | _=> .no
noncomputable def qTe(fW:List Rt→Bool):Hs→DT (Ex×Hs)
 | ⟨[.v (.int .i64 (.ofNat 0))],[],[ks]⟩=>qOg fW ks
 | _=> .no
theorem qJn(fW:List Rt→Bool):∀q y,(qTe fW q).run=some y→∃n,It (zRg (odT [(41,odR [.list zR] (oWd fW))]) (loT [])) n q y:=fun q y hh=>by
 unfold qTe at hh;split at hh
 ·rename_i ks;unfold qOg at hh;split at hh
  ·rename_i h o t G P D S O U ab C am sb sl sm rb rl rm;obtain⟨h1,rfl⟩:=zBd hh;exact kC _ _ (jBw fW h o t G P D S O U ⟨ab,C,am⟩ ⟨sb,sl,sm⟩ ⟨rb,rl,rm⟩ (qU h1))
  ·cases hh
 ·cases hh
theorem jBx(fW:List Rt→Bool)(h o t:List Int)(G:List Bd)(P D S:Int)(O U:List Nz)(C st V:Raw)(h9:U.length<9223372036854775807):lpF (zRh (odT [(41,odR [.list zR] (oWd fW))]) (loT [])) U.length (iLn 0 h o t G P D S O U C st V)=some (bif ln0 fW U then(.r,⟨[.v (.bool true)],[],[[]]⟩)else(.x 2,xLn h o t G P D S O U C st V)):=
 zGe (iv:=fun i=>iLn i h o t G P D S O U C st V)
  (fun i hi=>by
   rw[sLn1,show ilt (.ofNat i) (.ofNat U.length)=true from zO hi,zO hi,vG (show i+1<9223372036854775808 by omega)]
   cases fW [(nN U i).2]<;>rfl)
  (by rw[sLn1,show ilt (.ofNat U.length) (.ofNat U.length)=false from kG (Nat.le_refl _)];rfl)
noncomputable def qOh(fW:List Rt→Bool):List T→DT (Ex×Hs)
 | [.ls .a (.int .i64) h,.ls .a (.int .i64) o,.ls .a (.int .i64) t,.ls .a (.prod (.int .u8) (.prod (.int .i64) (.int .i64))) G,.v (.int .i64 P),.v (.int .i64 D),.v (.int .i64 S),.ls .a (.prod (.int .i64) zR) O,.ls .a (.prod (.int .i64) zR) U,.v (.bool ab),.ls .a .lim C,.ls .a .lim am,.v (.bool sb),.ls .a .lim sl,.ls .a .lim sm,.v (.bool rb),.ls .a .lim rl,.ls .a .lim rm]=>grd (Nat.blt U.length 9223372036854775807) (.ite (ln0 fW U) (.ret (.r,⟨[.v (.bool true)],[],[[]]⟩)) (.ret (.x 2,xLn h o t G P D S O U ⟨ab,C,am⟩ ⟨sb,sl,sm⟩ ⟨rb,rl,rm⟩)))
 | _=> .no
noncomputable def qTf(fW:List Rt→Bool):Hs→DT (Ex×Hs)
 | ⟨[.v (.int .i64 (.ofNat 0))],[],[ks]⟩=>qOh fW ks
 | _=> .no
theorem qJo(fW:List Rt→Bool):∀q y,(qTf fW q).run=some y→∃n,It (zRh (odT [(41,odR [.list zR] (oWd fW))]) (loT [])) n q y:=fun q y hh=>by
 unfold qTf at hh;split at hh
 ·rename_i ks;unfold qOh at hh;split at hh
  ·rename_i h o t G P D S O U ab C am sb sl sm rb rl rm;obtain⟨h1,rfl⟩:=zBd hh;exact kC _ _ (jBx fW h o t G P D S O U ⟨ab,C,am⟩ ⟨sb,sl,sm⟩ ⟨rb,rl,rm⟩ (qU h1))
  ·cases hh
 ·cases hh
noncomputable abbrev LLn(fW:List Rt→Bool):Lo:=loT [(18,[false,true,false,true,true],Lln0.row (qTe fW)),(18,[false,true,false,true,true,true],Lln1.row (qTf fW))]
theorem eL24(fW:List Rt→Bool)(h o t:List Int)(G:List Bd)(P D S:Int)(O U:List Nz)(C st V:Raw):((jB Tryz.prog (evD Tryz.prog (odT [(41,odR [.list zR] (oWd fW))]) (LLn fW) 60) 18 [.ag (mdC h o t G P D S O U C st V)] []).bind jF).run=bif ilt (.ofNat 40) (.ofNat h.length)then yB true else(bif ilt (.ofNat 40) (.ofNat o.length)then yB true else(bif ilt (.ofNat 40) (.ofNat t.length)then yB true else(bif ilt (.ofNat 10) (.ofNat G.length)then yB true else(bif ilt (.ofNat 8) (.ofNat O.length)then yB true else(bif ilt (.ofNat 8) (.ofNat U.length)then yB true else(gd (Nat.blt O.length 9223372036854775807) (bif ln0 fW O then yB true else gd (Nat.blt U.length 9223372036854775807) (bif ln0 fW U then yB true else yB (fW [toT C,toT st,toT V]))))))))):=by kernel_rfl
noncomputable def lnM(h o t:List Int)(G:List Bd)(P D S:Int)(O U:List Nz)(C st V:Raw):Bool:=bif ilt (.ofNat 40) (.ofNat h.length)then true else(bif ilt (.ofNat 40) (.ofNat o.length)then true else(bif ilt (.ofNat 40) (.ofNat t.length)then true else(bif ilt (.ofNat 10) (.ofNat G.length)then true else(bif ilt (.ofNat 8) (.ofNat O.length)then true else(bif ilt (.ofNat 8) (.ofNat U.length)then true else(bif ln0 l6F O then true else(bif ln0 l6F U then true else l6F [toT C,toT st,toT V])))))))
theorem qXm(h o t:List Int)(G:List Bd)(P D S:Int)(O U:List Nz)(C st V:Raw)(h1:O.length<9223372036854775807)(h2:U.length<9223372036854775807):((jB Tryz.prog (evD Tryz.prog (odT [(41,odR [.list zR] (oWd l6F))]) (LLn l6F) 60) 18 [.ag (mdC h o t G P D S O U C st V)] []).bind jF).run=yB (lnM h o t G P D S O U C st V):=by
 rw[eL24,zO h1,zO h2];unfold lnM;cases ilt (.ofNat 40) (.ofNat h.length)
 rotate_left
 ·rfl
 cases ilt (.ofNat 40) (.ofNat o.length)
 rotate_left
 ·rfl
 cases ilt (.ofNat 40) (.ofNat t.length)
 rotate_left
 ·rfl
 cases ilt (.ofNat 10) (.ofNat G.length)
 rotate_left
 ·rfl
 cases ilt (.ofNat 8) (.ofNat O.length)
 rotate_left
 ·rfl
 cases ilt (.ofNat 8) (.ofNat U.length)
 rotate_left
 ·rfl
 cases ln0 l6F O
 rotate_left
 ·rfl
 cases ln0 l6F U<;>rfl
noncomputable def oLn(fM:MF Bool):List T→DT (T×Bool)
 | [.ag [.ls .a (.int .i64) h,.ls .a (.int .i64) o,.ls .a (.int .i64) t,.ls .a (.prod (.int .u8) (.prod (.int .i64) (.int .i64))) G,.v (.int .i64 P),.v (.int .i64 D),.v (.int .i64 S),.ls .a (.prod (.int .i64) zR) O,.ls .a (.prod (.int .i64) zR) U,.v (.bool ab),.ls .a .lim C,.ls .a .lim am,.v (.bool sb),.ls .a .lim sl,.ls .a .lim sm,.v (.bool rb),.ls .a .lim rl,.ls .a .lim rm]]=>grd (Nat.blt O.length 9223372036854775807&&Nat.blt U.length 9223372036854775807) (.ret (.v (.bool (fM h o t G P D S O U ⟨ab,C,am⟩ ⟨sb,sl,sm⟩ ⟨rb,rl,rm⟩)),true))
 | _=> .no
theorem qEm:wG Tryz.prog (odT [(41,odR [.list zR] (oWd l6F))]):=zX yS (yN kL6)
theorem qGc:dX Tryz.prog (evD Tryz.prog (odT [(41,odR [.list zR] (oWd l6F))]) (loT []) 60):=tK xY qEm jK 60
theorem qXk:pY Tryz.prog (LLn l6F):=yG (yG jK qGc qHw (qJo l6F)) qGc qHv (qJn l6F)
theorem kLn:∀az tv nw,(oLn lnM az).run=some (tv,nw)→∀k,KnP Tryz.prog k 18 az tv nw:=by
 intro az tv nw hh k;unfold oLn at hh;split at hh
 ·rename_i h o t G P D S O U ab C am sb sl sm rb rl rm;obtain⟨h1,h2⟩:=zV hh;simp only[Bool.and_eq_true]at h1;cases h2;exact vF (cz:=[.ag (mdC h o t G P D S O U ⟨ab,C,am⟩ ⟨sb,sl,sm⟩ ⟨rb,rl,rm⟩)]) xY qEm qXk (qXm h o t G P D S O U ⟨ab,C,am⟩ ⟨sb,sl,sm⟩ ⟨rb,rl,rm⟩ (qU h1.1) (qU h1.2)) rfl k
 ·cases hh
noncomputable def iLt(i:Nat)(h o t:List Int)(G:List Bd)(P D S:Int)(O U:List Nz)(C st V:Raw)(Z:Int)(F I:List (List Int)):Hs:=⟨[vn i],[],[[.ls .a nT h,.ls .a nT o,.ls .a nT t,.ls .a bT G,vi P,vi D,vi S,.ls .a nzT O,.ls .a nzT U,.v (.bool C.1),.ls .a .lim C.2,.ls .a .lim C.3,.v (.bool st.1),.ls .a .lim st.2,.ls .a .lim st.3,.v (.bool V.1),.ls .a .lim V.2,.ls .a .lim V.3,vi Z,.ls .a (.list nT) F,.ls .a (.list nT) I]]⟩
noncomputable def xLt(h o t:List Int)(G:List Bd)(P D S:Int)(O U:List Nz)(C st V:Raw)(Z:Int)(F I:List (List Int)):Hs:=⟨[],[],[[.ls .a nT h,.ls .a nT o,.ls .a nT t,.ls .a bT G,vi P,vi D,vi S,.ls .a nzT O,.ls .a nzT U,.v (.bool C.1),.ls .a .lim C.2,.ls .a .lim C.3,.v (.bool st.1),.ls .a .lim st.2,.ls .a .lim st.3,.v (.bool V.1),.ls .a .lim V.2,.ls .a .lim V.3,vi Z,.ls .a (.list nT) F,.ls .a (.list nT) I]]⟩
noncomputable def Llt0:Lp:=⟨1,
 ⟨[.u,.t (.op 0 0),.u,.h]++(us' 44),[.r [.h,.h,.h,.h,.h,.h,.h,.h,.h,.h,.h,.h,.h,.h,.h,.h,.h,.h,.h,.h,.h] 33]⟩,
 ⟨[.u,.t (.op 0 0)]++(us' 46),[.r [.h,.h,.h,.h,.h,.h,.h,.h,.h,.h,.h,.h,.h,.h,.h,.h,.h,.h,.h,.h,.h] 33]⟩,
 ⟨[.u,.u,.h]++(us' 45),[.g]⟩⟩
noncomputable abbrev zZy:Code:=lpc Tryz.prog 5 [false,true,false,true,true]
theorem qHx:cAt Tryz.prog 5 [false,true,false,true,true]=some (.loop zZy):=by kernel_rfl
noncomputable abbrev zRi(OD:Od)(LO:Lo):Hs→Option (Hs⊕(Ex×Hs)):=Llt0.stp (evD Tryz.prog OD LO 60) 5 [false,true,false,true,true] zZy
noncomputable def Llt1:Lp:=⟨1,
 ⟨[.u,.t (.op 0 0),.u,.u,.h]++(us' 43),[.r [.h,.h,.h,.h,.h,.h,.h,.h,.h,.h,.h,.h,.h,.h,.h,.h,.h,.h,.h,.h,.h] 33]⟩,
 ⟨us' 48,[.g]⟩,
 ⟨[.u,.u,.h]++(us' 45),[.g]⟩⟩
noncomputable abbrev zZz:Code:=lpc Tryz.prog 5 [false,true,false,true,true,true]
theorem qHy:cAt Tryz.prog 5 [false,true,false,true,true,true]=some (.loop zZz):=by kernel_rfl
noncomputable abbrev zRj(OD:Od)(LO:Lo):Hs→Option (Hs⊕(Ex×Hs)):=Llt1.stp (evD Tryz.prog OD LO 60) 5 [false,true,false,true,true,true] zZz
theorem sLt0(i:Nat)(h o t:List Int)(G:List Bd)(P D S:Int)(O U:List Nz)(C st V:Raw)(Z:Int)(F I:List (List Int)):zRi (odT []) (loT []) (iLt i h o t G P D S O U C st V Z F I)=bif ilt (.ofNat i) (.ofNat F.length)then gd (Nat.blt i F.length) (bif ilt (.ofNat 10) (.ofNat ((gI F i).length))then some (.inr (.r,⟨[.v (.bool true)],[],[[]]⟩))else nx i (.inl (iLt (i+1) h o t G P D S O U C st V Z F I)))else some (.inr (.x 0,(xLt h o t G P D S O U C st V Z F I))):=by kernel_rfl
theorem sLt1(i:Nat)(h o t:List Int)(G:List Bd)(P D S:Int)(O U:List Nz)(C st V:Raw)(Z:Int)(F I:List (List Int)):zRj (odT []) (loT []) (iLt i h o t G P D S O U C st V Z F I)=bif ilt (.ofNat i) (.ofNat I.length)then gd (Nat.blt i I.length) (bif ilt (.ofNat 220) (.ofNat ((gI I i).length))then some (.inr (.r,⟨[.v (.bool true)],[],[[]]⟩))else nx i (.inl (iLt (i+1) h o t G P D S O U C st V Z F I)))else some (.inr (.x 2,⟨[],[],[[]]⟩)):=by kernel_rfl
noncomputable def lt0(m:Nat)(q:List (List Int)):Bool:=qId (fun i=>ilt (.ofNat m) (.ofNat (gI q i).length)) q.length
theorem jBy(h o t:List Int)(G:List Bd)(P D S:Int)(O U:List Nz)(C st V:Raw)(Z:Int)(F I:List (List Int))(h9:F.length<9223372036854775807):lpF (zRi (odT []) (loT [])) F.length (iLt 0 h o t G P D S O U C st V Z F I)=some (bif lt0 10 F then(.r,⟨[.v (.bool true)],[],[[]]⟩)else(.x 0,xLt h o t G P D S O U C st V Z F I)):=
 zGe (iv:=fun i=>iLt i h o t G P D S O U C st V Z F I)
  (fun i hi=>by
   rw[sLt0,show ilt (.ofNat i) (.ofNat F.length)=true from zO hi,zO hi,vG (show i+1<9223372036854775808 by omega)]
   cases ilt (.ofNat 10) (.ofNat (gI F i).length)<;>rfl)
  (by rw[sLt0,show ilt (.ofNat F.length) (.ofNat F.length)=false from kG (Nat.le_refl _)];rfl)
noncomputable def qOi:List T→DT (Ex×Hs)
 | [.ls .a (.int .i64) h,.ls .a (.int .i64) o,.ls .a (.int .i64) t,.ls .a (.prod (.int .u8) (.prod (.int .i64) (.int .i64))) G,.v (.int .i64 P),.v (.int .i64 D),.v (.int .i64 S),.ls .a (.prod (.int .i64) zR) O,.ls .a (.prod (.int .i64) zR) U,.v (.bool ab),.ls .a .lim C,.ls .a .lim am,.v (.bool sb),.ls .a .lim sl,.ls .a .lim sm,.v (.bool rb),.ls .a .lim rl,.ls .a .lim rm,.v (.int .i64 Z),.ls .a (.list (.int .i64)) F,.ls .a (.list (.int .i64)) I]=>grd (Nat.blt F.length 9223372036854775807) (.ite (lt0 10 F) (.ret (.r,⟨[.v (.bool true)],[],[[]]⟩)) (.ret (.x 0,xLt h o t G P D S O U ⟨ab,C,am⟩ ⟨sb,sl,sm⟩ ⟨rb,rl,rm⟩ Z F I)))
 | _=> .no
noncomputable def qTg:Hs→DT (Ex×Hs)
 | ⟨[.v (.int .i64 (.ofNat 0))],[],[ks]⟩=>qOi ks
 | _=> .no
theorem qJp:∀q y,(qTg q).run=some y→∃n,It (zRi (odT []) (loT [])) n q y:=fun q y hh=>by
 unfold qTg at hh;split at hh
 ·rename_i ks;unfold qOi at hh;split at hh
  ·rename_i h o t G P D S O U ab C am sb sl sm rb rl rm Z F I;obtain⟨h1,rfl⟩:=zBd hh;exact kC _ _ (jBy h o t G P D S O U ⟨ab,C,am⟩ ⟨sb,sl,sm⟩ ⟨rb,rl,rm⟩ Z F I (qU h1))
  ·cases hh
 ·cases hh
theorem jBz(h o t:List Int)(G:List Bd)(P D S:Int)(O U:List Nz)(C st V:Raw)(Z:Int)(F I:List (List Int))(h9:I.length<9223372036854775807):lpF (zRj (odT []) (loT [])) I.length (iLt 0 h o t G P D S O U C st V Z F I)=some (bif lt0 220 I then(.r,⟨[.v (.bool true)],[],[[]]⟩)else(.x 2,⟨[],[],[[]]⟩)):=
 zGe (iv:=fun i=>iLt i h o t G P D S O U C st V Z F I)
  (fun i hi=>by
   rw[sLt1,show ilt (.ofNat i) (.ofNat I.length)=true from zO hi,zO hi,vG (show i+1<9223372036854775808 by omega)]
   cases ilt (.ofNat 220) (.ofNat (gI I i).length)<;>rfl)
  (by rw[sLt1,show ilt (.ofNat I.length) (.ofNat I.length)=false from kG (Nat.le_refl _)];rfl)
noncomputable def qOj:List T→DT (Ex×Hs)
 | [.ls .a (.int .i64) h,.ls .a (.int .i64) o,.ls .a (.int .i64) t,.ls .a (.prod (.int .u8) (.prod (.int .i64) (.int .i64))) G,.v (.int .i64 P),.v (.int .i64 D),.v (.int .i64 S),.ls .a (.prod (.int .i64) zR) O,.ls .a (.prod (.int .i64) zR) U,.v (.bool ab),.ls .a .lim C,.ls .a .lim am,.v (.bool sb),.ls .a .lim sl,.ls .a .lim sm,.v (.bool rb),.ls .a .lim rl,.ls .a .lim rm,.v (.int .i64 Z),.ls .a (.list (.int .i64)) F,.ls .a (.list (.int .i64)) I]=>grd (Nat.blt I.length 9223372036854775807) (.ite (lt0 220 I) (.ret (.r,⟨[.v (.bool true)],[],[[]]⟩)) (.ret (.x 2,⟨[],[],[[]]⟩)))
 | _=> .no
noncomputable def qTh:Hs→DT (Ex×Hs)
 | ⟨[.v (.int .i64 (.ofNat 0))],[],[ks]⟩=>qOj ks
 | _=> .no
theorem qJq:∀q y,(qTh q).run=some y→∃n,It (zRj (odT []) (loT [])) n q y:=fun q y hh=>by
 unfold qTh at hh;split at hh
 ·rename_i ks;unfold qOj at hh;split at hh
  ·rename_i h o t G P D S O U ab C am sb sl sm rb rl rm Z F I;obtain⟨h1,rfl⟩:=zBd hh;exact kC _ _ (jBz h o t G P D S O U ⟨ab,C,am⟩ ⟨sb,sl,sm⟩ ⟨rb,rl,rm⟩ Z F I (qU h1))
  ·cases hh
 ·cases hh
noncomputable abbrev LLt:Lo:=loT [(5,[false,true,false,true,true],Llt0.row qTg),(5,[false,true,false,true,true,true],Llt1.row qTh)]
theorem eLtb(fM:MF Bool)(h o t:List Int)(G:List Bd)(P D S:Int)(O U:List Nz)(C st V:Raw)(Z:Int)(F I:List (List Int)):((jB Tryz.prog (evD Tryz.prog (odT [(18,odR [mdT] (oLn fM))]) (LLt) 60) 5 [.ag (tbC h o t G P D S O U C st V Z F I)] []).bind jF).run=gd (Nat.blt O.length 9223372036854775807&&Nat.blt U.length 9223372036854775807) (bif fM h o t G P D S O U C st V then yB true else(bif ilt (.ofNat 200) (.ofNat F.length)then yB true else(bif ilt (.ofNat 30) (.ofNat I.length)then yB true else gd (Nat.blt F.length 9223372036854775807) (bif lt0 10 F then yB true else gd (Nat.blt I.length 9223372036854775807) (bif lt0 220 I then yB true else yB false))))):=by kernel_rfl
noncomputable def lnT(h o t:List Int)(G:List Bd)(P D S:Int)(O U:List Nz)(C st V:Raw)(Z:Int)(F I:List (List Int)):Bool:=bif lnM h o t G P D S O U C st V then true else(bif ilt (.ofNat 200) (.ofNat F.length)then true else(bif ilt (.ofNat 30) (.ofNat I.length)then true else(bif lt0 10 F then true else lt0 220 I)))
theorem qXs(h o t:List Int)(G:List Bd)(P D S:Int)(O U:List Nz)(C st V:Raw)(Z:Int)(F I:List (List Int))(h1:O.length<9223372036854775807)(h2:U.length<9223372036854775807)(h3:F.length<9223372036854775807)(h4:I.length<9223372036854775807):((jB Tryz.prog (evD Tryz.prog (odT [(18,odR [mdT] (oLn lnM))]) (LLt) 60) 5 [.ag (tbC h o t G P D S O U C st V Z F I)] []).bind jF).run=yB (lnT h o t G P D S O U C st V Z F I):=by
 rw[eLtb,zO h1,zO h2,zO h3,zO h4];unfold lnT;cases lnM h o t G P D S O U C st V<;>cases ilt (.ofNat 200) (.ofNat F.length)<;>cases ilt (.ofNat 30) (.ofNat I.length)<;>cases lt0 10 F<;>cases lt0 220 I<;>rfl
noncomputable def qEl(fT:TF Bool):List T→DT (T×Bool)
 | [.ag [.ls .a (.int .i64) h,.ls .a (.int .i64) o,.ls .a (.int .i64) t,.ls .a (.prod (.int .u8) (.prod (.int .i64) (.int .i64))) G,.v (.int .i64 P),.v (.int .i64 D),.v (.int .i64 S),.ls .a (.prod (.int .i64) zR) O,.ls .a (.prod (.int .i64) zR) U,.v (.bool ab),.ls .a .lim C,.ls .a .lim am,.v (.bool sb),.ls .a .lim sl,.ls .a .lim sm,.v (.bool rb),.ls .a .lim rl,.ls .a .lim rm,.v (.int .i64 Z),.ls .a (.list (.int .i64)) F,.ls .a (.list (.int .i64)) I]]=>grd (Nat.blt O.length 9223372036854775807&&(Nat.blt U.length 9223372036854775807&&(Nat.blt F.length 9223372036854775807&&Nat.blt I.length 9223372036854775807))) (.ret (.v (.bool (fT h o t G P D S O U ⟨ab,C,am⟩ ⟨sb,sl,sm⟩ ⟨rb,rl,rm⟩ Z F I)),true))
 | _=> .no
theorem qKy:wG Tryz.prog (odT [(18,odR [mdT] (oLn lnM))]):=zX yS (yN kLn)
theorem qXl:pY Tryz.prog LLt:=yG (yG jK fB qHy qJq) fB qHx qJp
theorem kLtb:∀az tv nw,(qEl lnT az).run=some (tv,nw)→∀k,KnP Tryz.prog k 5 az tv nw:=by
 intro az tv nw hh k;unfold qEl at hh;split at hh
 ·rename_i h o t G P D S O U ab C am sb sl sm rb rl rm Z F I;obtain⟨h1,h2⟩:=zV hh;simp only[Bool.and_eq_true]at h1;cases h2;exact vF (cz:=[.ag (tbC h o t G P D S O U ⟨ab,C,am⟩ ⟨sb,sl,sm⟩ ⟨rb,rl,rm⟩ Z F I)]) xY qKy qXl (qXs h o t G P D S O U ⟨ab,C,am⟩ ⟨sb,sl,sm⟩ ⟨rb,rl,rm⟩ Z F I (qU h1.1) (qU h1.2.1) (qU h1.2.2.1) (qU h1.2.2.2)) rfl k
 ·cases hh
noncomputable def iLh(x:List Rt)(b:Nat)(h o t:List Int)(G:List Bd)(P D S:Int)(O U:List Nz)(C st V:Raw)(Z:Int)(F I:List (List Int))(L Y lo hi nn f s:Int):Hs:=⟨[vi L,vi Y,.ls .n zR x,vn b,vi lo,vi hi,vi nn,vi f,vi s],[],[[.ls .a nT h,.ls .a nT o,.ls .a nT t,.ls .a bT G,vi P,vi D,vi S,.ls .a nzT O,.ls .a nzT U,.v (.bool C.1),.ls .a .lim C.2,.ls .a .lim C.3,.v (.bool st.1),.ls .a .lim st.2,.ls .a .lim st.3,.v (.bool V.1),.ls .a .lim V.2,.ls .a .lim V.3,vi Z,.ls .a (.list nT) F,.ls .a (.list nT) I]]⟩
noncomputable def xLh(x:List Rt)(b:Nat)(h o t:List Int)(G:List Bd)(P D S:Int)(O U:List Nz)(C st V:Raw)(Z:Int)(F I:List (List Int))(L Y lo hi f:Int):Hs:=⟨[vi L,vi Y,.ls .n zR x,vn b,vi lo,vi hi,vi f],[],[[.ls .a nT h,.ls .a nT o,.ls .a nT t,.ls .a bT G,vi P,vi D,vi S,.ls .a nzT O,.ls .a nzT U,.v (.bool C.1),.ls .a .lim C.2,.ls .a .lim C.3,.v (.bool st.1),.ls .a .lim st.2,.ls .a .lim st.3,.v (.bool V.1),.ls .a .lim V.2,.ls .a .lim V.3,vi Z,.ls .a (.list nT) F,.ls .a (.list nT) I]]⟩
noncomputable def Llh:Lp:=⟨1,
 ⟨[.u,.h]++(us' 3++([.h,.t (.op 0 0)]++(us' 6++([.h,.u,.h,.h,.h,.h,.h,.h]++(us' 125))))),[.r [.h,.h,.h,.h,.h,.h,.h,.h,.h,.h,.h,.h,.h,.h,.h,.h,.h,.h,.h,.h,.h] 33]⟩,
 ⟨[.u,.h]++(us' 3++([.h,.t (.op 0 0)]++(us' 6++([.h,.u,.h,.h,.h,.u,.h]++(us' 126))))),[.r [.h,.h,.h,.h,.h,.h,.h,.h,.h,.h,.h,.h,.h,.h,.h,.h,.h,.h,.h,.h,.h] 33]⟩,
 ⟨us' 12++([.h]++(us' 133)),[.g]⟩⟩
noncomputable abbrev qNi:Code:=lpc Tryz.prog 4 [false,true,false,true,true,false,false,true,false,false,true,false,true,true,true,true,true]
theorem qPt:cAt Tryz.prog 4 [false,true,false,true,true,false,false,true,false,false,true,false,true,true,true,true,true]=some (.loop qNi):=by kernel_rfl
noncomputable abbrev zUa(OD:Od)(LO:Lo):Hs→Option (Hs⊕(Ex×Hs)):=Llh.stp (evD Tryz.prog OD LO 60) 4 [false,true,false,true,true,false,false,true,false,false,true,false,true,true,true,true,true] qNi
theorem sLh(okP:TF Bool)(x:List Rt)(b:Nat)(h o t:List Int)(G:List Bd)(P D S:Int)(O U:List Nz)(C st V:Raw)(Z:Int)(F I:List (List Int))(L Y lo hi nn f s:Int):zUa (odT [(7,odR [tbT,nT,nT] (oRw okP))]) (loT []) (iLh x b h o t G P D S O U C st V Z F I L Y lo hi nn f s)=bif ilt s nn then gd (Nat.blt F.length 9223372036854775807&&(okP h o t G P D S O U C st V Z F I&&rwB S I L s)) (bif !ieq (.ofNat (rwR F I L s).length) (.ofNat x.length)then some (.inr (.r,⟨[.v (.bool false)],[],[[]]⟩))else gd (Nat.blt b (rwR F I L s).length) (gd (Nat.blt b (rwR F I L s).length) (gd (ieq (nI (rwR F I L s) b) (nI (rwR F I L s) b)&&true) (gd (ieq (nI (rwR F I L s) b) (nI (rwR F I L s) b)&&true) (gd (ieq (nI (rwR F I L s) b) (nI (rwR F I L s) b)&&true) (some (.inl (iLh x b h o t G P D S O U C st V Z F I L Y (mnI lo (nI (rwR F I L s) b)) (mxI hi (nI (rwR F I L s) b)) nn f (wq (Int.add s (.ofNat x.length)))))))))))else some (.inr (.x 2,xLh x b h o t G P D S O U C st V Z F I L Y lo hi f)):=by kernel_rfl
noncomputable def lhG(okP:TF Bool)(h o t:List Int)(G:List Bd)(P D S:Int)(O U:List Nz)(C st V:Raw)(Z:Int)(F I:List (List Int))(x:List Rt)(b:Nat)(L Y lo hi nn s:Int):Bool:=Nat.blt F.length 9223372036854775807&&(okP h o t G P D S O U C st V Z F I&&(!ilt L (.ofNat 1)&&(!ilt S L&&(Nat.beq x.length G.length&&(Nat.blt b G.length&&(nng Y&&(ilt Y (.ofNat G.length)&&(ieq s Y&&(ieq nn (.ofNat (h.length*o.length*t.length*G.length))&&(ieq lo 2199023255552&&ieq hi (-1)))))))))))
theorem lpLh(h o t:List Int)(G:List Bd)(P D S:Int)(O U:List Nz)(C st V:Raw)(Z:Int)(F I:List (List Int)){x:List Rt}{b y:Nat}{L f:Int}(hr:F.length<9223372036854775807)(ho:jH h o t G P D S O U C st V Z F I=true)(k1:1≤L)(k2:L≤S)(hx:x.length=G.length)(hb:b<G.length)(hy:y<G.length):lpF (zUa (odT [(7,odR [tbT,nT,nT] (oRw jH))]) (loT [])) (h.length*o.length*t.length) (iLh x b h o t G P D S O U C st V Z F I L (.ofNat y) 2199023255552 (-1) (.ofNat (h.length*o.length*t.length*G.length)) f (.ofNat y))=some (.x 2,xLh x b h o t G P D S O U C st V Z F I L (.ofNat y) (lhF F I L G.length y b (h.length*o.length*t.length)).1 (lhF F I L G.length y b (h.length*o.length*t.length)).2 f):=by
 have hT:Tab h o t G S Z F I:=zNc kyF h o t G P D S O U C st V Z F I (qG.1 ho);have hsz:=hT.mod.sz;have e0:sB y G.length 0=(Int.ofNat y):=by unfold sB;rw[Nat.zero_mul];rfl
 have main:=yX (st:=zUa (odT [(7,odR [tbT,nT,nT] (oRw jH))]) (loT [])) (iv:=fun i(a:LH)=>iLh x b h o t G P D S O U C st V Z F I L (.ofNat y) a.1 a.2 (.ofNat (h.length*o.length*t.length*G.length)) f (sB y G.length i)) (g:=gLh F I L G.length y b) (d:=id) (out:=fun a=>(.x 2,xLh x b h o t G P D S O U C st V Z F I L (.ofNat y) a.1 a.2 f)) (n:=h.length*o.length*t.length) (fun _ _=>True)
  (fun i a hi _=>by
   have m1:i*G.length+G.length≤h.length*o.length*t.length*G.length:=by
    rw[←Nat.succ_mul];exact Nat.mul_le_mul_right _ hi
   have q1:ilt (sB y G.length i) (.ofNat (h.length*o.length*t.length*G.length))=true:=sP (Int.ofNat_lt.2 (by omega))
   have q2:=qGj hT k1 k2 hy hi;have q3:=(qGk hT q2).2.1;have q4:wq (Int.add (sB y G.length i) (.ofNat x.length))=sB y G.length (i+1):=by
    have e:Int.add (sB y G.length i) (.ofNat x.length)= .ofNat (y+(i+1)*G.length):=by
     rw[hx];show Int.ofNat (y+i*G.length+G.length)=_;rw[Nat.succ_mul,Nat.add_assoc]
    rw[e];exact zXg (jV (show y+(i+1)*G.length<9223372036854775808 by rw[Nat.succ_mul];omega))
   rw[hx]at q4;rw[sLh,q1,zO hr,ho,q2,q3,hx,kW (a:= .ofNat G.length) rfl,zO hb,kW (a:=nI (rwR F I L (sB y G.length i)) b) rfl,q4];rfl)
  (fun _ _ _ _ _ _=>trivial)
  (fun a _=>by
   have q1:ilt (sB y G.length (h.length*o.length*t.length)) (.ofNat (h.length*o.length*t.length*G.length))=false:=tX (Int.ofNat_le.2 (by omega))
   rw[sLh,q1];rfl) (h.length*o.length*t.length) 0 (2199023255552,-1) (by omega) trivial
 rw[e0]at main;exact main
noncomputable def hLh'(okP:TF Bool)(x:List Rt)(b:Nat)(L Y lo hi nn f s:Int):List T→DT (Ex×Hs)
 | [.ls .a (.int .i64) h,.ls .a (.int .i64) o,.ls .a (.int .i64) t,.ls .a (.prod (.int .u8) (.prod (.int .i64) (.int .i64))) G,.v (.int .i64 P),.v (.int .i64 D),.v (.int .i64 S),.ls .a (.prod (.int .i64) zR) O,.ls .a (.prod (.int .i64) zR) U,.v (.bool ab),.ls .a .lim C,.ls .a .lim am,.v (.bool sb),.ls .a .lim sl,.ls .a .lim sm,.v (.bool rb),.ls .a .lim rl,.ls .a .lim rm,.v (.int .i64 Z),.ls .a (.list (.int .i64)) F,.ls .a (.list (.int .i64)) I]=>grd (lhG okP h o t G P D S O U ⟨ab,C,am⟩ ⟨sb,sl,sm⟩ ⟨rb,rl,rm⟩ Z F I x b L Y lo hi nn s) (.ret (.x 2,xLh x b h o t G P D S O U ⟨ab,C,am⟩ ⟨sb,sl,sm⟩ ⟨rb,rl,rm⟩ Z F I L Y (lhF F I L G.length Y.toNat b (h.length*o.length*t.length)).1 (lhF F I L G.length Y.toNat b (h.length*o.length*t.length)).2 f))
 | _=> .no
noncomputable def hLh(okP:TF Bool):Hs→DT (Ex×Hs)
 | ⟨[.v (.int .i64 L),.v (.int .i64 Y),.ls .n (.prod .bool (.prod (.list .lim) (.list .lim))) x,.v (.int .i64 (.ofNat b)),.v (.int .i64 lo),.v (.int .i64 hi),.v (.int .i64 nn),.v (.int .i64 f),.v (.int .i64 s)],[],[ks]⟩=>hLh' okP x b L Y lo hi nn f s ks
 | _=> .no
theorem qTd:∀q y,(hLh jH q).run=some y→∃n,It (zUa (odT [(7,odR [tbT,nT,nT] (oRw jH))]) (loT [])) n q y:=fun q y hh=>by
 unfold hLh at hh;split at hh
 ·rename_i L Y x b lo hi nn f s ks;unfold hLh' at hh;split at hh
  ·rename_i h o t G P D S O U ab C am sb sl sm rb rl rm Z F I;obtain⟨h1,h2⟩:=zV hh;cases h2;simp only[lhG,Bool.and_eq_true,Bool.not_eq_true']at h1;obtain⟨g1,g2,g3,g4,g5,g6,g7,g8,g9,g10,g11,g12⟩:=h1;have g3:(1:Int)≤L:=kT g3;have g4:L≤S:=kT g4;obtain⟨p,rfl⟩:∃p:Nat,Y= .ofNat p:=by
    cases Y with
    | ofNat p=>exact⟨p,rfl⟩
    | negSucc p=>cases g7
   obtain rfl:=qG.1 g9;obtain rfl:=qG.1 g10;obtain rfl:=qG.1 g11;obtain rfl:=qG.1 g12;have g8:p<G.length:=Int.ofNat_lt.1 (xW.1 g8);exact kC _ _ (lpLh h o t G P D S O U ⟨ab,C,am⟩ ⟨sb,sl,sm⟩ ⟨rb,rl,rm⟩ Z F I (qU g1) g2 g3 g4 (zY g5) (qU g6) g8)
  ·cases hh
 ·cases hh
noncomputable def iLb(x:List Rt)(b:Nat)(h o t:List Int)(G:List Bd)(P D S:Int)(O U:List Nz)(C st V:Raw)(Z:Int)(F I:List (List Int))(L Y:Int):Hs:=⟨[vi L,vi Y,.ls .n zR x,vn b],[],[[.ls .a nT h,.ls .a nT o,.ls .a nT t,.ls .a bT G,vi P,vi D,vi S,.ls .a nzT O,.ls .a nzT U,.v (.bool C.1),.ls .a .lim C.2,.ls .a .lim C.3,.v (.bool st.1),.ls .a .lim st.2,.ls .a .lim st.3,.v (.bool V.1),.ls .a .lim V.2,.ls .a .lim V.3,vi Z,.ls .a (.list nT) F,.ls .a (.list nT) I]]⟩
noncomputable def Llb:Lp:=⟨1,
 ⟨[.u,.h]++(us' 3++([.h,.t (.op 0 0)]++(us' 6++([.h,.u,.h]++(us' 130))))),[.r [.h,.h,.h,.h,.h,.h,.h,.h,.h,.h,.h,.h,.h,.h,.h,.h,.h,.h,.h,.h,.h] 33]⟩,
 ⟨us' 146,[.g]⟩,
 ⟨us' 12++([.h]++(us' 133)),[.g]⟩⟩
noncomputable abbrev qNh:Code:=lpc Tryz.prog 4 [false,true,false,true,true,true,true,true]
theorem qPs:cAt Tryz.prog 4 [false,true,false,true,true,true,true,true]=some (.loop qNh):=by kernel_rfl
noncomputable abbrev zTz(OD:Od)(LO:Lo):Hs→Option (Hs⊕(Ex×Hs)):=Llb.stp (evD Tryz.prog OD LO 60) 4 [false,true,false,true,true,true,true,true] qNh
noncomputable abbrev LLh(okP:TF Bool):Lo:=loT [(4,[false,true,false,true,true,false,false,true,false,false,true,false,true,true,true,true,true],Llh.row (hLh okP))]
theorem sLb(okP:TF Bool)(sz dc:MF Int)(of_:Int→Int→Raw)(cm ce:Raw→Raw→Int)(x:List Rt)(b:Nat)(h o t:List Int)(G:List Bd)(P D S:Int)(O U:List Nz)(C st V:Raw)(Z:Int)(F I:List (List Int))(L Y:Int):zTz (odT [(15,odR [mdT] (oSz sz dc)),(40,kcT (zIm of_) true),(16,kcD (pRI fun a b=>(cm a b,ce a b)) true)]) (LLh okP) (iLb x b h o t G P D S O U C st V Z F I L Y)=bif ilt (.ofNat b) (.ofNat x.length)then gd (lhG okP h o t G P D S O U C st V Z F I x b L Y 2199023255552 (-1) (sz h o t G P D S O U C st V) Y) (gd (xF (lhF F I L G.length Y.toNat b (h.length*o.length*t.length)).1&&xF Z&&nz Z) (gd (Nat.blt b x.length) (gd (Nat.blt b x.length) (gd (xF (lhF F I L G.length Y.toNat b (h.length*o.length*t.length)).2&&xF Z&&nz Z) ((bif !ieq (dc h o t G P D S O U C st V) 0 then some (.inr (.r,⟨[.v (.bool false)],[],[[]]⟩))else(bif !ieq (ce (of_ (lhF F I L G.length Y.toNat b (h.length*o.length*t.length)).1 Z) (rw' (rI x b))) 0 then some (.inr (.r,⟨[.v (.bool false)],[],[[]]⟩))else(bif !ieq (ce (rw' (rI x b)) (of_ (lhF F I L G.length Y.toNat b (h.length*o.length*t.length)).2 Z)) 0 then some (.inr (.r,⟨[.v (.bool false)],[],[[]]⟩))else(bif ilt (.ofNat 0) (cm (of_ (lhF F I L G.length Y.toNat b (h.length*o.length*t.length)).1 Z) (rw' (rI x b)))then some (.inr (.r,⟨[.v (.bool false)],[],[[]]⟩))else(bif ilt (.ofNat 0) (cm (rw' (rI x b)) (of_ (lhF F I L G.length Y.toNat b (h.length*o.length*t.length)).2 Z))then some (.inr (.r,⟨[.v (.bool false)],[],[[]]⟩))else nx b (.inl (iLb x (b+1) h o t G P D S O U C st V Z F I L Y))))))))))))else some (.inr (.x 0,⟨[],[],[[]]⟩)):=by kernel_rfl
noncomputable def gLb(okP:TF Bool)(sz dc:MF Int)(of_:Int→Int→Raw)(cm ce:Raw→Raw→Int)(h o t:List Int)(G:List Bd)(P D S:Int)(O U:List Nz)(C st V:Raw)(Z:Int)(F I:List (List Int))(L Y:Int)(x:List Rt)(b:Nat):Bool:=lhG okP h o t G P D S O U C st V Z F I x b L Y 2199023255552 (-1) (sz h o t G P D S O U C st V) Y&&(xF (lhF F I L G.length Y.toNat b (h.length*o.length*t.length)).1&&xF Z&&nz Z&&(xF (lhF F I L G.length Y.toNat b (h.length*o.length*t.length)).2&&xF Z&&nz Z&&(ieq (dc h o t G P D S O U C st V) 0&&(ieq (ce (of_ (lhF F I L G.length Y.toNat b (h.length*o.length*t.length)).1 Z) (rw' (rI x b))) 0&&(ieq (ce (rw' (rI x b)) (of_ (lhF F I L G.length Y.toNat b (h.length*o.length*t.length)).2 Z)) 0&&(!ilt (.ofNat 0) (cm (of_ (lhF F I L G.length Y.toNat b (h.length*o.length*t.length)).1 Z) (rw' (rI x b)))&&!ilt (.ofNat 0) (cm (rw' (rI x b)) (of_ (lhF F I L G.length Y.toNat b (h.length*o.length*t.length)).2 Z))))))))
noncomputable def zKr(p:Nat→Bool):Nat→Bool
 | 0=>true
 | m+1=>zKr p m&&p m
theorem qAr{p:Nat→Bool}:∀{m:Nat},zKr p m=true→∀i,i<m→p i=true
 | 0,_,i,hi=>by omega
 | m+1,h,i,hi=>by
  simp only[zKr,Bool.and_eq_true]at h;rcases Nat.eq_or_lt_of_le (Nat.le_of_lt_succ hi)with rfl | g
  ·exact h.2
  ·exact qAr h.1 i g
theorem qAs{p:Nat→Bool}:∀{m:Nat},(∀i,i<m→p i=true)→zKr p m=true
 | 0,_=>rfl
 | m+1,h=>by
  show(zKr p m&&p m)=true;rw[qAs fun i hi=>h i (by omega),h m (by omega)];rfl
theorem lpLb(okP:TF Bool)(sz dc:MF Int)(of_:Int→Int→Raw)(cm ce:Raw→Raw→Int)(h o t:List Int)(G:List Bd)(P D S:Int)(O U:List Nz)(C st V:Raw)(Z:Int)(F I:List (List Int))(L Y:Int)(x:List Rt)(h9:x.length<9223372036854775807)(hg:zKr (gLb okP sz dc of_ cm ce h o t G P D S O U C st V Z F I L Y x) x.length=true):lpF (zTz (odT [(15,odR [mdT] (oSz sz dc)),(40,kcT (zIm of_) true),(16,kcD (pRI fun a b=>(cm a b,ce a b)) true)]) (LLh okP)) x.length (iLb x 0 h o t G P D S O U C st V Z F I L Y)=some (.x 0,⟨[],[],[[]]⟩):=
 yX (st:=zTz (odT [(15,odR [mdT] (oSz sz dc)),(40,kcT (zIm of_) true),(16,kcD (pRI fun a b=>(cm a b,ce a b)) true)]) (LLh okP)) (iv:=fun b(_:Unit)=>iLb x b h o t G P D S O U C st V Z F I L Y) (g:=fun _ _=>(.inl ():Unit⊕Unit)) (d:=fun _=>()) (out:=fun _=>(.x 0,⟨[],[],[[]]⟩)) (n:=x.length) (fun _ _=>True)
  (fun b _ hb _=>by
   have g:=qAr hg b hb;simp only[gLb,Bool.and_eq_true,Bool.not_eq_true']at g;obtain⟨g1,⟨⟨g2,g3⟩,g4⟩,⟨⟨g5,_⟩,_⟩,g6,g7,g8,g9,g10⟩:=g;rw[sLb,show ilt (.ofNat b) (.ofNat x.length)=true from zO hb,g1,g2,g3,g4,g5,g6,g7,g8,g9,g10,zO hb,vG (show b+1<9223372036854775808 by omega)]
   rfl)
  (fun _ _ _ _ _ _=>trivial)
  (fun _ _=>by rw[sLb,show ilt (.ofNat x.length) (.ofNat x.length)=false from kG (Nat.le_refl _)];rfl) x.length 0 () (by omega) trivial
noncomputable def hLb'(okP:TF Bool)(sz dc:MF Int)(of_:Int→Int→Raw)(cm ce:Raw→Raw→Int)(x:List Rt)(L Y:Int):List T→DT (Ex×Hs)
 | [.ls .a (.int .i64) h,.ls .a (.int .i64) o,.ls .a (.int .i64) t,.ls .a (.prod (.int .u8) (.prod (.int .i64) (.int .i64))) G,.v (.int .i64 P),.v (.int .i64 D),.v (.int .i64 S),.ls .a (.prod (.int .i64) zR) O,.ls .a (.prod (.int .i64) zR) U,.v (.bool ab),.ls .a .lim C,.ls .a .lim am,.v (.bool sb),.ls .a .lim sl,.ls .a .lim sm,.v (.bool rb),.ls .a .lim rl,.ls .a .lim rm,.v (.int .i64 Z),.ls .a (.list (.int .i64)) F,.ls .a (.list (.int .i64)) I]=>grd (Nat.blt x.length 9223372036854775807&&zKr (gLb okP sz dc of_ cm ce h o t G P D S O U ⟨ab,C,am⟩ ⟨sb,sl,sm⟩ ⟨rb,rl,rm⟩ Z F I L Y x) x.length) (.ret (.x 0,⟨[],[],[[]]⟩))
 | _=> .no
noncomputable def hLb(okP:TF Bool)(sz dc:MF Int)(of_:Int→Int→Raw)(cm ce:Raw→Raw→Int):Hs→DT (Ex×Hs)
 | ⟨[.v (.int .i64 L),.v (.int .i64 Y),.ls .n (.prod .bool (.prod (.list .lim) (.list .lim))) x,.v (.int .i64 (.ofNat 0))],[],[ks]⟩=>hLb' okP sz dc of_ cm ce x L Y ks
 | _=> .no
theorem qTc(okP:TF Bool)(sz dc:MF Int)(of_:Int→Int→Raw)(cm ce:Raw→Raw→Int):∀q y,(hLb okP sz dc of_ cm ce q).run=some y→∃n,It (zTz (odT [(15,odR [mdT] (oSz sz dc)),(40,kcT (zIm of_) true),(16,kcD (pRI fun a b=>(cm a b,ce a b)) true)]) (LLh okP)) n q y:=fun q y hh=>by
 unfold hLb at hh;split at hh
 ·rename_i L Y x ks;unfold hLb' at hh;split at hh
  ·rename_i h o t G P D S O U ab C am sb sl sm rb rl rm Z F I;obtain⟨h1,h2⟩:=zV hh;cases h2;simp only[Bool.and_eq_true]at h1;exact kC _ _ (lpLb okP sz dc of_ cm ce h o t G P D S O U ⟨ab,C,am⟩ ⟨sb,sl,sm⟩ ⟨rb,rl,rm⟩ Z F I L Y x (qU h1.1) h1.2)
  ·cases hh
 ·cases hh
noncomputable abbrev LLb(okP:TF Bool)(sz dc:MF Int)(of_:Int→Int→Raw)(cm ce:Raw→Raw→Int):Lo:=loT [(4,[false,true,false,true,true,true,true,true],Llb.row (hLb okP sz dc of_ cm ce))]
theorem qWy(h o t:List Int)(G:List Bd)(P D S:Int)(O U:List Nz)(C st V:Raw)(Z:Int)(F I:List (List Int)){L H W vq Y:Int}(hr:F.length<9223372036854775807)(hk:sU h o t G P D S O U C st V Z F I L H W vq Y=true):zKr (gLb jH szA dcA ofA kX wI h o t G P D S O U C st V Z F I L Y (lkL h o t G P D S O U C st V Z F I L H W vq Y)) (lkL h o t G P D S O U C st V Z F I L H W vq Y).length=true:=by
 have hl:=zVg h o t G P D S O U C st V Z F I L H W vq Y hk;refine qAs fun b hb=>?_;obtain⟨lo,hi,e,l1,l2,h1,h2,c1,c2,c3,c4⟩:=jBl h o t G P D S O U C st V Z F I hk (b:=b) (by omega)
 have hT:Tab h o t G S Z F I:=zNb hk;obtain⟨ho,k1,k2,p1,p2⟩:=zVh hk;have s1:=hT.sc1;have s2:=hT.sc2;obtain⟨q,rfl⟩:∃q:Nat,Y=(q:Int):=Int.eq_ofNat_of_zero_le p1;have hd:dcA h o t G P D S O U C st V=0:=by
  have:=qG.1 ho;cases e:ieq (dcA h o t G P D S O U C st V) 0 with
  | true=>exact qG.1 e
  | false=>
   exfalso;unfold pcA pcE at this;rw[e]at this;have this:dcA h o t G P D S O U C st V=0:=this;rw[kW this]at e;cases e
 have i64:∀{n:Int},-2≤n→n≤2199023255552→xF n=true:=fun{n}a b=>by
  cases n with
  | ofNat m=>exact jV (show m<9223372036854775808 by have:(m:Int)≤2199023255552:=b;omega)
  | negSucc m=>exact zO (show m<9223372036854775808 by omega)
 have nz1:nz Z=true:=by
  cases Z with
  | ofNat m=>cases m with
   | zero=>exact absurd s1 (by decide)
   | succ m=>rfl
  | negSucc m=>rfl
 have sz:szA h o t G P D S O U C st V= .ofNat (h.length*o.length*t.length*G.length):=by unfold szA;rw[kW hd];rfl
 unfold gLb;simp only[e,Bool.and_eq_true,Bool.not_eq_true'];refine⟨?_,⟨⟨i64 (by omega) l2,i64 (by omega) (by omega)⟩,nz1⟩,⟨⟨i64 (by omega) (by omega),i64 (by omega) (by omega)⟩,nz1⟩,kW hd,kW c1,kW c3,tX c2,tX c4⟩
 unfold lhG;have H:q<G.length:=by omega
 rw[zO hr,ho,show ilt L (.ofNat 1)=false from tX (show(1:Int)≤L from k1),tX k2,hl,show Nat.beq G.length G.length=true from Nat.beq_refl _,zO (show b<G.length by omega),show nng ((q:Nat):Int)=true from rfl,sP (show((q:Nat):Int)<(.ofNat G.length)from Int.ofNat_lt.2 H),kW rfl,sz,kW rfl,kW rfl,kW rfl]
 rfl
theorem eLbt(fT:TF Bool)(okL:LF Bool)(lL:LF (List Rt))(lP:LF Nat)(okP:TF Bool)(sz dc:MF Int)(of_:Int→Int→Raw)(cm ce:Raw→Raw→Int)(h o t:List Int)(G:List Bd)(P D S:Int)(O U:List Nz)(C st V:Raw)(Z:Int)(F I:List (List Int))(L H W vq Y:Int):((jB Tryz.prog (evD Tryz.prog (odT [(5,odR [tbT] (qEl fT)),(6,oAw),(10,odR [tbT,nT,nT,nT,nT,nT] (oLk okL lL lP))]) (LLb okP sz dc of_ cm ce) 60) 4 [.ag (tbC h o t G P D S O U C st V Z F I),vi L,vi H,vi W,vi vq,vi Y] []).bind jF).run=gd (Nat.blt O.length 9223372036854775807&&(Nat.blt U.length 9223372036854775807&&(Nat.blt F.length 9223372036854775807&&Nat.blt I.length 9223372036854775807))) (bif fT h o t G P D S O U C st V Z F I then yB true else gd (Nat.blt F.length 9223372036854775807) (bif okL h o t G P D S O U C st V Z F I L H W vq Y then(bif !ieq (.ofNat (lL h o t G P D S O U C st V Z F I L H W vq Y).length) (.ofNat G.length)then yB false else gd (Nat.blt (lL h o t G P D S O U C st V Z F I L H W vq Y).length 9223372036854775807&&zKr (gLb okP sz dc of_ cm ce h o t G P D S O U C st V Z F I L Y (lL h o t G P D S O U C st V Z F I L H W vq Y)) (lL h o t G P D S O U C st V Z F I L H W vq Y).length) (yB true))else yB true)):=by kernel_rfl
theorem qYd:wG Tryz.prog (odT [(15,odR [mdT] (oSz szA dcA)),(40,kcT (zIm ofA) true),(16,kcD (pRI fun a b=>(kX a b,wI a b)) true)]):=zX (zX (zX yS fun az tv nw h k=>sS qUb az tv h k) fun az tv nw h k=>zLu kOfT az tv nw h k) (yN kSz)
theorem qYe:wG Tryz.prog (odT [(7,odR [tbT,nT,nT] (oRw jH))]):=zX yS (yN kRw)
theorem qXj:pY Tryz.prog (LLh jH):=yG jK (tK xY qYe jK 60) qPt qTd
theorem qXi:pY Tryz.prog (LLb jH szA dcA ofA kX wI):=yG jK (tK xY qYd qXj 60) qPs (qTc jH szA dcA ofA kX wI)
theorem qKi(h o t:List Int)(G:List Bd)(P D S:Int)(O U:List Nz)(C st V:Raw)(Z:Int)(F I:List (List Int))(L H W vq Y:Int)(h1:O.length<9223372036854775807)(h2:U.length<9223372036854775807)(hr:F.length<9223372036854775807)(hi:I.length<9223372036854775807):((jB Tryz.prog (evD Tryz.prog (odT [(5,odR [tbT] (qEl lnT)),(6,oAw),(10,odR [tbT,nT,nT,nT,nT,nT] (oLk sU lkL lkP))]) (LLb jH szA dcA ofA kX wI) 60) 4 [.ag (tbC h o t G P D S O U C st V Z F I),vi L,vi H,vi W,vi vq,vi Y] []).bind jF).run=yB true:=by
 rw[eLbt,zO h1,zO h2,zO hr,zO hi];cases lnT h o t G P D S O U C st V Z F I with
 | true=>rfl
 | false=>
  cases e:sU h o t G P D S O U C st V Z F I L H W vq Y with
  | false=>rfl
  | true=>
   have hl:=zVg h o t G P D S O U C st V Z F I L H W vq Y e;have hT:Tab h o t G S Z F I:=zNb e;have a6:=hT.mod.av6;rw[qWy h o t G P D S O U C st V Z F I hr e,hl,kW rfl,zO (show G.length<9223372036854775807 by omega)]
   rfl
noncomputable abbrev tbN:Ty:= .prod mdT (.prod nT (.prod (.list (.list nT)) (.list (.list nT))))
theorem kAw(ha:KnP Tryz.prog 0 6 [] (.v (.bool true)) true)(k:Nat):KnP Tryz.prog k 6 [] (.v (.bool true)) true:=ha.clean rfl rfl k
theorem qYa(ha:KnP Tryz.prog 0 6 [] (.v (.bool true)) true):wG Tryz.prog (odT [(5,odR [tbT] (qEl lnT)),(6,oAw),(10,odR [tbT,nT,nT,nT,nT,nT] (oLk sU lkL lkP))]):=
 zX (zX (zX yS (yN kLk)) (fun az tv nw h k=>by
  unfold oAw at h;split at h
  ·cases h;exact kAw ha k
  ·cases h)) (yN kLtb)
theorem qKg(ha:KnP Tryz.prog 0 6 [] (.v (.bool true)) true)(x0:tbN.den)(L H W vq Y:Int)(w0:cZ tbN x0):KnP Tryz.prog 0 4 [.ag (qD .a tbN x0),vi L,vi H,vi W,vi vq,vi Y] (.v (.bool true)) true:=by
 obtain⟨⟨h,o,t,G,P,D,S,O,U,⟨ab,C,am⟩,⟨sb,sl,sm⟩,⟨rb,rl,rm⟩⟩,Z,F,I⟩:=x0;have q1:F.length*Ty.bts (.list nT)≤140737488351232:=w0.2.2.1.1;have q2:I.length*Ty.bts (.list nT)≤140737488351232:=w0.2.2.2.1;have q3:O.length*Ty.bts nzT≤140737488351232:=w0.1.2.2.2.2.2.2.2.1.1;have q4:U.length*Ty.bts nzT≤140737488351232:=w0.1.2.2.2.2.2.2.2.2.1.1;have k1:1≤Ty.bts (.list nT):=by decide
 have k2:1≤Ty.bts nzT:=by decide
 have r1:=Nat.le_trans (Nat.mul_le_mul_left F.length k1) q1;have r2:=Nat.le_trans (Nat.mul_le_mul_left I.length k1) q2;have r3:=Nat.le_trans (Nat.mul_le_mul_left O.length k2) q3;have r4:=Nat.le_trans (Nat.mul_le_mul_left U.length k2) q4;exact vF (cz:=[.ag (qD .a tbN ((h,o,t,G,P,D,S,O,U,(ab,C,am),(sb,sl,sm),(rb,rl,rm)),Z,F,I)),vi L,vi H,vi W,vi vq,vi Y]) xY (qYa ha) qXi (qKi h o t G P D S O U ⟨ab,C,am⟩ ⟨sb,sl,sm⟩ ⟨rb,rl,rm⟩ Z F I L H W vq Y (by omega) (by omega) (by omega) (by omega)) rfl 0
theorem qKh(x0:tbN.den)(L H W vq Y:Int)(w0:cZ tbN x0)(_:cZ nT L)(_:cZ nT H)(_:cZ nT W)(_:cZ nT vq)(_:cZ nT Y):KnP Tryz.prog 0 4 [.ag (qD .a tbN x0),.v (.int .i64 L),.v (.int .i64 H),.v (.int .i64 W),.v (.int .i64 vq),.v (.int .i64 Y)] (.v (.bool true)) true:=qKg jBu x0 L H W vq Y w0
end Go.Proofs.YtjnpoeilfdbaaaaGreatDoor

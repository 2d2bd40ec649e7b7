/- The store, part 27. -/
import Derived.Test.YtbiififbfefkjaaGreatDoorMAy
set_option linter.unusedSimpArgs false
set_option linter.unusedVariables false
set_option maxRecDepth 100000
set_option maxHeartbeats 16000000
namespace Go.Proofs.YtbiififbfefkjaaGreatDoor
open Go.RowKit Go.Shelf
variable{q c cf L:Nat}{x:bX}{p:Prop}{w V:World}{ps:List Piece}{l:List bX}{cs:List Value}{n:Int}
section
attribute [local go_sem] Oper.semAt_some
attribute [-go_sem] Builtin.append_
structure JX(q:Nat)(x:bX):Prop where
 id:yR (cE x.id)=0
 lt:∀y∈x.id,y<256
 g1:1<=x.g
 g2:x.g<4294967296
 m2:x.m<4294967296
 s1:1<=x.s
 s2:x.s<=1099511627776
 le:x.s<=q
 body:x.del=false-> -9223372036854775808<=x.n/\x.n<9223372036854775808
theorem OF{all:List Nat}{pt:Nat}(h:JX q x)(h0:x.del=true->pt=0)(h1:x.del=false->1<=pt/\pt<524288/\iy all pt (ew x.n)):pR all q {x with at_:=pt}:=
 ⟨h.id,⟨h.g1,h.g2,h.m2,h.s1,h.s2,h0, λ e=>⟨(h1 e).1,(h1 e).2.1⟩⟩,h.le, λ e=>⟨(h.body e).1,(h.body e).2,(h1 e).2.2⟩⟩
structure MdS(w V:World)(ik:List Nat)(eE Q i:Nat)(xs:List bX)(b1:az)(c1:Nat)(jW:List Piece)(q1:az)(k1:Nat)(q2:az)(k2:Nat)(its AA:List aH)(ds:List bX):Prop where
 at_:Am w V b1 c1 jW
 ext:∃m,aw jW=ik++m
 cost:(aw jW).length<=ik.length+60*i
 r1:lT V eE q1 i k1 its
 r2:lT V eE q2 i k2 AA
 ne:∀g,q1=some ⟨g,0,none⟩->q2≠some ⟨g,0,none⟩
 aw1:∀g,q1=some ⟨g,0,none⟩->fE g b1 jW
 aw2:∀g,q2=some ⟨g,0,none⟩->fE g b1 jW
 n1:w.heap.size+3<=eE
 nV:eE<=V.heap.size
 ds_:ds.map bX.bare=(xs.take i).map bX.bare
 WK:its.map fF=ds.map tf
 kv2:AA.map fF=ds.map oQ
 ok:∀x∈ds,pR (aw jW) Q x
def dxC(x:bX)(dl:Bool)(pt:Nat):Array Value:=(DM (cE x.id) x.g x.m x.s dl pt (kindOf dl) (fN dl x.n))
structure MdT(w V:World)(B:Nat)(x:bX)(dl:Bool)(pt:Nat)(ik:List Nat)(eE Q i:Nat)(xs:List bX)(b2:az)(c2:Nat)(GO:List Piece)(q1:az)(k1:Nat)(q2:az)(k2:Nat)(its AA:List aH)(ds:List bX):Prop where
 at_:Am w V b2 c2 GO
 ext:∃m,aw GO=ik++m
 cost:(aw GO).length<=ik.length+60*(i+1)
 r1:lT V eE q1 i k1 its
 r2:lT V eE q2 i k2 AA
 ne:∀g,q1=some ⟨g,0,none⟩->q2≠some ⟨g,0,none⟩
 aw1:∀g,q1=some ⟨g,0,none⟩->fE g b2 GO
 aw2:∀g,q2=some ⟨g,0,none⟩->fE g b2 GO
 n1:w.heap.size+3<=eE
 nB:eE<=B
 BV:B<V.heap.size
 box:V.heap[B]? =some (.cells (dxC x dl pt) 57)
 qB:(Value.slice q1 i k1).ownBlock≠some B
 ds_:ds.map bX.bare=(xs.take i).map bX.bare
 WK:its.map fF=ds.map tf
 kv2:AA.map fF=ds.map oQ
 ok:∀y∈ds,pR (aw GO) Q y
 okx:pR (aw GO) Q {x with at_:=pt}
 del:x.del=dl
theorem xF(h:p:=by
 rcases aG.1 hy with hy|hy
 ·exact HT.O.ok y hy
 ·rw[aE]at hy;subst hy;exact HT.O.okx
 ):p:=h
theorem xG(h:p:=by
 rw[aJ,aJ,HT.O.WK,fj,fj,HN.O.2.2.2.2.2.1];simp[tf,bX.enc,HT.O.del]
 ):p:=h
theorem Yd{b da fa:az}{ca Q:Nat}{xs:List bX}{fs:List Int}(hF:aQ w b c ps)(hm:Marks (aw ps))(ke:oP b c)(XN:∀G o,b=some ⟨G,o,none⟩->G<w.heap.size)(hD:cV nD 11 w da xs)(kD:∀x∈xs,JX Q x)(af0:xs.Pairwise λ x y=>x.id≠y.id)(hsq:xs.Pairwise λ x y=>x.s≠y.s)(hl:xs.length<=32)(Qr:rL w fa fs)(qH:fs.length<4611686018427387904)(hQ:Q<18446744073709551616)(gk:(aw ps).length+600*xs.length<=524288):
 Calls Tryz.prog 17 #[bN b ps.length c,.slice da xs.length ca,.int .u64 (Q:Int),.slice fa fs.length cf] w λ e w'=>∃(b':az) (c':Nat) (eQ:List Piece) (a1 d1 c1 a2 d2 c2:Nat) (es:List bX),e= .returned (.tuple #[bN b' eQ.length c',j7 a1 d1 c1 a2 d2 c2 Q])/\aQ w' b' c' eQ/\Marks (aw eQ)/\oP b' c'/\(∀G o,b'=some ⟨G,o,none⟩->G<w'.heap.size)/\(∃m,aw eQ=aw ps++m)/\(aw eQ).length<=(aw ps).length+600*xs.length/\gD (aw eQ) a1 d1 c1 a2 d2 c2 Q es/\(es.map bX.bare).Perm (xs.map bX.bare)/\Below w w w':=by
 obtain⟨L,hL⟩:=bL xs.length;obtain⟨FL,ZE⟩:=bL fs.length;obtain⟨PL,RX⟩:=bL ps.length;have afQ:(L:Int)<=32:=an;obtain⟨w3,gV⟩:=bL (((w.alloc (.cells (fA b PL c) 31)).alloc (.cells kF 31)).alloc (.cells sO 37));have hM:Am w w3 b c ps:=by
  have cu:Below w w w3:=by rw[gV];go_grown
  obtain⟨e0,e1,e2⟩:=gT (w:=w) (w2:=w3) qR;rw[RX]at e0;have hz:w3.heap.size=w.heap.size+3:=by rw[gV];simp
  exact⟨e0,e1,e2,an,cu,hF.below cu,hm,ke, λ G o e=>.inl (XN G o e), λ G o e=>cm (XN G o e)⟩
 have LK:Hid (MdS w w3 (aw ps) w3 Q 0 xs b c ps none 0 none 0 [] [] []):=ag ⟨hM,⟨[],by simp⟩,by simp,⟨rfl,⟨rfl,.inl ⟨rfl,rfl⟩⟩,by simp, λ _ h=>by cases h⟩,⟨rfl,⟨rfl,.inl ⟨rfl,rfl⟩⟩,by simp, λ _ h=>by cases h⟩, λ _ h=>mQ, λ _ h=>mQ, λ _ h=>mQ,hM.lt,cH,rfl,rfl,rfl,by simp⟩;have HI:=Z0 hD kD af0 hsq hL hl gk;have ZJ:=eS Qr qH ZE;have nE:=ag gV;have HP:=ag RX;rw[<-hL,<-ZE,<-RX];clear hF hm ke XN hD kD af0 hsq hl Qr qH gk gV hL ZE RX hM;unfold bN;go_enter Tryz.func17,Tryz.ntmps17
 go_wp2_with fail
 go_loopw [10,11,12] (λ rv sv iv wr=>∃(i:Nat) (q1:az) (k1:Nat) (q2:az) (k2:Nat),i<=L/\iv= .int .i64 (i:Int)/\rv= .slice q1 i k1/\sv= .slice q2 i k2/\Hid (∃(b1:az) (c1:Nat) (jW:List Piece) (its AA:List aH) (ds:List bX),MdS w wr (aw ps) w3 Q i xs b1 c1 jW q1 k1 q2 k2 its AA ds)) (λ _ _ iv _=>L - (intOf iv).toNat)
 case atStart=>
  rw[<-nE.O];exact⟨0,none,0,none,0,aD _,rfl,rfl,rfl,ag ⟨b,c,ps,[],[],[],LK.O⟩⟩
 case round=>
  clear LK;obtain⟨i,q1,k1,q2,k2,hi,rfl,rfl,rfl,ma⟩:=hrel;obtain⟨b1,c1,jW,its,AA,ds,hS⟩:=ma.O;by_cases cL:i<L
  ·have ajB:(i:Int)<(L:Int):=an;have Ye:(i:Int)<=32:=an;obtain⟨x,hx⟩:∃x,xs[i]? =some x:=⟨_,aB (cm HI.O.2.2.2.2.1)⟩;obtain⟨B,o,hA⟩:=HI.O.1.some_ (cm HI.O.2.2.2.2.1);have Ak:wr.rangeAt B (o+i*11) (nD x):=by
    have h1:=cV.below HI.O.1 hS.at_.lV;rw[hA]at h1;exact h1.get hx
   subst hA;have HS:=ag hS;have HX:=ag hx;have UZ:=HS.O.at_.lt;have DXC:=ag (True.intro);clear ma hS hx cL;have aeJ:x.del=true\/x.del=false:=by cases x.del<;>simp
   rcases aeJ with hd|hd
   case' inl=>
    unfold nD at Ak;rw[hd]at Ak;have HD:=ag hd;clear hd
    go_wp2_with first
     |(refine dG 57 ?_)
     |(refine mf 57 rfl _ _ rfl _ vN #[.string (cE x.id),.int .u32 (x.g:Int),.int .u32 (x.m:Int),.int .u64 (x.s:Int),.bool true,.int .i64 (x.at_:Int),.int .i64 (kindOf true),.int .i64 (fN true x.n),.string ⟨#[]⟩,.slice none 0 0,.slice none 0 0] rfl rfl rfl cP bU bz ?_)
     |fail
    obtain⟨W7,Qk⟩:=bL (wr.alloc (.cells #[.string (cE x.id),.int .u32 (x.g:Int),.int .u32 (x.m:Int),.int .u64 (x.s:Int),.bool true,.int .i64 0,.int .i64 (kindOf true),.int .i64 (fN true x.n),.string ⟨#[]⟩,.slice none 0 0,.slice none 0 0] 57));rw[<-Qk];have Yf:Hid ((Value.slice q1 i k1).ownBlock≠some wr.heap.size):=ag (by
     rcases bg HS.O.r1.row with⟨h1,_⟩|⟨g,cur,h1,_,hh⟩
     ·rw[h1];simp[Value.ownBlock]
     ·rw[h1];have:=(cS hh).1;exact qz an)
    have vL:Below wr wr W7:=by rw[Qk];go_grown
    have Zz:W7.heap.size=wr.heap.size+1:=by rw[Qk];simp
    obtain⟨dl,pt,b2,c2,GO,HT⟩:∃(dl:Bool) (pt:Nat) (b2:az) (c2:Nat) (GO:List Piece),Hid (MdT w W7 wr x dl pt (aw ps) w3 Q i xs b2 c2 GO q1 k1 q2 k2 its AA ds):=
     ⟨true,0,b1,c1,jW,ag ⟨HS.O.at_.below vL,HS.O.ext,by have:=HS.O.cost;omega,HS.O.r1.below vL,HS.O.r2.below vL,HS.O.ne,HS.O.aw1,HS.O.aw2,HS.O.n1,HS.O.nV,an,by rw[Qk];exact ai _ _,Yf.O,HS.O.ds_,HS.O.WK,HS.O.kv2,HS.O.ok,OF (HI.O.2.1 x (ak HX.O)) (λ _=>rfl) (λ h=>by rw[HD.O]at h;cases h),HD.O⟩⟩
    clear Qk vL Zz Ak Yf HS
   case' inr=>
    have HD:=ag hd;unfold nD at Ak;rw[hd]at Ak;clear hd;have Az:=(HI.O.2.1 x (ak HX.O)).body HD.O;obtain⟨sx,hsx⟩:=bL (cE (ew x.n));obtain⟨L1,rY⟩:=bL jW.length;obtain⟨AL,hAL⟩:=bL ((aw jW).length);obtain⟨OL,hOL⟩:=bL ((ft (ew x.n)).length);obtain⟨LX,hLX⟩:=bL (ed (aw jW).length (ft (ew x.n)));obtain⟨LL,hLL⟩:=bL LX.length;obtain⟨NB,hNB⟩:=bL (db (aw jW).length);have kA:=lF x.n Az.1 Az.2;have th:(ew x.n).length=(cE (ew x.n)).size:=by simp[cE,ByteArray.size]
    have Eo:(aw jW).length+60<=524288:=by have:=HS.O.cost;have:=HI.O.2.2.2.2.1;have:=HI.O.2.2.2.2.2.2;omega
    have yN:LL<=60/\1<=LL:=by have h1:=tL (ft (ew x.n)) (aw jW).length;have h2:=gZ.2 (Re (aw jW).length (xs:=ft (ew x.n)) oU);rw[qM]at h1;rw[hLL,hLX];omega
    have ZB:Hid (∀U,Below wr wr U->Calls Tryz.prog 28 (BX (.agg (fA b1 L1 c1))) U λ e w'=>∃a k,e= .returned (.slice a AL k)/\ay w' a (aw jW)/\Below U U w'):=ag λ U hU=>by have:=MR (HS.O.at_.below hU).file;rw[<-rY,<-hAL]at this;exact this
    have HTX:Hid (∀U,Calls Tryz.prog 30 (BX (.agg (U5 (kindOf false) (fN false x.n)))) U λ e w'=>e= .returned (.string sx)/\Below U U w'):=ag λ U=>by have:=Uj x.n Az.1 Az.2 U;rw[<-hsx]at this;exact this
    have HTO:Hid (kE sx=ew x.n):=ag (by rw[hsx];exact tX (KW x.n Az.1 Az.2));have HOU:Hid (∀U a c,ay U a (ew x.n)->Calls Tryz.prog 29 (sg a sx.size c) U λ e w'=>∃B k,e= .returned (.slice (zp B) OL k)/\ay w' (zp B) (ft (ew x.n))/\Below U U w'):=ag λ U a c hb=>by have:=MP c hb an an;rw[<-hOL,th,<-hsx]at this;exact this
    have HLA:Hid (∀U a k b cb,ay U a (aw jW)->ay U b (ft (ew x.n))->Calls Tryz.prog 27 (fP a AL k b OL cb) U λ e w'=>∃B k,e= .returned (.tuple #[.slice (zp B) LL k,.int .i64 (NB:Int)])/\ay w' (zp B) LX/\Below U U w'):=ag λ U a k b cb h1 h2=>by
     refine(Na k cb h1 HS.O.at_.marks an h2 oU oU).mono ?_|> λ h=>by rw[<-hAL,<-hOL]at h;exact h
     rintro e w' ⟨B,kk,rfl,t1,_,t2⟩;exact⟨B,kk,by rw[hLL,hLX,hNB],by rw[hLX];exact t1,t2⟩
    have Aw:Hid (∀U A cb,aQ U b1 c1 jW->ay U (zp A) LX->Calls Tryz.prog 31 (acZ (.agg (fA b1 L1 c1)) (zp A) LL cb) U λ e w'=>∃B' c' pc,e= .returned (.tuple (vm (.agg (fA (zp B') (L1+1) c'))))/\aQ w' (zp B') c' (jW++[pc])/\pc.2.1=LX/\U.heap.size<=B'/\eZ U pc.1/\Below U U w'):=ag λ U A cb h1 h2=>by have:=M8 (cb:=cb) h1 HS.O.at_.vj h2 an an an;rw[<-rY,<-hLL]at this;exact this
    have LC:Hid (L1=jW.length/\LL<=60/\LL=LX.length):=ag ⟨rY,yN.1,hLL⟩;have Rz:Hid (Marks (aw jW++LX)):=ag (by rw[hLX];exact yj HS.O.at_.marks _);have HOK:Hid (pR (aw jW++LX) Q {x with at_:=NB}):=ag (OF (HI.O.2.1 x (ak HX.O)) (λ h=>by rw[HD.O]at h;cases h) (λ _=>by have hp:=JC (aw jW).length;rw[hNB,hLX];exact⟨hp.1,an,iy.new _ _ an an (KW x.n Az.1 Az.2)⟩))
    have Yf:Hid ((Value.slice q1 i k1).ownBlock≠some wr.heap.size):=ag (by
     rcases bg HS.O.r1.row with⟨h1,_⟩|⟨g,cur,h1,_,hh⟩
     ·rw[h1];simp[Value.ownBlock]
     ·rw[h1];have:=(cS hh).1;exact qz an)
    clear Az hsx rY hAL hOL hLX hLL hNB kA th Eo yN
    go_wp2_with first
     |(refine dG 57 ?_)
     |(refine mf 57 rfl _ _ rfl _ vN #[.string (cE x.id),.int .u32 (x.g:Int),.int .u32 (x.m:Int),.int .u64 (x.s:Int),.bool false,.int .i64 (x.at_:Int),.int .i64 (kindOf false),.int .i64 (fN false x.n),.string ⟨#[]⟩,.slice none 0 0,.slice none 0 0] rfl rfl rfl cP bU bz ?_)
     |fail
    obtain⟨V,hV⟩:=bL (wr.alloc (.cells (aeX (cE x.id) x.g x.m x.s (kindOf false) (fN false x.n)) 57));rw[<-hV];have pg:Below wr wr V:=by rw[hV];go_grown
    have hzV:V.heap.size=wr.heap.size+1:=by rw[hV];simp
    have mM:V.heap[wr.heap.size]? =some (.cells (aeX (cE x.id) x.g x.m x.s (kindOf false) (fN false x.n)) 57):=qK hV;have HV:=eS pg hzV mM;have HXC:Hid (∀U:World,Below V V U->U.cell? (za wr 6)=some (.int .i64 (kindOf false))/\U.cell? (za wr 7)=some (.int .i64 (fN false x.n))/\U.cell? (za wr 8)=some (.string ⟨#[]⟩)/\U.cell? (za wr 9)=some (.slice none 0 0)/\U.cell? (za wr 10)=some (.slice none 0 0)):=ag λ U hU=>by have e:=(hU.block wr an).T mM;exact⟨(af e 6).T rfl,(af e 7).T rfl,(af e 8).T rfl,(af e 9).T rfl,(af e 10).T rfl⟩
    obtain⟨x6,x7,x8,x9,xa⟩:=HXC.O V (gb);have hf0:=(HS.O.at_.below pg).f;rw[<-LC.O.1]at hf0;obtain⟨f0,f1,f2,f3,f4⟩:=dF hf0;clear hV pg hzV mM hf0;refine bP 13 ?_;refine tP [0,2,3] ?_
    iterate 3 refine tO ?_
    refine au 10 rfl ?_;refine sP 1 [0] λ K hK=>?_;go_simp;(with_reducible refine(ZB.O _ HV.O.1.drew).mono ?_);rintro e Va ⟨aa,ka,rfl,hya,yS⟩;have yS:Below V V Va:=(gb).drew.T yS;have CV:=dO hya yS;clear hya yS f0 f1 f2 f3 f4;clear x6 x7 x8 x9 xa;obtain⟨x6,x7,x8,x9,xa⟩:=HXC.O _ CV.O.2;refine nP hK ?_;clear hK K;refine sP 4 [0,1,2,3] λ K hK=>?_;go_simp;(with_reducible refine(HTX.O _).mono ?_);rintro e Vc ⟨rfl,IP⟩;have HYC:=dO (CV.O.1.below IP) (CV.O.2.T (IP.mono CV.O.2.size));clear IP x6 x7 x8 x9 xa CV;refine nP hK ?_;clear hK K;refine sP 5 [0,1,2,3,4] λ K hK=>?_;refine tY _ rfl rfl (λ kc Vd hyd _ hvd hzd=>?_);rw[HTO.O]at hyd;have HYD:=eS hyd (HYC.O.1.below hvd) (HYC.O.2.T (hvd.mono HYC.O.2.size));clear hyd hvd hzd HYC;refine nP hK ?_;clear hK K;refine sP 6 [0,1,2,3,4,5] λ K hK=>?_;go_simp;(with_reducible refine(HOU.O _ _ _ HYD.O.1).mono ?_);rintro e Ve ⟨Bo,ko,rfl,hyo,hvo⟩;have HYE:=eS hyo (HYD.O.2.1.below hvo) (HYD.O.2.2.T (hvo.mono HYD.O.2.2.size));clear hyo hvo HYD;refine nP hK ?_;clear hK K;refine sP 7 [0,1,2,3,4,5,6] λ K hK=>?_;go_simp;(with_reducible refine(HLA.O _ _ _ _ _ HYE.O.2.1 HYE.O.1).mono ?_);rintro e Vf ⟨Bl,kl,rfl,AU,hvl⟩;have HYF:=dO AU (HYE.O.2.2.T (hvl.mono HYE.O.2.2.size));clear AU hvl HYE;refine nP hK ?_;clear hK K;refine tP [8,9,10,11,12] ?_
    iterate 5 refine tO ?_
    refine au 0 rfl ?_;refine dP ?_;go_simp;have HVF:=ag (HV.O.1.T (HYF.O.2.mono HV.O.1.size));have HM5:=ag (HS.O.at_.below HVF.O);have hrf:=aF (by have:=HM5.O.f;rwa [<-LC.O.1]at this);clear HXC
    go_wp2_with first
     |(refine dG 31 ?_)
     |((with_reducible refine(Aw.O _ _ _ HM5.O.file HYF.O.1).mono ?_);rintro e V5 ⟨B',c',pc,rfl,hF5,vY,nH,hfp,hv5⟩;have ZK:=ag (HM5.O.below hv5);have ts:=G2 hF5 vY nH hfp hv5;clear hF5 vY nH hfp hv5 hrf)
     |(refine lz 31 (fA (zp B') (L1+1) c') (by have:=ZK.O.f;rwa [<-LC.O.1]at this) (λ V6 h1 h2 h3=>?_);have HM7:Hid (Am w V6 (zp B') c' (jW++[pc])):=ag (ZK.O.acw ts.O.1 (by rw[iu,ts.O.2.1];exact Rz.O) (.inr ⟨_,_,rfl⟩) (λ G o e=>by cases e;have:=ts.O.2.2.1;have:=HM5.O.lt;have:=RI ts.O.1;exact⟨.inr an,this⟩) (by rw[ar,<-LC.O.1];exact h1) (λ j hj=>h2 j hj) (h3 w w (cH) ZK.O.lV) (h3 w _ (cH) (gb)).size);have tl:=ag (((h2 wr an).T (ts.O.2.2.2.2.block _ (Ig HVF.O.size HYF.O.2.size HV.O.2.1))).T ((HYF.O.2.block _ (cm HV.O.2.1)).T HV.O.2.2));have HK6:=ag (λ j (hj:j≠w.heap.size)=>h2 j hj);have u5:V6.cell? (za wr 5)=some (.int .i64 0):=(af tl.O 5).T rfl;have u6:V6.frozen? ⟨wr.heap.size,5,none⟩=false:=ax tl.O 5;clear h1 h2 h3)
     |fail
    obtain⟨W7,Qk⟩:=bL (V6.setCell (za wr 5) (.int .i64 (NB:Int)));rw[<-Qk];have vL:= λ j hj=>(by rw[Qk];exact aq V6 ⟨wr.heap.size,5,none⟩ _ j hj:W7.heap[j]? =V6.heap[j]?);have adN:W7.heap[wr.heap.size]? =some (.cells (dxC x false NB) 57):=by rw[Qk];exact aU (j:=5) _ tl.O
    have Zz:W7.heap.size=V6.heap.size:=by rw[Qk];simp
    have af1:∀n U,n<=wr.heap.size->Below n U V6->Below n U W7:= λ n U hn hb=>by rw[Qk];exact hb.setCell (p:=(za wr 5)) hn _
    have cL:=HS.O.at_.lt;have BQ:∀{q:az} {k:Nat} {l:List aH},lT wr w3 q i k l->lT W7 w3 q i k l:= λ {q k l} h=>by
     have hq:∀g,q=some ⟨g,0,none⟩->w3.heap.size<=g/\g<wr.heap.size:= λ g hg=>by
      rcases bg h.row with⟨h1,_⟩|⟨g2,cur,h1,h2,h3⟩
      ·rw[hg]at h1;cases h1
      ·rw[hg]at h1;cases h1;exact⟨h2,(cS h3).1⟩
     have h5:=(h.below HVF.O).below ts.O.2.2.2.2;have h6:=h5.Di ZK.O.f (tW _ cP) HK6.O (λ g hg=>iX (hq g hg) HS.O.n1);exact h6.Di tl.O (tW _ cP) vL (λ g hg=>cm (hq g hg))
    have UG:∀{q:az} {k:Nat} {l:List aH},lT wr w3 q i k l->∀g,q=some ⟨g,0,none⟩->g<Vf.heap.size:= λ {q k l} h g hg=>by
     rcases bg h.row with⟨h1,_⟩|⟨g2,cur,h1,h2,h3⟩
     ·rw[hg]at h1;cases h1
     ·rw[hg]at h1;cases h1;exact aA (cS h3).1 HVF.O.size
    obtain⟨dl,pt,b2,c2,GO,HT⟩:∃(dl:Bool) (pt:Nat) (b2:az) (c2:Nat) (GO:List Piece),Hid (MdT w W7 wr x dl pt (aw ps) w3 Q i xs b2 c2 GO q1 k1 q2 k2 its AA ds):=
     ⟨false,NB,some ⟨B',0,none⟩,c',jW++[pc],ag ⟨HM7.O.Di tl.O (tW _ cP) vL cL (λ G o e=>by cases e;have:=ts.O.2.2.1;have:=HVF.O.size;have:=HYF.O.2.size;have:=HV.O.2.1;omega) (af1 _ _ an HM7.O.lV) (eC Zz.symm),
      by obtain⟨m,he⟩:=HS.O.ext;exact⟨m++pc.2.1,by rw[iu,he,aS]⟩,
      by rw[iu,ar,ts.O.2.1];have:=HS.O.cost;have:=LC.O;omega,
      BQ HS.O.r1,BQ HS.O.r2,HS.O.ne,
      λ g hg=>(HS.O.aw1 g hg).snoc (λ p e=>by cases e;exact ts.O.2.2.1) ts.O.2.2.2.1 (UG HS.O.r1 g hg),
      λ g hg=>(HS.O.aw2 g hg).snoc (λ p e=>by cases e;exact ts.O.2.2.1) ts.O.2.2.2.1 (UG HS.O.r2 g hg),
      HS.O.n1,HS.O.nV,(cS adN).1,adN,Yf.O,HS.O.ds_,HS.O.WK,HS.O.kv2,
      λ y hy=>by rw[iu];exact(HS.O.ok y hy).more _ (cH),
      by rw[iu,ts.O.2.1];exact HOK.O,HD.O⟩⟩
    clear u5 u6 Qk vL adN Zz af1 cL BQ UG HS ZB HTX HOU HLA Aw HOK Rz LC Yf HV HVF HM5 ZK HM7 ts tl HK6 HYF HTO
   all_goals
    have ve:=HI.O.2.1 x (ak HX.O);have HXC:Hid (∀U:World,Below W7 W7 U->U.cell? (za wr 0)=some (.string (cE x.id))/\U.cell? (za wr 1)=some (.int .u32 (x.g:Int))/\U.cell? (za wr 2)=some (.int .u32 (x.m:Int))/\U.cell? (za wr 3)=some (.int .u64 (x.s:Int))/\U.cell? (za wr 4)=some (.bool dl)/\U.cell? (za wr 5)=some (.int .i64 (pt:Int))):=ag λ U hU=>by have e:=(hU.block wr HT.O.BV).T HT.O.box;exact⟨(af e 0).T rfl,(af e 1).T rfl,(af e 2).T rfl,(af e 3).T rfl,(af e 4).T rfl,(af e 5).T rfl⟩
    have iL:= λ U=>Qd (g:=x.g) (m:=x.m) (s:=x.s) (at_:=pt) (del:=dl) (by have:=HT.O.okx.info;rwa [<-HT.O.del]) U;unfold pQ at iL;have UJ:=ag iL;clear iL;have M9:Hid (x.id.length=(cE x.id).size/\(dS x.g x.m x.s dl pt).length=21):=ag ⟨by simp[cE,ByteArray.size],by simp[dS,ie]⟩;have HTL:Hid (kE (cE x.id)=x.id):=ag (tX ve.lt);have acB:Hid (1<=x.id.length):=ag (xu ve.id).1;have af2:Hid (1<=(dS x.g x.m x.s dl pt).length):=ag (by rw[M9.O.2];decide);have IN:=ag (λ U=>Xz x.s (cm ve.s2) U);obtain⟨x0,x1,x2,x3,x4,x5⟩:=HXC.O W7 (gb);clear ve;refine bP 11 ?_;refine tP [0,1,2,4,5] ?_
    iterate 5 refine tO ?_
    refine au 6 rfl ?_;refine G6 3 6 [1,2] [4,5] (λ K hK=>?_) λ K hK=>?_;refine tY _ rfl rfl (λ kc Va hy tw yS hza=>?_);have yS:Below W7 W7 Va:=(gb).drew.T yS;have CV:=eS hy tw yS;clear hy tw yS hza;clear x0 x1 x2 x3 x4 x5;obtain⟨x0,x1,x2,x3,x4,x5⟩:=HXC.O _ CV.O.2.2;refine nP hK ?_;clear hK K;refine sP 6 [1,2,4,5] λ K hK=>?_;go_simp;(with_reducible refine(UJ.O _).mono ?_);rintro e Vb ⟨Bb,cb,rfl,tk,JJ⟩;have IT:=dO tk JJ;clear tk JJ;have qh:Below W7 W7 Vb:=CV.O.2.2.T (IT.O.2.mono CV.O.2.2.size);obtain⟨g4,k4,V4,lu,US,yX,uh,Yg,Yh,Hl,adO,UT⟩:=Lk (its:=its) (AA:=AA) ⟨some ⟨W7.heap.size,0,none⟩,x.id,kc,some ⟨Bb,0,none⟩,dS x.g x.m x.s dl pt,cb⟩ (HT.O.at_.below qh) (HT.O.r1.below qh) (HT.O.r2.below qh) ⟨⟨by have:=CV.O.1;rw[HTL.O]at this;exact this.below IT.O.2,acB.O,_,rfl⟩,⟨IT.O.1,af2.O,_,rfl⟩⟩ HT.O.n1 (aj HT.O.nB (aj (ff HT.O.BV) qh.size)) an HT.O.aw1 HT.O.ne;obtain⟨xi,Hi⟩:∃xi:aH,xi=⟨some ⟨W7.heap.size,0,none⟩,x.id,kc,some ⟨Bb,0,none⟩,dS x.g x.m x.s dl pt,cb⟩:=⟨_,rfl⟩;rw[<-Hi]at yX;have Pe:fF xi=(x.id,dS x.g x.m x.s dl pt):=by rw[Hi];rfl
    have hd4:=((UT wr (iX qh.size HT.O.BV) HT.O.qB).T (qh.block _ HT.O.BV)).T HT.O.box;unfold aH.cells at lu;dsimp only at lu;rw[M9.O.1,M9.O.2]at lu;have HN:=hI8 US yX uh Yg Yh Pe hd4 (aj (ff HT.O.BV) (aj qh.size Hl));clear Hi Pe hd4 US yX uh Yg Yh Hl adO UT qh x0 x1 x2 x3 x4 x5;refine nP hK ?_;clear hK K;refine tP [7] ?_;refine tO ?_;refine au 3 rfl ?_;refine sP 8 [1,2,3,4,5,6,7] λ K hK=>?_;go_simp;refine nP hK ?_;clear hK K;refine sP 9 [0,1,2,3,4,5,6,7,8] λ K hK=>?_;go_simp;refine nP hK ?_;clear hK K;refine tP [10] ?_;refine tO ?_;refine au 0 rfl ?_;refine dP ?_;go_simp
    focus go_wp2_with fail
    clear CV IT lu;rotate_left;go_simp;(with_reducible refine(UJ.O _).mono ?_);rintro e Va ⟨Bb,cb,rfl,tk,JJ⟩;have JJ:Below W7 W7 Va:=(gb).drew.T JJ;have IT:=dO tk JJ;clear tk JJ;clear x0 x1 x2 x3 x4 x5;obtain⟨x0,x1,x2,x3,x4,x5⟩:=HXC.O _ IT.O.2;refine nP hK ?_;clear hK K;refine sP 3 [1,2,4,5] λ K hK=>?_;refine tY _ rfl rfl (λ kc Vb hy tw yS hza=>?_);have CV:=eS hy tw yS;clear hy tw yS hza;have qh:Below W7 W7 Vb:=IT.O.2.T (CV.O.2.2.mono IT.O.2.size);obtain⟨g4,k4,V4,lu,US,yX,uh,Yg,Yh,Hl,adO,UT⟩:=Lk (its:=its) (AA:=AA) ⟨some ⟨Va.heap.size,0,none⟩,x.id,kc,some ⟨Bb,0,none⟩,dS x.g x.m x.s dl pt,cb⟩ (HT.O.at_.below qh) (HT.O.r1.below qh) (HT.O.r2.below qh) ⟨⟨by have:=CV.O.1;rwa [HTL.O]at this,acB.O,_,rfl⟩,⟨IT.O.1.below CV.O.2.2,af2.O,_,rfl⟩⟩ HT.O.n1 (aj HT.O.nB (aj (ff HT.O.BV) qh.size)) an HT.O.aw1 HT.O.ne;obtain⟨xi,Hi⟩:∃xi:aH,xi=⟨some ⟨Va.heap.size,0,none⟩,x.id,kc,some ⟨Bb,0,none⟩,dS x.g x.m x.s dl pt,cb⟩:=⟨_,rfl⟩;rw[<-Hi]at yX;have Pe:fF xi=(x.id,dS x.g x.m x.s dl pt):=by rw[Hi];rfl
    have hd4:=((UT wr (iX qh.size HT.O.BV) HT.O.qB).T (qh.block _ HT.O.BV)).T HT.O.box;unfold aH.cells at lu;dsimp only at lu;rw[M9.O.1,M9.O.2]at lu;have HN:=hI8 US yX uh Yg Yh Pe hd4 (aj (ff HT.O.BV) (aj qh.size Hl));clear Hi Pe hd4 US yX uh Yg Yh Hl adO UT qh x0 x1 x2 x3 x4 x5;refine nP hK ?_;clear hK K;refine tP [7] ?_;refine tO ?_;refine au 3 rfl ?_;refine sP 8 [1,2,3,4,5,6,7] λ K hK=>?_;go_simp;refine nP hK ?_;clear hK K;refine sP 9 [0,1,2,3,4,5,6,7,8] λ K hK=>?_;go_simp;refine nP hK ?_;clear hK K;refine tP [10] ?_;refine tO ?_;refine au 0 rfl ?_;refine dP ?_;go_simp
    focus go_wp2_with fail
    clear CV IT lu;rotate_left
    all_goals
     have HX4:Hid (∀U:World,Below V4 V4 U->U.cell? (za wr 0)=some (.string (cE x.id))/\U.cell? (za wr 3)=some (.int .u64 (x.s:Int))):=ag λ U hU=>by have e:=(hU.block wr (by exact(cS HN.O.2.2.2.2.2.2.1).1)).T HN.O.2.2.2.2.2.2.1;exact⟨(af e 0).T rfl,(af e 3).T rfl⟩
     have HL8:Hid ((e8 x.s).length=8):=ag (jh x.s);have HI8:Hid (1<=(e8 x.s).length):=ag (by rw[HL8.O];decide);obtain⟨x0,x3⟩:=HX4.O V4 (gb);refine bP 12 ?_;refine tP [0,1,2,3,5,6] ?_
     iterate 6 refine tO ?_
     refine au 6 rfl ?_;refine G6 4 7 [1,2,3] [5,6] (λ K hK=>?_) λ K hK=>?_;go_simp;(with_reducible refine(IN.O _).mono ?_);rintro e Va ⟨Bs,cs,rfl,tk,JJ⟩;have JJ:Below V4 V4 Va:=(gb).drew.T JJ;have IT:=dO tk JJ;clear tk JJ;clear x0 x3;obtain⟨x0,x3⟩:=HX4.O _ IT.O.2;refine nP hK ?_;clear hK K;refine sP 7 [1,2,3,5,6] λ K hK=>?_;refine tY _ rfl rfl (λ kc Vb hy tw yS hza=>?_);have CV:=eS hy tw yS;clear hy tw yS hza;have qh:Below V4 V4 Vb:=IT.O.2.T (CV.O.2.2.mono IT.O.2.size);obtain⟨g6,k6,V6,tI,RK,C7,uV,Yi,Yj,hz6,adP,zP⟩:=Lk (its:=AA) (AA:=its++[xi]) ⟨some ⟨Bs,0,none⟩,e8 x.s,cs,some ⟨Va.heap.size,0,none⟩,x.id,kc⟩ (HN.O.1.below qh) (HN.O.2.2.1.below qh) (HN.O.2.1.below qh) ⟨⟨IT.O.1.below CV.O.2.2,HI8.O,_,rfl⟩,⟨by have:=CV.O.1;rwa [HTL.O]at this,acB.O,_,rfl⟩⟩ HT.O.n1 (aj HT.O.nB (aj HN.O.2.2.2.2.2.2.2 qh.size)) an HT.O.aw2 (λ g hg e=>HN.O.2.2.2.2.1 g hg (by cases e;rfl));obtain⟨yi,hyi⟩:∃yi:aH,yi=⟨some ⟨Bs,0,none⟩,e8 x.s,cs,some ⟨Va.heap.size,0,none⟩,x.id,kc⟩:=⟨_,rfl⟩;rw[<-hyi]at C7;have Ud:fF yi=(e8 x.s,x.id):=by rw[hyi];rfl
     unfold aH.cells at tI;dsimp only at tI;rw[M9.O.1,HL8.O]at tI;have QH:=Z0 RK C7 uV Yi Yj Ud (aj HN.O.2.2.2.2.2.2.2 (aj qh.size hz6));clear hyi Ud RK C7 uV Yi Yj hz6 adP zP qh x0 x3;refine nP hK ?_;clear hK K;refine tP [8] ?_;refine tO ?_;refine au 3 rfl ?_;refine sP 9 [1,2,3,4,5,6,7,8] λ K hK=>?_;go_simp;refine nP hK ?_;clear hK K;refine sP 10 [0,1,2,3,4,5,6,7,8,9] λ K hK=>?_;go_simp;refine nP hK ?_;clear hK K;refine tP [11] ?_;refine tO ?_;refine au 0 rfl ?_;refine dP ?_;go_simp
     focus go_wp2_with fail
     clear CV IT tI;refine⟨⟨i+1,some ⟨g4,0,none⟩,k4,some ⟨g6,0,none⟩,k6,an,by simp,rfl,rfl,ag ⟨b2,c2,GO,its++[xi],AA++[yi],ds++[{x with at_:=pt}],⟨QH.O.1,HT.O.ext,HT.O.cost,QH.O.2.2.1,QH.O.2.1, λ g hg e=>QH.O.2.2.2.2.1 g hg (by cases e;rfl), λ g hg=>by cases hg;exact HN.O.2.2.2.1, λ g hg=>by cases hg;exact QH.O.2.2.2.1,HT.O.n1,aj HT.O.nB QH.O.2.2.2.2.2.2,?_,?_,?_, λ y hy=>?_⟩⟩⟩,by simp[intOf];omega⟩
     ·rw[aL,HX.O,aJ,aJ,HT.O.ds_];rfl
     ·exact xG
     ·rw[aJ,aJ,HT.O.kv2,fj,fj,QH.O.2.2.2.2.2.1];rfl
     ·exact xF
     rotate_left;refine tY _ rfl rfl (λ kc Va hy tw yS hza=>?_);have yS:Below V4 V4 Va:=(gb).drew.T yS;have CV:=eS hy tw yS;clear hy tw yS hza;clear x0 x3;obtain⟨x0,x3⟩:=HX4.O _ CV.O.2.2;refine nP hK ?_;clear hK K;refine sP 4 [1,2,3,5,6] λ K hK=>?_;go_simp;(with_reducible refine(IN.O _).mono ?_);rintro e Vb ⟨Bs,cs,rfl,tk,JJ⟩;have IT:=dO tk JJ;clear tk JJ;have qh:Below V4 V4 Vb:=CV.O.2.2.T (IT.O.2.mono CV.O.2.2.size);obtain⟨g6,k6,V6,tI,RK,C7,uV,Yi,Yj,hz6,adP,zP⟩:=Lk (its:=AA) (AA:=its++[xi]) ⟨some ⟨Bs,0,none⟩,e8 x.s,cs,some ⟨V4.heap.size,0,none⟩,x.id,kc⟩ (HN.O.1.below qh) (HN.O.2.2.1.below qh) (HN.O.2.1.below qh) ⟨⟨IT.O.1,HI8.O,_,rfl⟩,⟨by have:=CV.O.1;rw[HTL.O]at this;exact this.below IT.O.2,acB.O,_,rfl⟩⟩ HT.O.n1 (aj HT.O.nB (aj HN.O.2.2.2.2.2.2.2 qh.size)) an HT.O.aw2 (λ g hg e=>HN.O.2.2.2.2.1 g hg (by cases e;rfl));obtain⟨yi,hyi⟩:∃yi:aH,yi=⟨some ⟨Bs,0,none⟩,e8 x.s,cs,some ⟨V4.heap.size,0,none⟩,x.id,kc⟩:=⟨_,rfl⟩;rw[<-hyi]at C7;have Ud:fF yi=(e8 x.s,x.id):=by rw[hyi];rfl
     unfold aH.cells at tI;dsimp only at tI;rw[M9.O.1,HL8.O]at tI;have QH:=Z0 RK C7 uV Yi Yj Ud (aj HN.O.2.2.2.2.2.2.2 (aj qh.size hz6));clear hyi Ud RK C7 uV Yi Yj hz6 adP zP qh x0 x3;refine nP hK ?_;clear hK K;refine tP [8] ?_;refine tO ?_;refine au 3 rfl ?_;refine sP 9 [1,2,3,4,5,6,7,8] λ K hK=>?_;go_simp;refine nP hK ?_;clear hK K;refine sP 10 [0,1,2,3,4,5,6,7,8,9] λ K hK=>?_;go_simp;refine nP hK ?_;clear hK K;refine tP [11] ?_;refine tO ?_;refine au 0 rfl ?_;refine dP ?_;go_simp
     focus go_wp2_with fail
     clear CV IT tI;refine⟨⟨i+1,some ⟨g4,0,none⟩,k4,some ⟨g6,0,none⟩,k6,an,by simp,rfl,rfl,ag ⟨b2,c2,GO,its++[xi],AA++[yi],ds++[{x with at_:=pt}],⟨QH.O.1,HT.O.ext,HT.O.cost,QH.O.2.2.1,QH.O.2.1, λ g hg e=>QH.O.2.2.2.2.1 g hg (by cases e;rfl), λ g hg=>by cases hg;exact HN.O.2.2.2.1, λ g hg=>by cases hg;exact QH.O.2.2.2.1,HT.O.n1,aj HT.O.nB QH.O.2.2.2.2.2.2,?_,?_,?_, λ y hy=>?_⟩⟩⟩,by simp[intOf];omega⟩
     ·rw[aL,HX.O,aJ,aJ,HT.O.ds_];rfl
     ·exact xG
     ·rw[aJ,aJ,HT.O.kv2,fj,fj,QH.O.2.2.2.2.2.1];rfl
     ·exact xF
     rotate_left
  ·obtain rfl:i=L:=an;have vW:¬ (i:Int)<(i:Int):=an;have HS:=ag hS;clear hi cL ma hS
   go_wp2_with fail
   clear vW;have Rg:xs.take i=xs:=aY (cm HI.O.2.2.2.2.1);have Hu:=HS.O.ds_;rw[Rg]at Hu;have th:ds.length=i:=by have:=congrArg List.length Hu;have:=HI.O.2.2.2.2.1;simp at*;omega
   have Ye:i<=32:=an;have gk:(aw jW).length+540*i<=524288:=Ig HS.O.cost HI.O.2.2.2.2.1 HI.O.2.2.2.2.2.2;have adQ:ee (its.map fF):=by rw[HS.O.WK];exact Ui HS.O.ok
   have af3:ee (AA.map fF):=by rw[HS.O.kv2];exact QB HS.O.ok
   have zR:=R6 HS.O.WK (R7 (R:= λ x y=>(tf x).1≠(tf y).1) Hu (λ _ _=>Iff.rfl) HI.O.2.2.1);have WL:=R6 HS.O.kv2 (((R7 (R:= λ x y=>x.s≠y.s) Hu (λ _ _=>Iff.rfl) HI.O.2.2.2.1)).imp_of_mem λ {x y} hx hy h e=>h (K5 (HS.O.ok x hx).s64 (HS.O.ok y hy).s64 e));have Ww:=ZJ.O.1.below HS.O.at_.lV;have HRI:=ag (X2 (k1:=k1) HS.O.r1.at_ HS.O.r1.len adQ zR Ye);have Rz:=ag (X3 (cf:=cf) HS.O.at_.file HS.O.at_.marks HS.O.at_.vj HS.O.at_.bsz HS.O.r1.len adQ Ye Ww ZJ.O.2.2 ZJ.O.2.1 an);have pK:∀g,q2=some ⟨g,0,none⟩->w.heap.size+3<=g/\g<wr.heap.size:= λ g hg=>by
    rcases bg HS.O.r2.row with⟨h1,_⟩|⟨g2,cur,h1,h2,h3⟩
    ·rw[hg]at h1;cases h1
    ·rw[hg]at h1;cases h1;exact⟨aj HS.O.n1 h2,(cS h3).1⟩
   obtain⟨Z,hZd⟩:∃Z:World->Prop,Z= λ V=>lT V w3 q2 i k2 AA/\V.heap[w.heap.size+1]? =some (.cells kF 31)/\V.heap[w.heap.size+1+1]? =some (.cells sO 37):=⟨_,rfl⟩;have hZ:RmZ w wr Z:=by subst hZd;exact⟨HS.O.at_.lt, λ V V' hs ⟨z1,z2,z3⟩ hb=>⟨z1.below hb,(hb.block _ (cm HS.O.at_.lt)).T z2,(hb.block _ (cm HS.O.at_.lt)).T z3⟩, λ V V' R cs t hs ⟨z1,z2,z3⟩ hR h8 hk hRo=>⟨z1.Di hR h8 hk λ g hg=>cm (pK g hg),(hk _ (cm HS.O.at_.lt)).T z2,(hk _ (cm HS.O.at_.lt)).T z3⟩⟩
   have hZ0:Z wr:=by rw[hZd];exact⟨HS.O.r2,HS.O.at_.rf,HS.O.at_.rc⟩
   have HZ:=ag hZ;have vb:=dO HS.O.at_.file HS.O.at_.f;have H0:=ag (λ vs=>(QA.start (b:=b1) (c:=c1) (ps:=jW) (q1:=q1) (K:=i) (k1:=k1) (its:=its) (fa:=fa) (FL:=FL) (cf:=cf) HS.O.at_.lV hZ0 ⟨none,0,[],none,0,[],0,0,0,0⟩ vs).grow hZ ((ah _ wr).drew));have HRO:=ag gk;have FA:=dO af3 WL;have HLE:=ag Ye;have Yc:=dO Hu th;clear Rg Hu th gk adQ af3 zR WL Ww hZ hZ0 Ye pK;refine Lo 12 [some 76,some 77,some 78,some 79,some 80,some 81,some 75,some 82,some 83,some 16,none,none] (λ L vs V=>∃D,QA w wr b1 c1 jW q1 i k1 its fa FL cf Z D L vs V) bU bU rfl (λ vs=>⟨_,H0.O vs⟩) (λ Fr Lp=>?_);replace Lp:=Lp.out;simp only[Ln,Act.put,jX]at Lp;subst Lp;refine⟨abm, λ vs1 V1 ⟨D1,hI⟩=>?_⟩;have HJ:=ag hI;have h9:=(HJ.O.v9 rfl).1;go_simp
   focus go_wp2_with fail
   have hz:=HJ.O.z;have hlw:=aj HZ.O.lt HJ.O.sz;have ah4:=HRO.O;obtain⟨-,qh,hm,ke,af4,Ki, -⟩:=(HJ.O.v5 rfl).2;obtain⟨-,Fi,hB2, -,hT⟩:=HJ.O.v9 rfl;rw[hZd]at hz;replace HRI:=ag (X2 (k1:=k2) hz.1.at_ HS.O.r2.len FA.O.1 FA.O.2 HLE.O);replace Rz:=ag (X3 (cf:=cf) (HJ.O.v5 rfl).2.1 hm ke qh HS.O.r2.len FA.O.1 HLE.O (ZJ.O.1.below HJ.O.lV) ZJ.O.2.2 ZJ.O.2.1 an);obtain⟨Z2,hZ2⟩:∃Z2:World->Prop,Z2= λ V=>V.heap[w.heap.size+1]? =some (.cells kF 31)/\V.heap[w.heap.size+1+1]? =some (.cells sO 37)/\V.heap[D1.B]? =some (.cells (tC D1.at_ D1.d D1.nC) 35):=⟨_,rfl⟩;have hZ:RmZ w V1 Z2:=by have cL:=HZ.O.lt;subst hZ2;exact⟨hlw, λ V V' hs ⟨z1,z2,z3⟩ hb=>⟨(hb.block _ an).T z1,(hb.block _ an).T z2,(hb.block _ an).T z3⟩, λ V V' R cs t hs ⟨z1,z2,z3⟩ hR h8 hk hRo=>⟨(hk _ an).T z1,(hk _ an).T z2,(hk _ an).T z3⟩⟩
   have hZ0:Z2 V1:=by rw[hZ2];exact⟨hz.2.1,hz.2.2,hT rfl⟩
   replace HZ:=ag hZ;replace vb:=dO (HJ.O.v5 rfl).2.1 (HJ.O.box rfl);replace H0:=ag (λ vs=>(QA.start (b:=D1.b') (c:=D1.c') (ps:=D1.eQ) (q1:=q2) (K:=i) (k1:=k2) (its:=AA) (fa:=fa) (FL:=FL) (cf:=cf) HJ.O.lV hZ0 ⟨none,0,[],none,0,[],0,0,0,0⟩ vs).grow hZ ((ah _ V1).drew));have HE:=eS af4 Ki (HJ.O.v2 rfl).2.2.1;clear hI h9 hz hlw ah4 qh hm ke af4 Ki Fi hB2 hT hZ hZ0;refine Lo 12 [some 85,some 86,some 87,some 88,some 89,some 90,some 84,some 91,some 92,some 17,none,none] (λ L vs V=>∃D,QA w V1 D1.b' D1.c' D1.eQ q2 i k2 AA fa FL cf Z2 D L vs V) bU bU rfl (λ vs=>⟨_,H0.O vs⟩) (λ Fr Lp=>?_);replace Lp:=Lp.out;simp only[Ln,Act.put,jX]at Lp;subst Lp;refine⟨abm, λ vs2 V2 ⟨D2,hI⟩=>?_⟩;have LD:=ag hI;have h9:=(LD.O.v9 rfl).1;go_simp
   focus go_wp2_with fail
   have hz:=LD.O.z;rw[hZ2]at hz;obtain⟨-,Fi,hB2, -,hT⟩:=LD.O.v9 rfl;have hT:=hT rfl;have cL:=aj HZ.O.lt LD.O.sz;have HK:=Z0 hz hT Fi hB2 cL HZ.O.lt HJ.O.v9;obtain⟨f0,f1,f2,f3,f4⟩:=dF (show V2.heap[w.heap.size]? =some (.cells (fA D2.b' D2.eQ.length D2.c') 31)from LD.O.box rfl);obtain⟨x0,x1,x2,x3,x4,x5,x6,x7⟩:=BF hz.2.2;obtain⟨y0,y1,y2,y3,y4,y5,y6,y7⟩:=BF hT;clear hI h9 hz Fi hB2 hT cL;refine bP 7 ?_;refine tP [0,1,2,3,4] ?_
   iterate 5 refine tO ?_
   refine au 2 rfl ?_;refine sP 5 [0] λ K hK=>?_;refine pN 31 (fA D2.b' D2.eQ.length D2.c') HK.O.1.1 ?_;intro V3 h1 h2 h3;have H5:=oT h1 (show∀j,j≠w.heap.size+1->V3.heap[j]? =V2.heap[j]? from λ j hj=>h2 j hj) (h3 w w an LD.O.lV.drew) (h3 0 V2 (aD _) (ah 0 V2).drew).size;have yL:=(HJ.O.v9 rfl).2.1;have jk:=HK.O.2.2.1;have pz:=HZ.O.lt;have Er:=HS.O.at_.lt;clear h1 h2 h3 f0 f1 f2 f3 f4 x0 x1 x2 x3 x4 x5 x6 x7 y0 y1 y2 y3 y4 y5 y6 y7;obtain⟨x0,x1,x2,x3,x4,x5,x6,x7⟩:=BF ((H5.O.2.1 D1.B an).T HK.O.1.2.2);obtain⟨y0,y1,y2,y3,y4,y5,y6,y7⟩:=BF ((H5.O.2.1 D2.B an).T HK.O.2.1);clear yL jk pz Er;refine nP hK ?_;clear hK K;refine sP 6 [0,1,2,3,4,5] λ K hK=>?_;refine pN 37 (pG D1.at_ D1.d D1.nC D2.at_ D2.d D2.nC Q) ((H5.O.2.1 _ an).T HK.O.1.2.1) ?_;intro V4 h1 h2 h3;have H6:=oT h1 (show∀j,j≠w.heap.size+1+1->V4.heap[j]? =V3.heap[j]? from λ j hj=>h2 j hj) (h3 w w an H5.O.2.2.1) (h3 0 V3 (aD _) (ah 0 V3)).size;clear h1 h2 h3 x0 x1 x2 x3 x4 x5 x6 x7 y0 y1 y2 y3 y4 y5 y6 y7;refine nP hK ?_;clear hK K;refine dP ?_;go_simp
   go_wp2_with fail
   have Nh:=(LD.O.v5 rfl).2.1;have MQ:aQ V3 D2.b' D2.c' D2.eQ:=dZ (g:=w.heap.size+1) (λ j _ dN=>H5.O.2.1 j dN) Nh (GG Nh HK.O.1.1 cP oZ);have MB:aQ V4 D2.b' D2.c' D2.eQ:=dZ (g:=w.heap.size+1+1) (λ j _ dN=>H6.O.2.1 j dN) MQ (GG MQ ((H5.O.2.1 _ an).T HK.O.1.2.1) cP cP);obtain⟨-,g2,g3,g4,⟨m2,he2⟩,PF,ht2⟩:=(LD.O.v5 rfl).2;obtain⟨m1,he1⟩:=HE.O.1;obtain⟨m0,he0⟩:=HS.O.ext;have hxl:i=xs.length:=HI.O.2.2.2.2.1;obtain⟨es,hes,hpe⟩:=aaP (On:=aw D2.eQ) (m:=m1++m2) HS.O.ok (iX Yc.O.2 HLE.O) HS.O.WK HS.O.kv2 HE.O.2.2 (LD.O.v2 rfl).2.2.1 (by rw[he2,he1,aS]) (by rw[he2];exact(HJ.O.v5 rfl).2.2.2.2.2.2.2.more m2) ht2;refine bodyPost_ret (v:=.tuple (Ii (.agg (fA D2.b' D2.eQ.length D2.c')) (.agg (pG D1.at_ D1.d D1.nC D2.at_ D2.d D2.nC Q)))) (KH _ _ (w+1) (w+1+1) (fA D2.b' D2.eQ.length D2.c') (pG D1.at_ D1.d D1.nC D2.at_ D2.d D2.nC Q) _ _ rfl rfl rfl (aF ((H6.O.2.1 _ an).T H5.O.1)) (aF H6.O.1) Tryz.underlying31 rfl bU Tryz.underlying37 rfl bU) bp ⟨D2.b',D2.c',D2.eQ,D1.at_,D1.d,D1.nC,D2.at_,D2.d,D2.nC,es,rfl,MB,g3,g4, λ G o e=>?_,⟨m0++(m1++m2),by rw[he2,he1,he0,aS,aS]⟩,by have:=HE.O.2.1;have:=HS.O.cost;omega,hes,by rw[<-Yc.O.1];exact hpe.map _,H6.O.2.2.1⟩;have h7:=g2 G o e;have h8:=H5.O.2.2.2;have h9:=H6.O.2.2.2;omega
structure Yo where
 id:ByteArray
 g:Nat
 m:Nat
 gone:Bool
 n:Int
def knR(x:Yo):List Value:=(agP x.id x.g x.m x.gone x.n)
structure Yp(x:Yo):Prop where
 sz:x.id.size<=4611686018427387904
 g:x.g<4294967296
 m:x.m<4294967296
 n1: -9223372036854775808<=x.n
 n2:x.n<9223372036854775808
theorem EF{V':World}{b a:az}{R:Nat}{t:TypeId}(hF:aQ V b c ps)(hr:cV nD 11 V a l)(hc:V.heap[R]? =some (.cells cs.toArray t))(h8:∀v∈cs,∀x:Nat,v≠.int .u8 (x:Int))(hs:∀v∈cs,∀a n k,v= .slice a n k->n=0)(ma:∀v∈cs,∀u,v≠.string u)(hk:∀j,j≠R->V'.heap[j]? =V.heap[j]?):aQ V' b c ps/\cV nD 11 V' a l:=by
 refine⟨dZ (g:=R) (λ j _ dN=>hk j dN) hF (GG hF hc h8 hs),?_⟩;rcases hr with h0|⟨B,o,e,h⟩
 ·exact .inl h0
 ·refine .inr ⟨B,o,e, λ j x hx i v hv=>?_⟩;have hB:B≠R:= λ e=>by
   have h1:=h j x hx 0 _ rfl;rw[e,af hc,gq]at h1;exact ma _ (ak h1) _ rfl
  exact(bq (w:=V) (hk B hB)).T (h j x hx i v hv)
structure MlS(w3 wr:World)(L:Nat)(a:az)(l:List bX):Prop where
 len:L=l.length
 row:cV nD 11 wr a l
 ok:∀x∈l,JX L x/\x.at_=0
 ids:l.Pairwise λ x y=>x.id≠y.id
 sq:l.Pairwise λ x y=>x.s≠y.s
 many:L<=32
 Ic:Below w3 w3 wr
theorem MlS.below{w3 wr V:World}{L:Nat}{a:az}{l:List bX}(h:MlS w3 wr L a l)(hb:Below wr wr V):MlS w3 V L a l:=
 ⟨h.len,h.row.below hb,h.ok,h.ids,h.sq,h.many,h.Ic.T (hb.mono h.Ic.size)⟩
theorem OG{q':Nat}(h:JX q x)(hq:q<=q'):JX q' x:=⟨h.id,h.lt,h.g1,h.g2,h.m2,h.s1,h.s2,aj h.le hq,h.body⟩
def knD(x:Yo)(L:Nat):bX:=⟨kE x.id,max x.g 1,x.m,L+1,x.gone,0,x.n⟩
theorem ab2{x:Yo}(h:Yp x)(hid:vz x.id=true)(hL:L<32):JX (L+1) (knD x L):=
 ⟨by show yR (cE (kE x.id))=0;rw[pS];unfold yR;rw[hid];rfl,Qt x.id,Nat.le_max_right _ _,by have:=h.g;show max x.g 1<_;omega,h.m,by show 1<=L+1;omega,by show L+1<=_;omega,cH, λ _=>⟨h.n1,h.n2⟩⟩
theorem MlS.put{w3 wr:World}{a a':az}{os:List bX}{x:Yo}(h:MlS w3 wr L a l)(hk:Yp x)(hid:vz x.id=true)(hL:L<32)(mr:∀y∈l,cE y.id≠x.id)(hp:os.Perm (knD x L::l))(hr:cV nD 11 V a' os)(hb:Below w3 w3 V):MlS w3 V (L+1) a' os:=by
 have hlen:=hp.length_eq;refine⟨by rw[hlen,h.len];rfl,hr, λ y hy=>?_,?_,?_,hL,hb⟩
 ·rcases aO.1 (hp.mem_iff.1 hy)with rfl|hy
  ·exact⟨ab2 hk hid hL,rfl⟩
  ·exact⟨OG (h.ok y hy).1 (bk _),(h.ok y hy).2⟩
 ·refine(hp.pairwise_iff (λ {x y} h=> λ e=>h e.symm)).2 (dH.2 ⟨λ y hy e=>mr y hy ?_,h.ids⟩);rw[<-e];exact pS x.id
 ·refine(hp.pairwise_iff (λ {x y} h=> λ e=>h e.symm)).2 (dH.2 ⟨λ y hy e=>?_,h.sq⟩);have h1:=(h.ok y hy).1.le;have h2:L+1=y.s:=e;omega
theorem xI(h:p:=by
 exact⟨⟨i+1,L+1,a',k',an,by simp,by simp,rfl,ag ⟨os,HS.O.put HKX.O HOK.O.symm Fy.O HNO.O hp hr (HS.O.Ic.T (hg7.mono HS.O.Ic.size))⟩⟩,by simp[intOf];omega⟩
 ):p:=h
theorem rR(h:p:=by
 exact⟨⟨i+1,L,a,k,an,by simp,rfl,rfl,ag ⟨l,HS.O.below bW⟩⟩,by simp[intOf];omega⟩
 ):p:=h
theorem Yq{da fa:az}{cd M:Nat}{ks:List Yo}{fs:List Int}(hD:cV knR 5 w da ks)(hcd:ks.length<=cd)(Yr:cd<140737488355328)(kD:∀x∈ks,Yp x)(hM:M<18446744073709551616)(Qr:rL w fa fs)(qH:fs.length<4611686018427387904):
 Calls Tryz.prog 5 (BX (.agg (O9 da ks.length cd M fa fs.length cf))) w λ e w'=>∃(b:az) (c:Nat) (ps:List Piece) (a1 d1 c1 a2 d2 c2 q:Nat) (es:List bX) (la:az) (lk:Nat) (ls:List bX),e= .returned (.tuple #[bN b ps.length c,j7 a1 d1 c1 a2 d2 c2 q,.slice la ls.length lk])/\aQ w' b c ps/\Marks (aw ps)/\gD (aw ps) a1 d1 c1 a2 d2 c2 q es/\q<=1099511627776/\cV nD 11 w' la ls/\ls.length<=32/\(es.map bX.bare).Perm (ls.map bX.bare)/\(∀x∈ls,x.at_=0/\∀y∈x.id,y<256)/\Below w w w':=by
 obtain⟨ND,hND⟩:=bL ks.length;obtain⟨NF,hNF⟩:=bL fs.length;obtain⟨N,hN⟩:=bL (min ND 40);have hmn:min (ND:Int) 40=(N:Int):=an;have hNc:(N:Int)<=(cd:Int):=an;have ajC:(N:Int)<=40:=an;obtain⟨w3,gV⟩:=bL (((w.alloc (.cells (O9 da ND cd M fa NF cf) 26)).alloc (.cells kF 31)).alloc (.cells sO 37));have cu:Below w w w3:=by rw[gV];go_grown
 have Zm:w3.heap.size=w.heap.size+3:=by rw[gV];simp
 have uX:=gT (w:=w) (w2:=w3) qR;have LK:Hid (MlS w3 w3 0 none []):=ag ⟨rfl,.inl rfl,by simp,.nil,.nil,an,gb⟩;have HI:=G2 hD kD hND hN Yr;have ZJ:=eS Qr qH hNF;have H3:=eS cu Zm uX;have nE:=ag gV;rw[<-hND,<-hNF];clear hD hcd kD Qr qH hM hND hNF hN gV cu Zm uX Yr;go_enter Tryz.func5,Tryz.ntmps5
 go_wp2_with fail
 go_loopw [5,6,20] (λ lv nv iv wr=>∃(i L:Nat) (a:az) (k:Nat),i<=N/\iv= .int .i64 (i:Int)/\nv= .int .u64 (L:Int)/\lv= .slice a L k/\Hid (∃l:List bX,MlS w3 wr L a l)) (λ _ _ iv _=>N - (intOf iv).toNat)
 case atStart=>
  rw[<-nE.O];exact⟨0,0,none,0,aD _,rfl,rfl,rfl,ag ⟨[],LK.O⟩⟩
 case round=>
  clear LK;obtain⟨i,L,a,k,hi,rfl,rfl,rfl,ma⟩:=hrel;obtain⟨l,hS⟩:=ma.O;have afQ:(L:Int)<=32:=cm hS.many;by_cases cL:i<N
  ·have ajD:(i:Int)<(N:Int):=an;obtain⟨x,hx⟩:∃x,ks[i]? =some x:=⟨_,aB (iX HI.O.2.2.1 HI.O.2.2.2.1)⟩;obtain⟨B,o,hA⟩:=HI.O.1.some_ (iX HI.O.2.2.1 HI.O.2.2.2.1);have Ak:wr.rangeAt B (o+i*5) (knR x):=by
    have h1:=cV.below HI.O.1 (H3.O.1.T (hS.Ic.mono H3.O.1.size));rw[hA]at h1;exact h1.get hx
   subst hA;have hkx:=HI.O.2.1 x (ak hx);have HS:=ag hS;have HKX:=ag hkx;obtain⟨ok,kD⟩:=bL (vz x.id);have O5:Hid (∀U,Calls Tryz.prog 8 #[.string x.id] U λ e w'=>e= .returned (.bool ok)/\w'=U):=ag λ U=>by rw[kD];exact Sb x.id hkx.sz U
   have mU:= λ U (hU:Below wr wr U)=>XY k x.id (hS.row.below hU) (iX hS.many hS.len);rw[<-hS.len]at mU;have HKG:=Ak;unfold knR at Ak;obtain⟨gn,QI⟩:=bL x.gone;rw[<-QI]at Ak;have HOK:=ag kD;have HGN:=ag QI;clear ma hS hkx HKG cL kD QI;cases ok with
   |false=>
    clear mU
    go_wp2_with first
     |(refine dG 68 ?_)
     |(refine lU 68 ?_)
     |((with_reducible refine(O5.O _).mono ?_);rintro e w2 ⟨rfl,hw⟩;rw[hw];clear hw w2)
     |fail
    exact rR
   |true=>
    by_cases hfo:∃y∈l,cE y.id=x.id
    ·have Hj:Hid (∀U,Below wr wr U->Calls Tryz.prog 7 #[.slice a L k,.string x.id] U λ e w'=>(∃j:Nat,e= .returned (.int .i64 (j:Int)))/\w'=U):=ag λ U hU=>(mU U hU).mono λ e w' ⟨⟨r,he,h⟩,hw⟩=>by
      rcases h with⟨_,h1⟩|⟨j,y,_,_,h1⟩
      ·obtain⟨y,hy,I5⟩:=hfo;exact absurd I5 (h1 y hy)
      ·exact⟨⟨j,by rw[he,h1]⟩,hw⟩
     clear mU hfo
     go_wp2_with first
      |(refine dG 68 ?_)
      |(refine lU 68 ?_)
      |((with_reducible refine(O5.O _).mono ?_);rintro e w2 ⟨rfl,hw⟩;rw[hw];clear hw w2)
      |((with_reducible refine(Hj.O _ bW).mono ?_);rintro e w2 ⟨⟨j,rfl⟩,hw⟩;rw[hw];clear hw w2;have Db:(0:Int)<=(j:Int):=Int.natCast_nonneg j;have PM:decide ((0:Int)<=(j:Int))=true:=by simp)
      |fail
     exact rR
    ·have mr:∀y∈l,cE y.id≠x.id:= λ y hy e=>hfo ⟨y,hy,e⟩;have Hj:Hid (∀U,Below wr wr U->Calls Tryz.prog 7 #[.slice a L k,.string x.id] U λ e w'=>e= .returned (.int .i64 (-1))/\w'=U):=ag λ U hU=>(mU U hU).mono λ e w' ⟨⟨r,he,h⟩,hw⟩=>by
      rcases h with⟨h1,_⟩|⟨j,y,h1,h2,_⟩
      ·exact⟨by rw[he,h1],hw⟩
      ·exact absurd h2 (mr y (ak h1))
     have HNO:=ag mr;clear mU hfo mr;by_cases hf:L=32
     ·have zK:((L:Int)==32)=true:=dU;clear hf
      go_wp2_with first
       |(refine dG 68 ?_)
       |(refine lU 68 ?_)
       |((with_reducible refine(O5.O _).mono ?_);rintro e w2 ⟨rfl,hw⟩;rw[hw];clear hw w2)
       |((with_reducible refine(Hj.O _ bW).mono ?_);rintro e w2 ⟨rfl,hw⟩;rw[hw];clear hw w2)
       |fail
      exact rR
     ·have zK:((L:Int)==32)=false:=dU;have Fy:=ag (show L<32 by omega);obtain⟨G,hG⟩:=bL (max x.g 1);have Kb:max (x.g:Int) 1=(G:Int):=an;have ZH:Hid (∀U,cV nD 11 U a l->Calls Tryz.prog 16 (ZX a L k (.agg (agQ x.id G x.m ((L:Int)+1) gn (kindOf gn) (fN gn x.n)))) U λ e w'=>∃(a':az) (k':Nat) (os:List bX),e= .returned (.slice a' (L+1) k')/\os.Perm (knD x L::l)/\cV nD 11 w' a' os/\Below U U w'):=ag λ U hU=>by
       have h:=Yk (x:=knD x L) k hU (iX HS.O.many HS.O.len) (λ y hy=>by show cE y.id≠cE (kE x.id);rw[pS];exact HNO.O y hy);unfold Lq knD at h;dsimp only at h;rw[pS,<-hG,<-HS.O.len,<-HGN.O]at h;refine jm h ?_;rintro e w' ⟨a',k',os,rfl,hp,hr,hb⟩;have hlen:=hp.length_eq;rw[aK,<-HS.O.len]at hlen;refine⟨a',k',os,by rw[hlen],?_,hr,hb⟩;unfold knD;rw[<-hG,<-HGN.O];exact hp
      have WU:Hid (∀U,Calls Tryz.prog 13 #[.int .i64 x.n] U λ e w'=>e= .returned (.agg (qv x.n))/\Below U U w'):=ag λ U=>Lr x.n U;clear hf hG;have ah8:gn=true\/gn=false:=by cases gn<;>simp
      rcases ah8 with rfl|rfl
      ·unfold kindOf fN at ZH;simp only[if_true]at ZH
       go_wp2_with first
        |(refine dG 68 ?_)
        |(refine lU 68 ?_)
        |((with_reducible refine(O5.O _).mono ?_);rintro e w2 ⟨rfl,hw⟩;rw[hw];clear hw w2)
        |((with_reducible refine(Hj.O _ bW).mono ?_);rintro e w2 ⟨rfl,hw⟩;rw[hw];clear hw w2)
        |(refine mf 57 rfl _ _ rfl _ vN #[.string x.id,.int .u32 (x.g:Int),.int .u32 (x.m:Int),.int .u64 ((L:Int)+1),.bool true,.int .i64 0,.int .i64 0,.int .i64 0,.string ⟨#[]⟩,.slice none 0 0,.slice none 0 0] rfl rfl rfl cP bU bz ?_)
        |((with_reducible refine(ZH.O _ (HS.O.row.below bW)).mono ?_);rintro e w7 ⟨a',k',os,rfl,hp,hr,vL⟩;have hg7:Below wr wr w7:=jY bW (vL.mono dU))
        |fail
       exact xI
      ·unfold kindOf fN at ZH;simp only[ez,if_false]at ZH
       go_wp2_with first
        |(refine dG 68 ?_)
        |(refine lU 68 ?_)
        |((with_reducible refine(O5.O _).mono ?_);rintro e w2 ⟨rfl,hw⟩;rw[hw];clear hw w2)
        |((with_reducible refine(Hj.O _ bW).mono ?_);rintro e w2 ⟨rfl,hw⟩;rw[hw];clear hw w2)
        |(refine mf 57 rfl _ _ rfl _ vN (ZY x.id x.g x.m ((L:Int)+1)) rfl rfl rfl cP bU bz ?_)
        |((with_reducible refine(WU.O _).mono ?_);rintro e w5 ⟨rfl,dV⟩;have Iz:Below wr wr w5:=jY bW (dV.mono dU);have hd5:w5.heap[wr.heap.size+1]? =some (.cells (ZY x.id G x.m ((L:Int)+1)) 57):=(dV.block _ cP).T (by have h:=ai (wr.alloc (.cells #[.string x.id,.int .u32 (x.g:Int),.int .u32 (x.m:Int),.bool false,.int .i64 x.n] 68)) (.cells (ZY x.id G x.m ((L:Int)+1)) 57);simpa using h);clear dV)
        |(refine fT 49 rfl _ _ rfl (wr+1) 6 (ZY x.id G x.m ((L:Int)+1)) (qv x.n) 57 rfl rfl hd5 cP bU bz (λ w6 h1 h2 h3=>?_);simp only[eu,jX,cW]at h1;have afM:=aF h1;have UI:Below wr wr w6:=h3 wr wr an Iz;clear h1 h2 h3 hd5 Iz)
        |(refine dG 57 ?_)
        |((with_reducible refine(ZH.O _ (HS.O.row.below UI)).mono ?_);rintro e w7 ⟨a',k',os,rfl,hp,hr,vL⟩;have hg7:Below wr wr w7:=UI.T (vL.mono UI.size);clear afM)
        |fail
       exact xI
  ·obtain rfl:i=N:=an;have vW:¬ (i:Int)<(i:Int):=an;have HS:=ag hS;obtain⟨R5,ZL⟩:=bL (M%5);have htm:(M:Int).tmod 5=(R5:Int):=by rw[ZL];rfl
   have yX:(R5:Int)<=4:=an;have G5:∀Qv:Nat,L<=Qv->Qv<=1099511627776->Calls Tryz.prog 17 #[.agg ac0,.slice a L k,.int .u64 (Qv:Int),.slice fa NF cf] wr λ e w'=>∃(b:az) (c PL a1 d1 c1 a2 d2 c2:Nat) (qi:Int),e= .returned (.tuple (Ii (.agg (fA b PL c)) (.agg (L7 a1 d1 c1 a2 d2 c2 qi))))/\Hid (∃(ps:List Piece) (es:List bX) (Qv:Nat),PL=ps.length/\qi=(Qv:Int)/\Qv<=1099511627776/\aQ w' b c ps/\Marks (aw ps)/\gD (aw ps) a1 d1 c1 a2 d2 c2 Qv es/\(es.map bX.bare).Perm (l.map bX.bare))/\Below wr wr w':= λ Qv h1 h2=>by have hlen:=HS.O.len;have ub:=HS.O.many;have h:=Yd (b:=none) (c:=0) (ps:=[]) (ca:=k) (cf:=cf) (Q:=Qv) ⟨⟨.inl rfl,by simp⟩,by simp[aw],aD _⟩ (λ i hi x hx=>by simp[aw]at hx) (.inl ⟨rfl,rfl⟩) (λ G o e=>by cases e) HS.O.row (λ x hx=>OG (HS.O.ok x hx).1 h1) HS.O.ids HS.O.sq an (ZJ.O.1.below (H3.O.1.T (HS.O.Ic.mono H3.O.1.size))) ZJ.O.2.1 an (by simp[aw];omega);rw[<-hlen,<-ZJ.O.2.2]at h;refine jm h ?_;rintro e w' ⟨b',c',eQ,a1,d1,c1,a2,d2,c2,es,rfl,g1,g2, -, -, -, -,g3,g4,g5⟩;exact⟨b',c',eQ.length,a1,d1,c1,a2,d2,c2,_,rfl,ag ⟨eQ,es,Qv,rfl,rfl,h2,g1,g2,g3,g4⟩,g5⟩
   have hy:=(HS.O.Ic.block w (cm H3.O.2.1)).T H3.O.2.2.1;have y0:=(af hy 0).T rfl;have y1:=(af hy 1).T rfl;have y2:=(af hy 2).T rfl;simp only[cW]at y0 y1 y2;clear hi cL ma hS ZL hy;by_cases Ip:1125899906842624<=M
   case' pos=>
    have bG:decide ((1125899906842624:Int)<=(M:Int))=true:=dU;have Rz:=ag (G5 1099511627776 an (cH));simp only[show((1099511627776:Nat):Int)=1099511627776 from rfl]at Rz
   case' neg=>
    have bG:decide ((1125899906842624:Int)<=(M:Int))=false:=dU;have Rz:=G5 (L+R5) an an;rw[Int.natCast_add]at Rz;have Rz:=ag Rz
   all_goals
    clear Ip G5
    focus go_wp2_with first
     |((with_reducible refine Rz.O.mono ?_);rintro e V5 ⟨b,c,PL,a1,d1,c1,a2,d2,c2,qi,rfl,hD5,dV⟩;have e5:=bu (w:=V5) (w2:=(V5.alloc (.cells kF 31)).alloc (.cells sO 37)) (gb);have g5:Below V5 V5 ((V5.alloc (.cells kF 31)).alloc (.cells sO 37)):=by go_grown
       have H5:=eS e5 g5 (HS.O.Ic.T (dV.mono HS.O.Ic.size));have HR5:=ag (HS.O.row.below dV);clear e5 g5 dV)
     |(refine lz 31 (fA b PL c) H5.O.1.1 (λ V6 h1 h2 h3=>?_);have H6:=eS h1 (show∀j,j≠V5.heap.size->V6.heap[j]? =_ from λ j hj=>h2 j hj) (h3 V5 V5 (cH) H5.O.2.1);clear h1 h2 h3)
     |(refine lz 37 (L7 a1 d1 c1 a2 d2 c2 qi) ((H6.O.2.1 _ an).T H5.O.1.2) (λ V7 h1 h2 h3=>?_);have H7:=eS h1 (show∀j,j≠V5.heap.size+1->V7.heap[j]? =_ from λ j hj=>h2 j hj) (h3 V5 V5 an H6.O.2.2);clear h1 h2 h3)
     |fail
    have h5:=H5.O.2.2;have Zm:=H3.O.2.1;have h57:=H7.O.2.2;obtain⟨f0,f1,f2,f3,f4⟩:=dF ((H7.O.2.1 V5 an).T H6.O.1);have hrc:=aF H7.O.1;have AT:V7.drew.rangeAt (V5+1) 0 _:=hrc;have r7:=ag (show w.heap.size+3<=V5.heap.size/\Below w w V7/\V7.heap[w.heap.size+1]? =some (.cells kF 31)/\V7.heap[w.heap.size+1+1]? =some (.cells sO 37)from⟨by have:=h5.size;omega,(H3.O.1.T (h5.mono H3.O.1.size)).T (h57.mono (cm h5.size)),(h57.block _ (cm h5.size)).T ((h5.block _ an).T H3.O.2.2.2.1),(h57.block _ (cm h5.size)).T ((h5.block _ an).T H3.O.2.2.2.2)⟩);clear h5 Zm h57;refine bP 6 ?_;refine tP [0,1,2] ?_;refine rh rfl bU ?_ ?_ ?_;rotate_left;(·(go_simp<;>with_reducible rfl));try simp only[Act.put,jX,U1]
    refine rh rfl bU ?_ ?_ ?_;rotate_left;(·(refine BJ 37 (.tmp 11) ?_ (V5+1) 0 ?_ (L7 a1 d1 c1 a2 d2 c2 qi) _ ?_ Tryz.underlying37 ?_ ?_<;>first|rfl|assumption|kernel_rfl));try simp only[Act.put,jX,U1]
    refine rh rfl bU ?_ ?_ ?_;rotate_left;(·(go_simp<;>with_reducible rfl));try simp only[Act.put,jX,U1]
    refine au 3 rfl ?_;refine sP 3 [0] λ K hK=>?_;refine pN 31 (fA b PL c) r7.O.2.2.1 ?_;intro V8 h1 h2 h3;have H8:=eS h1 (show∀j,j≠w.heap.size+1->V8.heap[j]? =V7.heap[j]? from λ j hj=>h2 j hj) (h3 w w an r7.O.2.1.drew);clear h1 h2 h3 f0 f1 f2 f3 f4 hrc AT;have hrc:=aF ((H8.O.2.1 _ (cm r7.O.1)).T H7.O.1);refine aej hK ⟨?_,?_,trivial,trivial⟩ ?_
    ·(try dsimp only);go_simp
    ·(try dsimp only);(refine BJ 37 (.tmp 11) ?_ (V5+1) 0 ?_ (L7 a1 d1 c1 a2 d2 c2 qi) _ ?_ Tryz.underlying37 ?_ ?_<;>first|rfl|assumption|kernel_rfl)
    clear hK K;refine sP 4 [0,1,3] λ K hK=>?_;refine pN 37 (L7 a1 d1 c1 a2 d2 c2 qi) ((H8.O.2.1 _ an).T r7.O.2.2.2) ?_;intro V9 h1 h2 h3;have H9:=eS h1 (show∀j,j≠w.heap.size+1+1->V9.heap[j]? =V8.heap[j]? from λ j hj=>h2 j hj) (h3 w w an H8.O.2.2);clear h1 h2 h3 hrc;refine nP hK ?_;clear hK K;refine tP [5] ?_
    iterate 1 (refine rh rfl bU ?_ ?_ ?_;rotate_left;(·(first|(refine BJ 37 (.tmp 11) ?_ (V5+1) 0 ?_ (L7 a1 d1 c1 a2 d2 c2 qi) _ ?_ Tryz.underlying37 ?_ ?_<;>first|rfl|assumption|kernel_rfl)|(go_simp<;>with_reducible rfl)));try simp only[Act.put,jX,U1])
    refine au 0 rfl ?_;refine dP ?_;go_simp
    focus go_wp2_with fail
    obtain⟨ps,es,Qv,RX,hqi,hQv,hF,ah9,aia,aib⟩:=hD5.O;have t6:= λ j (hj:j≠V5.heap.size)=>H6.O.2.1 j hj;have t7:= λ j (hj:j≠V5.heap.size+1)=>H7.O.2.1 j hj;have x6:=EF (hF.below H5.O.2.1) (HR5.O.below H5.O.2.1) H5.O.1.1 cP oZ cP t6;have x7:=EF x6.1 x6.2 ((t6 _ an).T H5.O.1.2) cP cP cP t7;have x8:=EF x7.1 x7.2 r7.O.2.2.1 cP oZ cP H8.O.2.1;have x9:=EF x8.1 x8.2 ((H8.O.2.1 _ an).T r7.O.2.2.2) cP cP cP H9.O.2.1;refine bodyPost_ret (v:=.tuple #[.agg (fA b PL c),.agg (L7 a1 d1 c1 a2 d2 c2 qi),.slice a L k]) (Ex _ _ (w+1) (w+1+1) (fA b PL c) (L7 a1 d1 c1 a2 d2 c2 qi) _ _ rfl rfl rfl (aF ((H9.O.2.1 _ an).T H8.O.1)) (aF H9.O.1) Tryz.underlying31 rfl bU Tryz.underlying37 rfl bU _ bp) bp ⟨b,c,ps,a1,d1,c1,a2,d2,c2,Qv,es,a,k,l,by rw[<-RX,<-HS.O.len];unfold bN j7;rw[hqi],x9.1,ah9,aia,hQv,x9.2,by have:=HS.O.len;have:=HS.O.many;omega,aib, λ x hx=>⟨(HS.O.ok x hx).2,(HS.O.ok x hx).1.lt⟩,H9.O.2.2⟩
end
section
open Go.RowKit Go.Shelf Go.ChangeShapes Go.WideShapes
section
variable {H : Type} {enc : TypeId × Value -> H} {W : World} {base : Nat} {spare : Nat -> Bool} {held : Bool}
theorem Sc{P:Program}{e:TypeId}{d:DataW H}{n:Nat}:∀{l:List (DataW H)},d∈l->n∈d.weights P e->n∈DataW.weightsAll P e l
 |[],h,_=>by cases h
 |x::l,h,hn=>by
  rw[DataW.weightsAll];rcases aO.1 h with rfl|h
  ·exact cG _ hn
  ·exact cM _ (Sc h hn)
theorem OH{β:Type}[Inhabited β]{f:β->List Value}{Q:β->DataW H->Prop}{T E:TypeId}{sz byt:Nat}(zO:Tryz.prog.underlying T=some (.slice E))(kA:Tryz.prog.cellsOf E=sz)(Xa:0<sz)(hlen:∀x,(f x).length=sz)(iL:Tryz.prog.bytesOf E=byt)(cN:1<=byt)
 (DQ:∀{n:Nat} {cs:List Value} {x:DataW H×List MemPlace},DataW.trod enc Tryz.prog W 0 (λ _=>true) true n E cs=some x->∃d:β,cs=f d/\Q d x.1)
 {fuel:Nat}{x:DataW H×List MemPlace}(hf:DataW.trod enc Tryz.prog W 0 (λ _=>true) true fuel T cs=some x)(hw:∀n∈DataW.weights Tryz.prog T x.1,n<=reachBytes):
 ∃(a:az) (c:Nat) (ds:List β),cs=[.slice a ds.length c]/\cV f sz W a ds/\ds.length<=c/\c<140737488355328/\∀y∈ds,∃D:DataW H,Q y D/\∀n∈DataW.weights Tryz.prog E D,n<=reachBytes:=by
 rcases Go.Deep.open_slice zO hf with⟨h1,h2⟩|⟨a,len,cap,m,n,D,Pl,h1, -,hl,hm,Zp,hx,XQ⟩
 ·exact⟨none,0,[],h1,.inl rfl,cH,by decide,by simp⟩
 ·have hmc:m=cap:=by rw[Zp];rfl
  subst hmc;have each:∀i,i<m->∃x:β,Q x (D i)/\∀j v,(f x)[j]? =some v->W.cell? (a.add (i*sz+j))=some v:= λ i hi=>by
   obtain⟨cs,Vq,PF⟩:=XQ i hi;rw[kA]at Vq;obtain⟨_,_,Av⟩:=World.cells?_some Vq;obtain⟨x,rfl,hq⟩:=DQ PF;have aic:∀j,(a.add (i*sz)).add j=a.add (i*sz+j):= λ j=>by
    unfold Addr.add;by_cases vw:i*sz=0
    ·simp[vw]
    ·by_cases hj:j=0
     ·simp[vw,hj]
     ·simp[vw,hj,bh]
   refine⟨x,hq, λ j v hv=>?_⟩;have hj:=(aC.1 hv).1;rw[hlen]at hj;have:=Av j hj;rw[aic]at this;rw[this];exact hv
  obtain⟨q,hq⟩:=Go.Deep.choose_lt each;have hwl:=hw ((((List.range len).map D).length+((List.range (m - len)).map λ j=>D (len+j)).length)*Tryz.prog.bytesOf E) (by have e:=congrArg Prod.fst hx;simp only at e;rw[e];simp[DataW.weights,zO])
  rw[iL]at hwl;simp only[aR,List.length_range]at hwl;have hr:reachBytes<140737488355328:=by decide
  have hmr:m<=reachBytes:=aj (by rw[show len+(m - len)=m by omega];exact Nat.le_mul_of_pos_right _ cN) hwl;refine⟨some a,m,(List.range len).map q,by rw[aR,List.length_range];exact h1,?_,by simpa using hl,an, λ x jP=>?_⟩
  ·rcases eB len with h0|h0
   ·subst h0;exact .inl rfl
   ·have hsp:a.spot=none:=by
     obtain⟨v,hv⟩:∃v,(f (q 0))[0]? =some v:=⟨_,aB (by rw[hlen];exact Xa)⟩;have c0:=(hq 0 an).2 0 v hv;rw[cY,show a.add (0+0)=a from by simp[Addr.add]]at c0;unfold World.cell? at c0;split at c0
     ·split at c0
      ·cases c0
      ·rename_i hh;simpa using hh
     ·cases c0
    obtain⟨B,o,sp⟩:=a;simp only at hsp;subst hsp;refine .inr ⟨B,o,rfl, λ j x jP i u hu=>?_⟩;have hj:j<len:=by have:=(aC.1 jP).1;simpa using this
    rw[aW,List.getElem?_range hj]at jP;cases jP;have hh:=(hq j an).2 i u hu;simp only[kQ]at hh;rw[bh];exact hh
  ·obtain⟨i,hi,rfl⟩:=aM.1 jP;have hi:=dw.1 hi;refine⟨D i,(hq i an).1, λ n hn=>hw n ?_⟩;have e:=congrArg Prod.fst hx;simp only at e;rw[e,DataW.weights,zO];exact bM _ (cG _ (Sc (aM.2 ⟨i,dw.2 hi,rfl⟩) hn))
def knQ(x:Yo)(D:DataW H):Prop:=x.g<4294967296/\x.m<4294967296/\ -9223372036854775808<=x.n/\x.n<9223372036854775808/\∃y z u,D= .agg [.lit (.string x.id.data.toList),y,z,u]
theorem Sd(h:(Lit.int .u32 n).wf=true):∃k:Nat,n=(k:Int)/\k<4294967296:=by
 simp only[Lit.wf,bQ,decide_eq_true_eq]at h;have e1:IntKind.u32.min=0:=by decide
 have e2:IntKind.u32.max=4294967295:=by decide
 obtain⟨k,rfl⟩:=Int.eq_ofNat_of_zero_le (show 0<=n by omega);exact⟨k,rfl,an⟩
theorem QJ(h:(Lit.int .i64 n).wf=true): -9223372036854775808<=n/\n<9223372036854775808:=by
 simp only[Lit.wf,bQ,decide_eq_true_eq]at h;have e1:IntKind.i64.min= -9223372036854775808:=by decide
 have e2:IntKind.i64.max=9223372036854775807:=by decide
 omega
theorem QK{n:Nat}{x:DataW H×List MemPlace}(h:DataW.trod enc Tryz.prog W base spare held n 68 cs=some x):
 ∃d:Yo,cs=knR d/\knQ d x.1:=by
 obtain⟨y0,y1,y2,y3,m,hx,hl,h0,h1,h2,h3⟩:=Go.Joins.trod_struct4 Tryz.underlying68 h;rw[show Tryz.prog.cellsOf 68=5 by kernel_rfl]at hl
 match cs,hl with
 |[v0,v1,v2,v3,v4],_=>
  have g0:DataW.trod enc Tryz.prog W base spare held m 9 [v0]=some y0:=by simpa[show Tryz.prog.cellsOf 9=1 by kernel_rfl]using h0
  have g1:DataW.trod enc Tryz.prog W base spare held m 43 [v1,v2]=some y1:=by simpa[show Tryz.prog.cellsOf 43=2 by kernel_rfl]using h1
  have g2:DataW.trod enc Tryz.prog W base spare held m 4 [v3]=some y2:=by simpa[show Tryz.prog.cellsOf 4=1 by kernel_rfl]using h2
  have g3:DataW.trod enc Tryz.prog W base spare held m 2 [v4]=some y3:=by simpa[show Tryz.prog.cellsOf 2=1 by kernel_rfl]using h3
  obtain⟨z0,z1,k, -, -,i0,i1⟩:=Go.ChangeShapes.trod_struct2 Tryz.underlying43 g1;have j0:DataW.trod enc Tryz.prog W base spare held k 41 [v1]=some z0:=by simpa[show Tryz.prog.cellsOf 41=1 by kernel_rfl]using i0
  have j1:DataW.trod enc Tryz.prog W base spare held k 41 [v2]=some z1:=by simpa[show Tryz.prog.cellsOf 41=1 by kernel_rfl]using i1
  obtain⟨s,e0,rfl, -⟩:=DataW.trod_string Tryz.underlying9 g0;obtain⟨b2,e2,rfl⟩:=DataW.trod_bool Tryz.underlying4 g2;obtain⟨kn,e3,rfl,hk⟩:=iD Tryz.underlying2 g3;obtain⟨kg,e4,rfl,hg⟩:=iD Tryz.underlying41 j0;obtain⟨km,e5,rfl,hm⟩:=iD Tryz.underlying41 j1;cases e0;cases e2;cases e3;cases e4;cases e5;obtain⟨kg,rfl,jk⟩:=Sd hg;obtain⟨km,rfl,SC⟩:=Sd hm;exact⟨⟨s,kg,km,b2,kn⟩,rfl,jk,SC,(QJ hk).1,(QJ hk).2,_,_,_,by rw[hx]⟩
theorem Ys{n:Nat}{x:DataW H×List MemPlace}(h:DataW.trod enc Tryz.prog W base spare held n 3 cs=some x):
 ∃d:Int,cs=acu d/\ -9223372036854775808<=d/\d<9223372036854775808:=by
 obtain⟨k,e,rfl,hk⟩:=iD Tryz.underlying3 h;exact⟨k,e,QJ hk⟩
end
end
end Go.Proofs.YtbiififbfefkjaaGreatDoor

/- The store, part 25. -/
import Derived.Test.YtbiififbfefkjaaGreatDoorMAw
set_option linter.unusedSimpArgs false
set_option linter.unusedVariables false
set_option maxRecDepth 100000
set_option maxHeartbeats 16000000
namespace Go.Proofs.YtbiififbfefkjaaGreatDoor
open Go.RowKit Go.Shelf
variable{cs:Array Value}{ks all:List Nat}{n d c ca cf FL c' R B eE K k g q:Nat}{xs its AA ys:List aH}{ps eQ:List Piece}{W w V V' U:World}{p:Prop}{t:TypeId}{ds:List bX}
section
attribute [local go_sem] Oper.semAt_some
attribute [-go_sem] Builtin.append_
theorem abj{v0 v1 v2 v3 v4 v5 v6 v7:Value}(h:cs.size=8):eu cs 0 [v0,v1,v2,v3,v4,v5,v6,v7]=#[v0,v1,v2,v3,v4,v5,v6,v7]:=by
 obtain⟨l⟩:=cs
 match l,h with
 |[a0,a1,a2,a3,a4,a5,a6,a7],_=>simp[eu]
theorem iu(ps:List Piece)(pc:Piece):aw (ps++[pc])=aw ps++pc.2.1:=by simp[aw]
structure MkS(w V:World)(ik:List Nat)(eE:Nat)(b1:az)(c1:Nat)(jW:List Piece)(DD:Array Value)(q:az)(K k:Nat)(kids:List a8):Prop where
 at_:uS w V b1 c1 jW DD
 k8:DD.size=8
 ext:∃m,aw jW=ik++m
 len:K=kids.length
 row:V.ownsRow eE 144 8 (.slice q K k) K (kids.flatMap a8.cells)
 n1:w.heap.size+5<=eE
 nV:eE<=V.heap.size
 keys:∀x∈kids,ay w x.ka x.key
 uQ:∀g,q=some ⟨g,0,none⟩->fE g b1 jW
theorem RW{i m:Nat}(h:Gs n ks)(hi:ks[i]? =some m):(ks.take (i+1)).sum=(ks.take i).sum+m/\(ks.take i).sum+m<=n/\1<=m/\m<=6/\(6<n->3<=m)/\(n<=6->m=n):=by
 have e:(ks.take (i+1)).sum=(ks.take i).sum+m:=by rw[aL,hi];simp
 have hm:=ak hi;have h2:ks.sum=(ks.take (i+1)).sum+(ks.drop (i+1)).sum:=by rw[<-jL,bj]
 have h3:=h.sum;refine⟨e,an,(h.le6 m hm).1,(h.le6 m hm).2, λ h6=>h.three h6 m hm, λ h6=>?_⟩;have:=h.one h6;rw[this,aE]at hm;exact hm
theorem XM(fr m:Nat)(hS:ee (xs.map fF))(hr:cR ((xs.map fF).map Prod.fst)):ee (((xs.drop fr).take m).map fF)/\cR ((((xs.drop fr).take m).map fF).map Prod.fst):=by
 have e:xs.map fF=(xs.take fr).map fF++(((xs.drop fr).take m).map fF++(xs.drop (fr+m)).map fF):=by rw[<-aJ,<-aJ,<-lY,bj,bj]
 rw[e]at hS hr;exact⟨hS.app.2.app.1,(j6 (j6 hr).2).1⟩
theorem Qq(h:Gs n ks):ks.length<=n:=by
 have:∀l:List Nat,(∀k∈l,1<=k)->l.length<=l.sum:=by
  intro l
  induction l with
  |nil=>simp
  |cons y l ih=>intro h;have:=ih λ k hk=>h k (bM _ hk);have:=h y bD;simp;omega
 have h2:=this ks λ k hk=>(h.le6 k hk).1;rw[h.sum]at h2;exact h2
theorem hl8(ys:List a8):ys.length*8=(ys.flatMap a8.cells).length:=by
 induction ys with
 |nil=>rfl
 |cons y l ih=>rw[bf,ar,aK,y.fO,<-ih];omega
theorem ab0(h:Gs n ks)(h2:2<=n):1<=ks.length/\ks.length<n:=by
 rcases cX 6 n with h6|h6
 ·have:∀l:List Nat,(∀k∈l,3<=k)->3*l.length<=l.sum:=by
   intro l
   induction l with
   |nil=>simp
   |cons y l ih=>intro h;have:=ih λ k hk=>h k (bM _ hk);have:=h y bD;simp;omega
  have h3:=this ks (h.three h6);rw[h.sum]at h3;refine⟨?_,an⟩;rcases eB ks.length with h0|h0
  ·have:=h.sum;rw[cw.1 h0]at this;simp at this;omega
  ·exact h0
 ·rw[h.one h6];simp;omega
def ahX:Value->Nat
 | .slice _ n _=>n
 |_=>0
theorem aaK{a:Nat}{its:List KV}(h:fx (aw ps) a d n its)(dN:1<=its.length):ps≠[]:=by rintro rfl;obtain⟨_,_,nd,hs⟩:=h.some_ (by intro e;rw[e]at dN;simp at dN);obtain⟨_,_,_,pre,yU,e,_⟩:=hs.node.1;have h1:=congrArg List.length e;have h2:=gZ.2 (Re pre.length (xs:=ft nd.enc) oU);simp[aw]at h1;omega
theorem aaL{b:az}{G o:Nat}(h:aQ W b c ps)(dN:ps≠[])(e:b=some ⟨G,o,none⟩):G<W.heap.size:=by
 rcases h.pieces.1 with h0|⟨B2,o2,e2,hc⟩
 ·exact absurd h0 dN
 ·rw[e]at e2;cases e2;cases ps with
  |nil=>exact absurd rfl dN
  |cons p ps=>exact aZ W _ (hc 0 p rfl)
theorem xC(h:p:=by
 rcases bg hS.row with⟨h0,_⟩|⟨g2,cur,jk,_,hh⟩
 ·rw[hg]at h0;cases h0
 ·rw[hg]at jk;cases jk;exact aA (cS hh).1 ke.size
 ):p:=h
theorem Lg{b a fa:az}{fs:List Int}(hF:aQ w b c ps)(hm:Marks (aw ps))(ke:oP b c)(XN:∀G o,b=some ⟨G,o,none⟩->G<w.heap.size)(hI:ec w a xs)(mV:xs.length<=ca)(hS:ee (xs.map fF))(hr:cR ((xs.map fF).map Prod.fst))(h1:1<=xs.length)(hl:xs.length<=32)(Qr:rL w fa fs)(qH:fs.length<4611686018427387904)(gk:(aw ps).length+240*xs.length<=524288):
 Calls Tryz.prog 34 #[bN b ps.length c,.slice a xs.length ca,.slice fa fs.length cf,.agg Q2] w λ e w'=>∃(b':az) (c':Nat) (eQ:List Piece) (at_ d nC:Nat),e= .returned (.tuple #[bN b' eQ.length c',.agg (qt at_ d nC)])/\aQ w' b' c' eQ/\Marks (aw eQ)/\oP b' c'/\(∀G o,b'=some ⟨G,o,none⟩->G<w'.heap.size)/\(∃m,aw eQ=aw ps++m)/\(aw eQ).length<=(aw ps).length+240*xs.length/\fx (aw eQ) at_ d nC (xs.map fF)/\Below w w w':=by
 obtain⟨L,hL⟩:=bL xs.length;obtain⟨FL,ZE⟩:=bL fs.length;obtain⟨PL,RX⟩:=bL ps.length;have rY:(1:Int)<=(L:Int):=an;have afQ:(L:Int)<=32:=an;have ajv:(L:Int)<=(ca:Int):=an;have hL0:¬ (L:Int)=0:=an;have hLz:((L:Int)==0)=false:=dU;obtain⟨w4,kd⟩:=bL ((((w.alloc (.cells (fA b PL c) 31)).alloc (.cells Q2 107)).alloc (.cells kF 31)).alloc (.cells vp 35));obtain⟨w5,kY⟩:=bL (w4.alloc (.cells qq 144));have hM:uS w w5 b c ps qq:=by
  obtain⟨v2,mu⟩:=bL ((w.alloc (.cells (fA b PL c) 31)).alloc (.cells Q2 107));rw[kd,<-mu]at kY;have hz:v2.heap.size=w.heap.size+1+1:=by rw[mu];simp
  have hb:Below w w v2:=by rw[mu];go_grown
  obtain⟨e0,e1⟩:=bu (w2:=v2) oY;obtain⟨e2,e3,e4⟩:=gT (w2:=w5) (by rw[kY];exact gb);have zb:Below v2 v2 w5:=by rw[kY];go_grown
  rw[hz]at e2 e3 e4;rw[RX]at e0;have dV:=hb.T (zb.mono hb.size);exact⟨(zb.block _ an).T e0,(zb.block _ an).T e1,e2,e3,e4,tW _ cP,by rw[kY];simp;omega,dV,hF.below dV,hm,ke, λ G o e=>.inl (XN G o e)⟩
 have HM5:=ag hM;have HPA:=ag (λ (n:Nat) (g1:1<=n) (g2:n<=1000) (V:World) (hV:Below w w V)=>Qj cf n (Qr.below hV) g1 g2 qH);have HI:=hI6 hI hS hr hL hl gk;have tn:Hid (FL=fs.length):=ag ZE;have Aj:=ag kd;have Hv:=ag kY;have HP1:=ag (λ (V:World) (hV:Below w w V)=>show Calls Tryz.prog 60 #[.int .i64 (L:Int),.slice fa FL cf] V _ from by rw[ZE];exact HPA.O L an an V hV);have HPW:=ag (HP1.O w5 hM.lV);rw[kY,kd]at HPW;rw[<-hL,<-ZE,<-RX];clear hF hm ke XN hI mV hS hr h1 hl Qr qH gk kd kY hL ZE RX hM;unfold bN;go_enter Tryz.func34,Tryz.ntmps34
 go_wp2_with first
  |((with_reducible refine HPW.O.mono ?_);rintro e V0 ⟨ks,kq,kk,LM,rfl,JR,PZ⟩;rw[<-Aj.O,<-Hv.O]at JR PZ)
  |fail
 obtain⟨M,hM⟩:=bL ks.length;have afR:M<=32:=cm (Qq LM);have hMi:(M:Int)<=32:=an;have zg:=eS LM hM afR;rw[<-hM]at JR⊢;have hz5:w5.heap.size=w.heap.size+5:=by
  have e4:w4.heap.size=w.heap.size+1+1+1+1:=by rw[Aj.O];simp
  rw[Hv.O];simp[e4]
 have DE:=ag hz5;have LK:Hid (MkS w V0 (aw ps) w5 b c ps qq none 0 0 []/\V0.ownsRow w5 3 1 (.slice kq M kk) M (nG ks)):=ag ⟨⟨HM5.O.below PZ,rfl,⟨[],(cj _).symm⟩,rfl,⟨rfl,.inl ⟨rfl,rfl⟩⟩,an,PZ.size,cP, λ g e=>fS⟩,JR⟩;clear LM hM afR JR PZ hz5
 go_loopw [10,12,13,32] (λ kv nv fv iv wr=>∃(i nu fr:Nat) (q:az) (K k:Nat),i<=M/\iv= .int .i64 (i:Int)/\nv= .int .i64 (nu:Int)/\fv= .int .i64 (fr:Int)/\kv= .slice q K k/\Hid (∃(b1:az) (c1:Nat) (jW:List Piece) (DD:Array Value) (kids:List a8),MkS w wr (aw ps) w5 b1 c1 jW DD q K k kids/\fr=(ks.take i).sum/\K=i/\nu=i/\cq (Lf (aw jW) 0 (decide (6<L))) kids ((xs.take fr).map fF)/\(aw jW).length+160*K<=(aw ps).length+240*fr/\wr.ownsRow w5 3 1 (.slice kq M kk) M (nG ks))) (λ _ _ _ iv _=>M - (intOf iv).toNat)
 case atStart=>exact⟨0,0,0,none,0,0,aD _,rfl,rfl,rfl,rfl,ag ⟨b,c,ps,qq,[],LK.O.1,by simp,rfl,rfl,rfl,by simp,LK.O.2⟩⟩
 case round=>
  obtain⟨i,nu,fr,q,K,k,hi,rfl,rfl,rfl,rfl,ma⟩:=hrel;obtain⟨b1,c1,jW,DD,kids,hS,nH,hKi,XO,oK,mJ,JR⟩:=ma.O;by_cases cL:i<M
  ·obtain⟨m,hm⟩:∃m,ks[i]? =some m:=⟨_,aB (cm zg.O.2.1)⟩;obtain⟨p1,p2,p3,p4,p5,p6⟩:=RW zg.O.1 hm;rw[<-nH]at p1 p2;obtain⟨kg,hkq⟩:∃kg,kq=some ⟨kg,0,none⟩:=by
    rcases bg JR with⟨_,h0,_⟩|⟨g,cur,hg,_⟩
    ·omega
    ·exact⟨g,hg⟩
   subst hkq;have hmc:wr.cell? ⟨kg,i,none⟩=some (.int .i64 (m:Int)):=kK JR i _ ET;obtain⟨B,o,ha,XP⟩:∃B o,a=some ⟨B,o,none⟩/\∀V,Below w w V->ec V (some ⟨B,o+fr*4,none⟩) ((xs.drop fr).take m):=by
    obtain⟨B,o,e⟩:=(kN.1 HI.O.1).1.some_ (cm HI.O.2.2.2.1);refine⟨B,o,e, λ V hV=>kN.2 ⟨?_, λ x hx=>?_⟩⟩
    ·have h:=(kN.1 HI.O.1).1;rw[e]at h;exact cV.below ((h.drop fr).take m) hV
    ·have jP:=HI.O.1.2 x (bm (aP hx));exact⟨jP.1.below hV,jP.2.below hV⟩
   subst ha;obtain⟨sub,jn⟩:=bL ((xs.drop fr).take m);have zO:sub.length=m:=by rw[jn,aX,bC];have:=HI.O.2.2.2.1;omega
   obtain⟨jN,Lh⟩:=XM fr m HI.O.2.1 HI.O.2.2.1;rw[<-jn]at jN Lh XP;have Ov:(Nd.leaf sub).Ok:=KN an an jN Lh;obtain⟨x0,tm⟩:∃x0,sub[0]? =some x0:=⟨_,aB an⟩;obtain⟨key,gN⟩:=bL x0.key;have As:(Nd.leaf sub).keys[0]? =some key:=by show(sub.map aH.key)[0]? =_;rw[aW,tm,gN];rfl
   have XQ:=FQ sub jN;have XR:1<=(dc sub).length:=by unfold dc;simp
   have hlc:=FP (dc sub) (aw jW).length m p3 an;obtain⟨wn,hwn⟩:=bL (wr.alloc (.cells (pF (some ⟨B,o+fr*4,none⟩) m (ca - fr)) 147));have ke:Below wr wr wn:=by rw[hwn];go_grown
   have G3:Hid (uS w wn b1 c1 jW DD):=ag (hS.at_.below ke);have hrn:wn.rangeAt wr 0 (pF (some ⟨B,o+fr*4,none⟩) m (ca - fr)):=by rw[hwn];exact aF (ai _ _)
   have hw:=Gr (n:=Nd.leaf sub) (k:=ca - fr) G3.O.file G3.O.marks G3.O.vj (XP wn G3.O.lV) Ov As nu XR (by show(dc sub).length<=4096;omega) (by show(aw jW).length+(ed (aw jW).length (ft (dc sub))).length<=524288;have:=HI.O.2.2.2.2.2;have:=HI.O.2.2.2.1;omega);have hve:(Nd.leaf sub).v (some ⟨B,o+fr*4,none⟩) (ca - fr)= .agg (pF (some ⟨B,o+fr*4,none⟩) m (ca - fr)):=by show Value.agg #[.bool true,.slice (some ⟨B,o+fr*4,none⟩) sub.length (ca - fr),.slice none 0 0]=_;rw[zO]
   rw[hve]at hw;obtain⟨L1,rY⟩:=bL jW.length;obtain⟨nb,Jq⟩:=bL (db (aw jW).length);obtain⟨kl,Mi⟩:=bL key.length;obtain⟨rd,AT⟩:=bL ((Nd.leaf sub).red);obtain⟨ka,Ah⟩:=bL ((Nd.leaf sub).UM);unfold a8.v bN at hw;dsimp only at hw;rw[<-rY,<-Jq,<-Mi,<-AT,<-Ah]at hw;have LP:ay w ka key:=by
    have jP:x0∈xs:=bm (aP (by rw[jn]at tm;exact ak tm));rw[Ah,gN];cases hs:sub with
    |nil=>rw[hs]at tm;cases tm
    |cons y l=>
     rw[hs]at tm;cases tm;exact(HI.O.1.2 _ jP).1
   have hws:∀IS,Lf (aw jW++ed (aw jW).length (ft (dc sub))) 0 (decide (6<L)) ⟨ka,key,IS,nb,rd⟩ (sub.map fF):= λ IS=>by
    rw[Ah,Jq,AT];exact aaI _ an an jN Lh (λ e=>cm (p5 (of_decide_eq_true e))) (λ y hy=>by
     unfold dc at hy;simp only[aO,ck]at hy;rcases hy with h1|h1|⟨x,hx,hy⟩
     ·omega
     ·omega
     ·have jP:x∈xs:=bm (aP (by rw[jn]at hx;exact hx));exact Eu x (Ov.1.key x hx).2.1 (Ov.1.key x hx).2.2 (HI.O.1.2 x jP).1.1 (HI.O.1.2 x jP).2.1 y hy) As _ _
   have Nj:(xs.take (fr+m)).map fF=(xs.take fr).map fF++sub.map fF:=by rw[List.take_add,aJ,jn]
   have rB:=hI9 p1 hKi XO hws Nj oK mJ hlc LP;have HRN:=dO (dC.row ke hS.row) (dC.row ke JR);have Ue:Hid (∀g,q=some ⟨g,0,none⟩->g<wn.heap.size):=ag λ g hg=>by exact xC
   have HS:=ag hS;have JS:Hid (DD.size=8):=ag hS.k8;have HKI:Hid (K<=32/\fr+m<=32):=ag ⟨by have:=zg.O.2.2;omega,an⟩;have HKL:=ag Mi;have HL1:=ag rY;have u0:=(af G3.O.hu 0).T rfl;have u1:=(af G3.O.hu 1).T rfl;simp only[cW]at u0 u1;have hrf:=aF G3.O.f;have hrh:=aF G3.O.hu;rw[<-rY]at hrf;have hfi:(fr:Int)+(m:Int)<=(ca:Int):=an;have hfc:(fr:Int)<(ca:Int):=an;have zH:(1:Int)<=(m:Int):=an;have RK:(m:Int)<=6:=an;have aeF:(fr:Int)<=32:=an;have aeG:(nu:Int)<=32:=cm zg.O.2.2;have ahY:fr+m - fr=m:=an;have ahZ:(i:Int)<(M:Int):=an;have ah0:¬ ca - fr=0:=an;have ah1:¬ ca<=fr:=an;have HWN:=ag hwn;have HW:=hw;rw[hwn]at HW hrn hrf hrh u0 u1;have HWR:=ag HW;clear HW hw hws Nj p1 p2 p3 p4 p5 p6 hm ma hS nH hKi XO oK mJ JR XP jn zO jN Lh Ov tm gN As XQ XR hlc hwn ke hve rY Jq Mi AT Ah LP cL ah0
   go_wp2_with first
   |(refine dG 31 ?_)
   |(refine dG 147 ?_)
   |(refine dG 107 ?_)
   |(refine dG 144 ?_)
   |((with_reducible refine HWR.O.mono ?_);rintro e V1 ⟨B2,c2,pc,IS,rfl,hF2,vY, -,Uf,Ug,mu⟩;rw[<-HWN.O]at Uf Ug mu;have HM1:=ag (G3.O.below mu);have vJ:=G2 hF2 vY Uf Ug mu;clear hF2 vY Uf Ug mu)
   |(refine lz 31 (fA (zp B2) (L1+1) c2) (by have:=HM1.O.f;rwa [<-HL1.O]at this) (λ V2 h1 h2 h3=>?_);have HM2:Hid (uS w V2 (zp B2) c2 (jW++[pc]) DD):=ag (HM1.O.acw vJ.O.1 EU (.inr ⟨_,_,rfl⟩) (λ G o e=>by cases e;have:=vJ.O.2.2.1;have:=G3.O.lt;omega) EV (λ j hj=>h2 j hj) (h3 w w (cH) HM1.O.lV));have Nf:=ag (λ j (hj:w.heap.size+5<=j)=>h2 j an);clear h1 h2 h3)
   |(refine fT 144 rfl _ _ rfl (w+1+1+1+1) 0 DD (jl ka kl IS nb rd) 144 rfl rfl HM2.O.k (by rw[JS.O];exact cH) bU bz (λ V3 h1 h2 h3=>?_);rw[abj JS.O]at h1;have HM3:Hid (uS w V3 (zp B2) c2 (jW++[pc]) (jl ka kl IS nb rd)):=ag (HM2.O.afP (tW _ cP) h1 (λ j hj=>h2 j hj) (h3 w w an HM2.O.lV));have HK3:=ag (λ j (hj:w.heap.size+5<=j)=>(h2 j an).T (Nf.O j hj));have hrk:=aF h1;have XS:=dC.row vJ.O.2.2.2.2 HRN.O.1;have Ow:=pE XS λ g _ hg _=>HK3.O g (cm DE.O);have Qs:=pE (dC.row vJ.O.2.2.2.2 HRN.O.2) λ g _ hg _=>HK3.O g (cm DE.O);obtain⟨g4,k4,V4,lu,US,yX,ha4,uh,UT⟩:=XL (a8.mk ka key IS nb rd) HM3.O Ow HS.O.n1 (iX HM3.O.lt DE.O) HS.O.len (cm HKI.O) (λ g hg=>(HS.O.uQ g hg).snoc (λ p e=>by cases e;exact vJ.O.2.2.1) vJ.O.2.2.2.1 (Ue.O g hg));have DT:(Builtin.append_ #[142,142] 142 (fP q K k (zp V3) 1 1)).run Tryz.prog (V3.alloc (.cells (jl ka kl IS nb rd) 144))= .ok (.slice (zp g4) (K+1) k4) V4:=by
      have:=lu;unfold a8.cells at this;dsimp only at this
      rwa [<-HKL.O]at this
     have XT:=pE Qs λ g hg _ cL=>UT g cL (by
      cases hg;rcases bg Qs with⟨h0,_⟩|⟨g2,cur,jk,_,hh⟩
      ·cases h0
      ·cases jk;exact FX Ow hh de)
     have HN:=G2 US yX ha4 (show w5.heap.size<=V4.heap.size by have:=US.lt;have:=DE.O;omega) XT;clear XS Ow Qs lu US yX ha4 uh UT XT;clear h1 h2 h3)
   |fail
   refine⟨⟨i+1,nu+1,fr+m,some ⟨g4,0,none⟩,K+1,k4,an,by simp,by simp,by simp,rfl,ag ⟨some ⟨B2,0,none⟩,c2,jW++[pc],(jl ka kl IS nb rd),kids++[⟨ka,key,IS,nb,rd⟩],⟨HN.O.1,rfl,?_,by have:=HS.O.len;simp;omega,HN.O.2.1,HS.O.n1,HN.O.2.2.2.1, λ x hx=>?_, λ g hg=>by cases hg;exact HN.O.2.2.1⟩,rB.O.1.symm,by have:=rB.O.2.1;omega,by have:=rB.O.2.2.1;omega,?_,?_,HN.O.2.2.2.2⟩⟩,by simp[intOf];omega⟩
   ·obtain⟨mm,he⟩:=HS.O.ext;exact⟨mm++pc.2.1,by rw[iu,he,aS]⟩
   ·rcases aG.1 hx with hx|hx
    ·exact HS.O.keys x hx
    ·rw[aE]at hx;subst hx;exact rB.O.2.2.2.2.2.2.2.2
   ·rw[iu,vJ.O.2.1,rB.O.2.2.2.2.1];exact RU (RT rB.O.2.2.2.2.2.1 _) (rB.O.2.2.2.1 IS)
   ·rw[iu,ar,vJ.O.2.1];have h1:=rB.O.2.2.2.2.2.2.1;have h2:(ed (aw jW).length (ft (Nd.leaf sub).enc)).length<=80*m:=rB.O.2.2.2.2.2.2.2.1;omega
  ·obtain rfl:i=M:=an;have vW:¬ (i:Int)<(i:Int):=an;have hfL:fr=L:=by rw[nH,zg.O.2.1,bd];exact zg.O.1.sum
   have HT2:Hid (∃(b1:az) (c1:Nat) (jW:List Piece) (DD:Array Value) (kids:List a8) (DC:Bool),MkS w wr (aw ps) w5 b1 c1 jW DD q K k kids/\cq (Lf (aw jW) 0 DC) kids (xs.map fF)/\(2<=K->DC=true)/\(aw jW).length+160*K<=(aw ps).length+240*L/\nu+2*K<=3*L/\0+K<=64):=ag ⟨b1,c1,jW,DD,kids,decide (6<L),hS,by rw[hfL,aY (cm HI.O.2.2.2.1)]at oK;exact oK, λ h2=>by refine decide_eq_true (kT λ h6=>?_);have:=congrArg List.length (zg.O.1.one h6);rw[gu]at this;have:=zg.O.2.1;omega,by rw[hfL]at mJ;exact mJ,by have:=zg.O.2.2;have:=Qq zg.O.1;have:=zg.O.2.1;omega,by have:=zg.O.2.2;omega⟩
   have hKp:1<=K:=by
    have:1<=i:=by
     rcases eB i with h0|h0
     ·rw[h0]at nH;simp at nH;omega
     ·exact h0
    omega
   clear ma hS nH XO oK mJ JR hfL cL hKi hi
   go_wp2_with fail
   go_loopw [10,12,17] (λ kv nv dv wr=>∃(nu d:Nat) (q:az) (K k:Nat),1<=K/\nv= .int .i64 (nu:Int)/\dv= .int .i64 (d:Int)/\kv= .slice q K k/\Hid (∃(b1:az) (c1:Nat) (jW:List Piece) (DD:Array Value) (kids:List a8) (DC:Bool),MkS w wr (aw ps) w5 b1 c1 jW DD q K k kids/\cq (Lf (aw jW) d DC) kids (xs.map fF)/\(2<=K->DC=true)/\(aw jW).length+160*K<=(aw ps).length+240*L/\nu+2*K<=3*L/\d+K<=64)) (λ kv _ _ _=>ahX kv)
   case atStart=>exact⟨nu,0,q,K,k,hKp,rfl,rfl,rfl,HT2⟩
   case round=>
    clear HT2 hKp;obtain⟨nu,d,q,K,k,hKp,rfl,rfl,rfl,ma⟩:=hrel;obtain⟨b1,c1,jW,DD,kids,DC,hS,oK,Ip,mJ,XO,hd⟩:=ma.O;by_cases cL:1<K
    ·have ajw:(1:Int)<(K:Int):=an;have ajx:(K:Int)<=64:=an;obtain⟨K1,hK1⟩:=bL K;have sk:=Ip an;subst sk;have LS:=HPA.O K an an wr hS.at_.lV;rw[<-tn.O]at LS;have LS:=ag LS;obtain⟨BD,Ox⟩:=bL kids;obtain⟨ga,hqa⟩:∃ga,q=some ⟨ga,0,none⟩:=by
      rcases bg hS.row with⟨_,h0,_⟩|⟨g,cur,hg,_⟩
      ·omega
      ·exact⟨g,hg⟩
     have RY:=lQ hS.row;have hga:ga<wr.heap.size:=by
      rcases bg hS.row with⟨h0,_⟩|⟨g,cur,hg,_,hh⟩
      ·rw[hqa]at h0;cases h0
      ·rw[hqa]at hg;cases hg;exact(cS hh).1
     subst hqa;have Ib:=hI9 hS (aaJ oK) mJ XO hd hga RY hK1 Ox;clear ma hS oK Ip mJ XO hd cL RY hga hK1
     go_wp2_with first
      |((with_reducible refine LS.O.mono ?_);rintro e V0 ⟨ks,kq,kk,LM,rfl,JR,PZ⟩)
      |fail
     obtain⟨M,hM⟩:=bL ks.length;have afS:M<=64:=cm (Qq LM);have hMi:(M:Int)<=64:=an;have zg:=eS LM hM afS;rw[<-hM]at JR⊢;obtain⟨N1,TU⟩:=bL V0.heap.size;have afT:w5.heap.size<=wr.heap.size:=iX Ib.O.1.at_.lt DE.O;have G4:Hid (MkS w V0 (aw ps) N1 b1 c1 jW DD none 0 0 []/\V0.ownsRow w5 3 1 (.slice kq M kk) M (nG ks)/\V0.ownsRow w5 144 8 (.slice (zp ga) K k) K (BD.flatMap a8.cells)):=ag ⟨⟨Ib.O.1.at_.below PZ,Ib.O.1.k8,Ib.O.1.ext,rfl,⟨rfl,.inl ⟨rfl,rfl⟩⟩,by have:=Ib.O.1.at_.lt;have:=PZ.size;omega,an,cP, λ g e=>fS⟩,me JR afT,by have:=dC.row PZ Ib.O.1.row;rw[Ox];exact this⟩;have HGA:Hid (ga<N1):=ag (iX Ib.O.2.2.2.2.2.1 PZ.size);have Xf:Hid (∀V1 V3:World,N1<=V1.heap.size->(∀j,w.heap.size+5<=j->V3.heap[j]? =V1.heap[j]?)->N1<=V3.heap.size):=ag λ V1 V3 h1 h2=>by
      have h5:w.heap.size+5<=wr.heap.size:=Ib.O.1.at_.lt;have hv:=PZ.size;rcases cX (w+5) N1 with h6|h6
      ·have h3:=h2 (N1 - 1) an;rw[br (show N1 - 1<V1.heap.size by omega)]at h3;have:=(cS h3).1;omega
      ·exfalso;have:=Ib.O.2.2.2.2.2.1;rcases bg Ib.O.1.row with⟨h0,_⟩|⟨g,cur,hg,hn,hh⟩
       ·cases h0
       ·cases hg;have:=DE.O;omega
     clear LM hM afS JR PZ afT TU
     go_loopw [10,12,13,98] (λ kv nv fv iv wr=>∃(i nu fr:Nat) (q:az) (K' k':Nat),i<=M/\iv= .int .i64 (i:Int)/\nv= .int .i64 (nu:Int)/\fv= .int .i64 (fr:Int)/\kv= .slice q K' k'/\Hid (∃(b1:az) (c1:Nat) (jW:List Piece) (DD:Array Value) (kids:List a8) (ia ib:List KV),MkS w wr (aw ps) N1 b1 c1 jW DD q K' k' kids/\fr=(ks.take i).sum/\K'=i/\cq (Lf (aw jW) (d+1) (decide (6<K))) kids ia/\cq (wQ (aw jW) d) (BD.drop fr) ib/\xs.map fF=ia++ib/\(aw jW).length+160*K'+160*K<=(aw ps).length+240*L+160*fr/\nu+2*K'+2*K<=3*L+2*fr/\wr.ownsRow w5 3 1 (.slice kq M kk) M (nG ks)/\wr.ownsRow w5 144 8 (.slice (zp ga) K k) K (BD.flatMap a8.cells))) (λ _ _ _ iv _=>M - (intOf iv).toNat)
     case atStart=>exact⟨0,nu,0,none,0,0,aD _,rfl,rfl,rfl,rfl,ag ⟨b1,c1,jW,DD,[],[],xs.map fF,G4.O.1,by simp,rfl,rfl,by rw[List.drop_zero,Ox];exact Ib.O.2.1,rfl,by have:=Ib.O.2.2.1;omega,by have:=Ib.O.2.2.2.1;omega,G4.O.2.1,G4.O.2.2⟩⟩
     case round=>
      obtain⟨i,nu,fr,q,K',k',hi,rfl,rfl,rfl,rfl,ma⟩:=hrel;obtain⟨b1,c1,jW,DD,kids,ia,ib,hS,nH,hKi,hsa,To,kz,mJ,XO,JR,har⟩:=ma.O;have hKl:K=BD.length:=by rw[Ox];exact Ib.O.1.len
      by_cases cL:i<M
      ·obtain⟨m,hm⟩:∃m,ks[i]? =some m:=⟨_,aB (cm zg.O.2.1)⟩;obtain⟨p1,p2,p3,p4,p5,p6⟩:=RW zg.O.1 hm;rw[<-nH]at p1 p2;have SC:2<=m:=by
        rcases cX 6 K with h6|h6
        ·have:=p5 h6;omega
        ·have:=p6 h6;omega
       obtain⟨kg,hkq⟩:∃kg,kq=some ⟨kg,0,none⟩:=by
        rcases bg JR with⟨_,h0,_⟩|⟨g,cur,hg,_⟩
        ·omega
        ·exact⟨g,hg⟩
       subst hkq;have hmc:wr.cell? ⟨kg,i,none⟩=some (.int .i64 (m:Int)):=kK JR i _ ET;obtain⟨sub,jn⟩:=bL ((BD.drop fr).take m);have zO:sub.length=m:=by rw[jn,aX,bC];omega
       have LQ:BD.drop fr=sub++BD.drop (fr+m):=by rw[jn,<-lY,bj]
       have adI:=To;rw[LQ]at adI;obtain⟨si,ib2,gC,lH,hib⟩:=cq.app.1 adI;have Rg:=HI.O.2.1;have hxr:=HI.O.2.2.1;have hxl:(xs.map fF).length<=32:=by rw[aR];exact HI.O.2.2.2.2.1
       rw[kz,hib]at Rg hxr hxl;have jN:=Rg.app.2.app.1;have Lh:=(j6 (j6 hxr).2).1;have hsi:si.length<=1000:=by simp only[ar]at hxl;omega
       have jB:=hS.at_.file.small;obtain⟨Ov,hsk,vx⟩:=Ez an an gC jN Lh hsi jB;have RZ:∀x∈sub,x∈BD:= λ x hx=>by rw[jn]at hx;exact bm (aP hx)
       have acx:∀x∈BD,ay w x.ka x.key:= λ x hx=>Ib.O.1.keys x (by rw[<-Ox];exact hx);obtain⟨x0,tm⟩:∃x0,sub[0]? =some x0:=⟨_,aB an⟩;obtain⟨key,gN⟩:=bL x0.key;have As:(Nd.inner sub).keys[0]? =some key:=by show(sub.map a8.key)[0]? =_;rw[aW,tm,gN];rfl
       have XQ:=Cx sub hsk;have XR:1<=(cz sub).length:=by unfold cz;simp
       have hlc:=FP (cz sub) (aw jW).length m an an;have Ko:Below wr wr (wr.alloc (.cells #[] 144)):=by go_grown
       have Ak:cV a8.cells 8 (wr.alloc (.cells #[] 144)) (some ⟨ga,0+fr*8,none⟩) sub:=by rw[jn];exact cV.below (((cV.kM (n₀:=w5.heap.size) (e:=144) har a8.fO de).drop fr).take m) Ko
       have adJ:=Ak.src (.inr ⟨ga,0+fr*8,rfl⟩) a8.fO de;rw[zO,aN]at adJ;obtain⟨r,kr,wn,ID,hrr,Y7⟩:=mg (P:=Tryz.prog) (cc:=k - fr) 142 144 (.agg qq) 8 80 bU Ou rfl de (W:=wr.alloc (.cells #[] 144)) (n₀:=wr.heap.size) (k:=0) (c:=0) (a:=some ⟨wr.heap.size,0,none⟩) (xs:=[]) (by rw[<-hl8 sub,zO]) adJ (λ u hu=>by obtain⟨y,_,hu⟩:=ck.1 hu;exact y.pq u hu) ⟨rfl,.inr ⟨wr.heap.size,0,#[],rfl,cH,ai _ _,an,by simp[maxLen],by simp,by simp⟩⟩ an an Ko.size (λ e=>by cases e);rw[aN,bn]at hrr;rw[aN]at ID Y7;have ke:Below wr wr wn:=Ko.T Y7.below;obtain⟨gr,CS⟩:∃gr,r=some ⟨gr,0,none⟩:=by
        rcases bg hrr with⟨_,h0,_⟩|⟨g,cur,hg,_⟩
        ·omega
        ·exact⟨g,hg⟩
       subst CS;have G3:Hid (uS w wn b1 c1 jW DD):=ag (hS.at_.below ke);have afU:kJ wn (zp gr) sub:=⟨cV.kM (n₀:=wr.heap.size) (e:=144) hrr a8.fO de, λ x hx=>(acx x (RZ x hx)).below G3.O.lV⟩;have hw:=Gr (n:=Nd.inner sub) (k:=kr) G3.O.file G3.O.marks G3.O.vj afU Ov As nu XR (by show(cz sub).length<=4096;omega) (by show(aw jW).length+(ed (aw jW).length (ft (cz sub))).length<=524288;have:=HI.O.2.2.2.2.2;have:=HI.O.2.2.2.1;omega);have hve:(Nd.inner sub).v (zp gr) kr= .agg (pU (zp gr) m kr):=by show Value.agg #[.bool false,.slice none 0 0,.slice (zp gr) sub.length kr]=_;rw[zO]
       rw[hve]at hw;obtain⟨L1,rY⟩:=bL jW.length;obtain⟨nb,Jq⟩:=bL (db (aw jW).length);obtain⟨kl,Mi⟩:=bL key.length;obtain⟨rd,AT⟩:=bL ((Nd.inner sub).red);obtain⟨ka,Ah⟩:=bL ((Nd.inner sub).UM);unfold a8.v bN at hw;dsimp only at hw;rw[<-rY,<-Jq,<-Mi,<-AT,<-Ah]at hw;have LP:ay w ka key:=by
        have jP:=RZ x0 (ak tm);rw[Ah,gN];cases hs:sub with
        |nil=>rw[hs]at tm;cases tm
        |cons y l=>
         rw[hs]at tm;cases tm;exact acx _ jP
       have hws:∀IS,Lf (aw jW++ed (aw jW).length (ft (cz sub))) (d+1) (decide (6<K)) ⟨ka,key,IS,nb,rd⟩ si:= λ IS=>by
        rw[Ah,Jq,AT];exact XK an an gC jN Lh hsi jB (λ e=>cm (p5 (of_decide_eq_true e))) (λ y hy=>by
         unfold cz at hy;simp only[aO,ck]at hy;rcases hy with h1|h1|⟨x,hx,hy⟩
         ·omega
         ·omega
         ·exact Ev x (Ov.key x hx).2.1 (acx x (RZ x hx)).1 y hy) As _ _
       have rB:=ag (Sm p1 (Sm hKi (Sm XO (Sm hws (Sm lH (Sm hsa (Sm mJ (Sm hlc (Sm LP (show xs.map fF=(ia++si)++ib2 by rw[kz,hib,aS]))))))))));have HRN:=eS (dC.row ke hS.row) (dC.row ke JR) (dC.row ke har);have Ue:Hid (∀g,q=some ⟨g,0,none⟩->g<wn.heap.size):=ag λ g hg=>by exact xC
       have HNB:Hid (N1<=wn.heap.size):=ag (aj hS.nV ke.size);have HS:=ag hS;have JS:Hid (DD.size=8):=ag hS.k8;have HKI:Hid (K'<=64/\fr+m<=64/\m>=2):=ag ⟨by have:=zg.O.2.2;omega,an,SC⟩;have HKL:=ag Mi;have HL1:=ag rY;have u0:=(af G3.O.hu 0).T rfl;have u1:=(af G3.O.hu 1).T rfl;simp only[cW]at u0 u1;have hrf:=aF G3.O.f;have hrh:=aF G3.O.hu;rw[<-rY]at hrf;have RY:=Ib.O.2.2.2.2.2.2.1;have hfi:(fr:Int)+(m:Int)<=(k:Int):=an;have hfc:(fr:Int)<(k:Int):=an;have zH:(1:Int)<=(m:Int):=an;have RK:(m:Int)<=6:=an;have aeF:(fr:Int)<=64:=an;have aeG:(nu:Int)<=300:=an;have ahY:fr+m - fr=m:=an;have ahZ:(i:Int)<(M:Int):=an;have ah1:¬ k<=fr:=an;have HWR:=ag hw;clear hw hws p1 p2 p3 p4 p5 p6 hm ma hS nH hKi XO mJ JR har jn zO LQ To adI hsa gC lH hib kz Rg hxr hxl jN Lh hsi jB Ov hsk vx RZ acx tm gN As XQ XR hlc Ko Ak adJ hrr Y7 ke afU hve rY Jq Mi AT Ah LP cL RY SC hKl
       go_wp2_with first
       |(refine dG 31 ?_)
       |(refine dG 147 ?_)
       |(refine dG 107 ?_)
       |(refine dG 144 ?_)
       |((with_reducible refine HWR.O.mono ?_);rintro e V1 ⟨B2,c2,pc,IS,rfl,hF2,vY, -,Uf,Ug,mu⟩;have HM1:=ag (G3.O.below mu);have vJ:=G2 hF2 vY Uf Ug mu;clear hF2 vY Uf Ug mu)
       |(refine lz 31 (fA (zp B2) (L1+1) c2) (by have:=HM1.O.f;rwa [<-HL1.O]at this) (λ V2 h1 h2 h3=>?_);have HM2:Hid (uS w V2 (zp B2) c2 (jW++[pc]) DD):=ag (HM1.O.acw vJ.O.1 EU (.inr ⟨_,_,rfl⟩) (λ G o e=>by cases e;have:=vJ.O.2.2.1;have:=G3.O.lt;omega) EV (λ j hj=>h2 j hj) (h3 w w (cH) HM1.O.lV));have Nf:=ag (λ j (hj:w.heap.size+5<=j)=>h2 j an);clear h1 h2 h3)
       |(refine fT 144 rfl _ _ rfl (w+1+1+1+1) 0 DD (jl ka kl IS nb rd) 144 rfl rfl HM2.O.k (by rw[JS.O];exact cH) bU bz (λ V3 h1 h2 h3=>?_);rw[abj JS.O]at h1;have HM3:Hid (uS w V3 (zp B2) c2 (jW++[pc]) (jl ka kl IS nb rd)):=ag (HM2.O.afP (tW _ cP) h1 (λ j hj=>h2 j hj) (h3 w w an HM2.O.lV));have HK3:=ag (λ j (hj:w.heap.size+5<=j)=>(h2 j an).T (Nf.O j hj));have hrk:=aF h1;have XS:=dC.row vJ.O.2.2.2.2 HRN.O.1;have Ow:=pE XS λ g _ hg _=>HK3.O g (cm HS.O.n1);have Qs:=pE (dC.row vJ.O.2.2.2.2 HRN.O.2.1) λ g _ hg _=>HK3.O g (cm DE.O);have afV:=pE (dC.row vJ.O.2.2.2.2 HRN.O.2.2) λ g _ hg _=>HK3.O g (cm DE.O);have adK:N1<=V3.heap.size:=Xf.O V1 V3 (aj HNB.O vJ.O.2.2.2.2.size) (λ j hj=>HK3.O j hj);obtain⟨g4,k4,V4,lu,US,yX,ha4,uh,UT⟩:=XL (a8.mk ka key IS nb rd) HM3.O Ow HS.O.n1 adK HS.O.len (cm HKI.O) (λ g hg=>(HS.O.uQ g hg).snoc (λ p e=>by cases e;exact vJ.O.2.2.1) vJ.O.2.2.2.1 (Ue.O g hg));have DT:(Builtin.append_ #[142,142] 142 (fP q K' k' (zp V3) 1 1)).run Tryz.prog (V3.alloc (.cells (jl ka kl IS nb rd) 144))= .ok (.slice (zp g4) (K'+1) k4) V4:=by
          have:=lu;unfold a8.cells at this;dsimp only at this
          rwa [<-HKL.O]at this
         have XT:=pE Qs λ g hg _ cL=>UT g cL (by
          cases hg;rcases bg Qs with⟨h0,_⟩|⟨g2,cur,jk,_,hh⟩
          ·cases h0
          ·cases jk;exact FX Ow hh de)
         have afW:=pE afV λ g hg _ cL=>UT g cL (by
          cases hg;intro e;rcases bg Ow with⟨h0,_⟩|⟨g2,cur,jk,pI,hh⟩
          ·rw[h0]at e;simp[Value.ownBlock]at e
          ·rw[jk]at e;have:g2=ga:=by simpa[Value.ownBlock]using e
           have:=HGA.O;omega)
         have HN:=hI6 US yX ha4 (aj adK uh) XT afW;clear XS Ow Qs afV adK lu US yX ha4 uh UT XT afW;clear h1 h2 h3)
       |fail
       refine⟨⟨i+1,nu+1,fr+m,some ⟨g4,0,none⟩,K'+1,k4,an,by simp,by simp,by simp,rfl,ag ⟨some ⟨B2,0,none⟩,c2,jW++[pc],(jl ka kl IS nb rd),kids++[⟨ka,key,IS,nb,rd⟩],ia++si,ib2,⟨HN.O.1,rfl,?_,by have:=HS.O.len;simp;omega,HN.O.2.1,HS.O.n1,HN.O.2.2.2.1, λ x hx=>?_, λ g hg=>by cases hg;exact HN.O.2.2.1⟩,rB.O.1.symm,by have:=rB.O.2.1;omega,?_,?_,rB.O.2.2.2.2.2.2.2.2.2,?_,by have:=rB.O.2.2.1;have:=HKI.O;omega,HN.O.2.2.2.2.1,HN.O.2.2.2.2.2⟩⟩,by simp[intOf];omega⟩
       ·obtain⟨mm,he⟩:=HS.O.ext;exact⟨mm++pc.2.1,by rw[iu,he,aS]⟩
       ·rcases aG.1 hx with hx|hx
        ·exact HS.O.keys x hx
        ·rw[aE]at hx;subst hx;exact rB.O.2.2.2.2.2.2.2.2.1
       ·rw[iu,vJ.O.2.1];exact RU (RT rB.O.2.2.2.2.2.1 _) (rB.O.2.2.2.1 IS)
       ·rw[iu];exact cq.mono (λ _ _ _ hg=>fV.more hg _) rB.O.2.2.2.2.1
       ·rw[iu,ar,vJ.O.2.1];have h1:=rB.O.2.2.2.2.2.2.1;have h2:(ed (aw jW).length (ft (Nd.inner sub).enc)).length<=80*m:=rB.O.2.2.2.2.2.2.2.1;have:=HKI.O;omega
      ·obtain rfl:i=M:=an;have vW:¬ (i:Int)<(i:Int):=an;have hfK:fr=K:=by rw[nH,zg.O.2.1,bd];exact zg.O.1.sum
       rw[hfK,hKl,gH]at To;have hib:ib=[]:=To;rw[hib,cj]at kz;obtain⟨hM1,hM2⟩:=ab0 zg.O.1 an;have hMl:=zg.O.2.1;have HT2:Hid (MkS w wr (aw ps) w5 b1 c1 jW DD q K' k' kids/\cq (Lf (aw jW) (d+1) (decide (6<K))) kids (xs.map fF)/\(2<=K'->decide (6<K)=true)/\(aw jW).length+160*K'<=(aw ps).length+240*L/\nu+2*K'<=3*L/\d+1+K'<=64):=ag ⟨⟨hS.at_,hS.k8,hS.ext,hS.len,me hS.row (iX hS.n1 DE.O),by have:=DE.O;omega,by have:=hS.at_.lt;have:=DE.O;omega,hS.keys,hS.uQ⟩,by rw[kz];exact hsa, λ h2=>by refine decide_eq_true (kT λ h6=>?_);have:=congrArg List.length (zg.O.1.one h6);rw[gu]at this;omega,an,an,by have:=Ib.O.2.2.2.2.1;omega⟩
       have hKK:1<=K'/\K'<K:=an;have ajy:(d:Int)<=64:=cm Ib.O.2.2.2.2.1;clear ma hS nH hKi hsa To kz mJ XO JR har hKl hfK hib hM1 hM2 hMl cL hi
       go_wp2_with fail
       exact⟨⟨nu,d+1,q,K',k',hKK.1,rfl,by simp,rfl,ag ⟨b1,c1,jW,DD,kids,_,HT2.O⟩⟩,hKK.2⟩
    ·obtain rfl:K=1:=an;obtain⟨x0,tm⟩:∃x0,kids=[x0]:=by
      have:=hS.len;cases kids with
      |nil=>simp at this
      |cons y l=>
       cases l with
       |nil=>exact⟨y,rfl⟩
       |cons z l=>simp at this
     subst tm;have hrt:=abZ oK HI.O.2.2.1 (by rw[aR];have:=HI.O.2.2.2.2.1;omega);obtain⟨g,hq⟩:∃g,q=some ⟨g,0,none⟩:=by
      rcases bg hS.row with⟨_,h0,_⟩|⟨g,cur,hg,_⟩
      ·omega
      ·exact⟨g,hg⟩
     subst hq;have JS:Hid (∀V:World,V.heap[g]? =wr.heap[g]? ->∀(i:Nat) (v:Value),x0.cells[i]? =some v->V.cell? ⟨g,i,none⟩=some v):=ag λ V hV i v hv=>by have h1:=(cV.kM (n₀:=w5.heap.size) (e:=144) hS.row a8.fO de).get (j:=0) rfl i v hv;rw[cY,bb,aN]at h1;exact(bq (w:=wr) hV).T h1
     have Iz:w.heap.size+5<=g:=by
      rcases bg hS.row with⟨h0,_⟩|⟨g2,cur,hg,hn,hh⟩
      ·cases h0
      ·cases hg;have:=DE.O;omega
     obtain⟨L1,rY⟩:=bL jW.length;obtain⟨f0,f1,f2,f3,f4⟩:=dF hS.at_.f;rw[<-rY]at f1;have k1:=JS.O wr rfl 1 _ rfl;have k2:=JS.O wr rfl 2 _ rfl;have k3:=JS.O wr rfl 3 _ rfl;have k4:=JS.O wr rfl 4 _ rfl;have k5:=JS.O wr rfl 5 _ rfl;have k6:=JS.O wr rfl 6 _ rfl;have k7:=JS.O wr rfl 7 _ rfl;have HE:=G2 hS hrt mJ Iz rY;have ajz:¬ (1:Int)<(1:Int):=an;clear ma hS oK Ip mJ XO hd cL hrt Iz rY
     go_wp2_with fail
     refine bP 13 ?_;refine tP [0,1,2,3,4,5,6,7,8,9,10] ?_
     iterate 11 refine tO ?_
     refine au 2 rfl ?_;refine sP 11 [0] λ K hK=>?_;refine pN 31 (fA b1 L1 c1) HE.O.1.at_.rf ?_;intro V5 h1 h2 h3;have H5:=eS h1 (show∀j,j≠w.heap.size+1+1->V5.heap[j]? =wr.heap[j]? from λ j hj=>h2 j hj) (h3 w w an HE.O.1.at_.lV.drew);clear h1 h2 h3 f0 f1 f2 f3 f4 k1 k2 k3 k4 k5 k6 k7;have hkg:=H5.O.2.1 g (cm HE.O.2.2.2.1);have k1:=JS.O V5 hkg 1 _ rfl;have k2:=JS.O V5 hkg 2 _ rfl;have k3:=JS.O V5 hkg 3 _ rfl;have k4:=JS.O V5 hkg 4 _ rfl;have k5:=JS.O V5 hkg 5 _ rfl;have k6:=JS.O V5 hkg 6 _ rfl;have k7:=JS.O V5 hkg 7 _ rfl;clear hkg;refine nP hK ?_;clear hK K;refine sP 12 [0,1,2,3,4,5,6,7,8,9,10,11] λ K hK=>?_;refine pN 35 (qt x0.at_ d x0.count) ((H5.O.2.1 _ an).T HE.O.1.at_.rt) ?_;intro V6 h1 h2 h3;have H6:=eS h1 (show∀j,j≠w.heap.size+1+1+1->V6.heap[j]? =V5.heap[j]? from λ j hj=>h2 j hj) (h3 w w an H5.O.2.2);clear h1 h2 h3;refine nP hK ?_;clear hK K;refine dP ?_;go_simp
     go_wp2_with fail
     have Oy:aQ V5 b1 c1 jW:=fQ (λ j hj=>H5.O.2.1 j hj) HE.O.1.at_.rf (tW _ cP) HE.O.1.at_.file (λ G o e=>cm (HE.O.1.at_.uQ G o e));have S3:aQ V6 b1 c1 jW:=fQ (λ j hj=>H6.O.2.1 j hj) ((H5.O.2.1 _ an).T HE.O.1.at_.rt) (tW _ cP) Oy (λ G o e=>cm (HE.O.1.at_.uQ G o e));refine bodyPost_ret (v:=.tuple (Ii (.agg (fA b1 L1 c1)) (.agg (qt x0.at_ d x0.count)))) (KH _ _ (w+1+1) (w+1+1+1) (fA b1 L1 c1) (qt x0.at_ d x0.count) _ _ rfl rfl rfl (aF ((H6.O.2.1 _ an).T H5.O.1)) (aF H6.O.1) Tryz.underlying31 rfl bU Tryz.underlying35 rfl bU) bp ⟨b1,c1,jW,x0.at_,d,x0.count,by rw[<-HE.O.2.2.2.2],S3,HE.O.1.at_.marks,HE.O.1.at_.vj, λ G o e=>?_,HE.O.1.ext,by have:=HE.O.2.2.1;have:=HI.O.2.2.2.1;omega,HE.O.2.1,H6.O.2.2⟩;exact aaL S3 (aaK HE.O.2.1 (by rw[aR];have:=HI.O.2.2.2.1;have:=HI.O.2.2.2.2.1;omega)) e
end
theorem Li{b a fa:az}{PL:Nat}:
 Calls Tryz.prog 34 #[.agg (fA b PL c),.slice a 0 ca,.slice fa FL cf,.agg Q2] w λ e w'=>e= .returned (.tuple (Ii (.agg (fA b PL c)) (.agg vp)))/\Below w w w':=by
 obtain⟨w4,kd⟩:=bL ((((w.alloc (.cells (fA b PL c) 31)).alloc (.cells Q2 107)).alloc (.cells kF 31)).alloc (.cells vp 35));have Hl:w4.heap.size=w.heap.size+4:=by rw[kd];simp
 have dX:Below w w w4:=by rw[kd];go_grown
 obtain⟨v2,mu⟩:=bL ((w.alloc (.cells (fA b PL c) 31)).alloc (.cells Q2 107));have Lj:v2.heap.size=w.heap.size+1+1:=by rw[mu];simp
 have zb:Below v2 v2 w4:=by rw[kd,<-mu];go_grown
 obtain⟨e0,e1⟩:=bu (w2:=v2) oY;obtain⟨e2,e3⟩:=bu (w:=v2) (w2:=w4) uw;rw[Lj]at e2 e3;have tg:=aF ((zb.block _ an).T e0);have H4:=oT dX Hl e2 e3;rw[kd]at tg;rw[kd]at H4;clear dX Hl zb e0 e1 e2 e3 Lj mu kd;go_enter Tryz.func34,Tryz.ntmps34
 go_wp2_with first
  |(refine dG 31 ?_)
  |(refine lz 31 (fA b PL c) H4.O.2.2.1 (λ w6 h1 h2 h3=>?_);have H6:=eS h1 ((h2 _ an).T H4.O.2.2.2) (h3 w w an H4.O.1);clear h1 h2 h3)
  |(refine lz 35 vp H6.O.2.1 (λ w7 h1 h2 h3=>?_);have H7:=eS h1 ((h2 _ an).T H6.O.1) (h3 w w an H6.O.2.2);clear h1 h2 h3)
  |fail
 exact bodyPost_ret (v:=.tuple (Ii (.agg (fA b PL c)) (.agg vp))) (KH _ _ (w+1+1) (w+1+1+1) (fA b PL c) vp _ _ rfl rfl rfl (aF H7.O.2.1) (aF H7.O.1) Tryz.underlying31 rfl bU Tryz.underlying35 rfl bU) bp ⟨rfl,H7.O.2.2⟩
theorem Oz{b a fa:az}{fs:List Int}(hF:aQ w b c ps)(hm:Marks (aw ps))(ke:oP b c)(XN:∀G o,b=some ⟨G,o,none⟩->G<w.heap.size)(hI:ec w a xs)(mV:xs.length<=ca)(hS:ee (xs.map fF))(hr:cR ((xs.map fF).map Prod.fst))(hl:xs.length<=32)(Qr:rL w fa fs)(qH:fs.length<4611686018427387904)(gk:(aw ps).length+240*xs.length<=524288):
 Calls Tryz.prog 34 #[bN b ps.length c,.slice a xs.length ca,.slice fa fs.length cf,.agg Q2] w λ e w'=>∃(b':az) (c':Nat) (eQ:List Piece) (at_ d nC:Nat),e= .returned (.tuple #[bN b' eQ.length c',.agg (qt at_ d nC)])/\aQ w' b' c' eQ/\Marks (aw eQ)/\oP b' c'/\(∀G o,b'=some ⟨G,o,none⟩->G<w'.heap.size)/\(∃m,aw eQ=aw ps++m)/\(aw eQ).length<=(aw ps).length+240*xs.length/\fx (aw eQ) at_ d nC (xs.map fF)/\Below w w w':=by
 by_cases h0:1<=xs.length
 ·exact Lg hF hm ke XN hI mV hS hr h0 hl Qr qH gk
 ·obtain rfl:xs=[]:=cw.1 an;unfold bN;refine(Li (w:=w) (b:=b) (a:=a) (fa:=fa) (c:=c) (PL:=ps.length) (ca:=ca) (FL:=fs.length) (cf:=cf)).mono λ e w' ⟨he,hb⟩=>?_;exact⟨b,c,ps,0,0,0,he,hF.below hb,hm,ke, λ G o e=>aA (XN G o e) hb.size,⟨[],by simp⟩,by simp,⟨λ _=>⟨rfl,rfl⟩, λ e=>absurd rfl e,rfl,hr⟩,hb⟩
structure Am(w V:World)(b:az)(c:Nat)(ps:List Piece):Prop where
 f:V.heap[w.heap.size]? =some (.cells (fA b ps.length c) 31)
 rf:V.heap[w.heap.size+1]? =some (.cells kF 31)
 rc:V.heap[w.heap.size+1+1]? =some (.cells sO 37)
 lt:w.heap.size+3<=V.heap.size
 lV:Below w w V
 file:aQ V b c ps
 marks:Marks (aw ps)
 vj:oP b c
 uQ:∀G o,b=some ⟨G,o,none⟩->G<w.heap.size\/w.heap.size+3<=G
 bsz:∀G o,b=some ⟨G,o,none⟩->G<V.heap.size
theorem Am.below{w V V':World}{b:az}{c:Nat}{ps:List Piece}(h:Am w V b c ps)(hb:Below V V V'):Am w V' b c ps:=by have hl:=h.lt;exact⟨(hb.block _ an).T h.f,(hb.block _ an).T h.rf,(hb.block _ an).T h.rc,aj h.lt hb.size,h.lV.T (hb.mono h.lV.size),h.file.below hb,h.marks,h.vj,h.uQ, λ G o e=>aA (h.bsz G o e) hb.size⟩
theorem Am.acw{b b':az}(h:Am w V b c ps)(hF:aQ V b' c' eQ)(hm:Marks (aw eQ))(ke:oP b' c')(haw:∀G o,b'=some ⟨G,o,none⟩->(G<w.heap.size\/w.heap.size+3<=G)/\G<V.heap.size)
 (h1:V'.heap[w.heap.size]? =some (.cells (fA b' eQ.length c') 31))(h2:∀j,j≠w.heap.size->V'.heap[j]? =V.heap[j]?)(h3:Below w w V')(hz:V.heap.size<=V'.heap.size):Am w V' b' c' eQ:=
 ⟨h1,(h2 _ an).T h.rf,(h2 _ an).T h.rc,aj h.lt hz,h3,fQ (λ j hj=>h2 j hj) h.f (tW _ cP) hF (λ G o e=>cm (haw G o e)),hm,ke, λ G o e=>(haw G o e).1, λ G o e=>aA (haw G o e).2 hz⟩
theorem Am.Di{b:az}(h:Am w V b c ps)(hR:V.heap[R]? =some (.cells cs t))(h8:∀(j x:Nat),cs[j]? ≠some (.int .u8 (x:Int)))(hk:∀j,j≠R->V'.heap[j]? =V.heap[j]?)(hR3:w.heap.size+3<=R)(hb:∀G o,b=some ⟨G,o,none⟩->G≠R)(h3:Below w w V')(hz:V.heap.size<=V'.heap.size):Am w V' b c ps:=
 ⟨(hk _ an).T h.f,(hk _ an).T h.rf,(hk _ an).T h.rc,aj h.lt hz,h3,fQ hk hR h8 h.file hb,h.marks,h.vj,h.uQ, λ G o e=>aA (h.bsz G o e) hz⟩
def UU(V:World)(a:az)(xs:List Nat):Prop:=ay V a xs/\1<=xs.length/\∃B,a=some ⟨B,0,none⟩
theorem UU.below{V V':World}{a:az}{xs:List Nat}(h:UU V a xs)(hb:Below V V V'):UU V' a xs:=⟨h.1.below hb,h.2⟩
theorem UU.cell{xs:List Nat}(h:UU V (zp B) xs):∃x:Nat,V.cell? (za B 0)=some (.int .u8 (x:Int)):=by
 obtain⟨⟨_,h2⟩,h1,_⟩:=h;rcases h2 with h0|⟨C,o,e,hc⟩
 ·rw[h0]at h1;simp at h1
 ·cases e;cases xs with
  |nil=>simp at h1
  |cons x xs=>exact⟨x,hc 0 x rfl⟩
structure lT(V:World)(eE:Nat)(q:az)(K k:Nat)(its:List aH):Prop where
 len:K=its.length
 row:V.ownsRow eE 101 4 (.slice q K k) K (its.flatMap aH.cells)
 bytes:∀x∈its,UU V x.ka x.key/\UU V x.va x.val
 some_:∀g,q=some ⟨g,0,none⟩->1<=K
theorem lT.at_{q:az}(h:lT V eE q K k its):ec V q its:=
 kN.2 ⟨cV.kM (n₀:=eE) (e:=101) h.row aH.fO de, λ x hx=>⟨(h.bytes x hx).1.1,(h.bytes x hx).2.1⟩⟩
theorem lT.below{V V':World}{eE K k:Nat}{q:az}{its:List aH}(h:lT V eE q K k its)(hb:Below V V V'):lT V' eE q K k its:=
 ⟨h.len,dC.row hb h.row, λ x hx=>⟨(h.bytes x hx).1.below hb,(h.bytes x hx).2.below hb⟩,h.some_⟩
theorem lT.Di{q:az}(h:lT V eE q K k its)(hR:V.heap[R]? =some (.cells cs t))(h8:∀(j x:Nat),cs[j]? ≠some (.int .u8 (x:Int)))(hk:∀j,j≠R->V'.heap[j]? =V.heap[j]?)(hq:∀g,q=some ⟨g,0,none⟩->g≠R):lT V' eE q K k its:=
 ⟨h.len,pE h.row λ g hg _ _=>hk g (hq g hg), λ x hx=>⟨⟨gQ hk hR h8 (h.bytes x hx).1.1,(h.bytes x hx).1.2⟩,gQ hk hR h8 (h.bytes x hx).2.1,(h.bytes x hx).2.2⟩,h.some_⟩
theorem lT.cell(h:lT V eE (zp g) K k its):∃a n c,V.cell? (za g 0)=some (.slice a n c):=by
 have h1:=h.some_ g rfl;rw[h.len]at h1;cases his:its with
 |nil=>rw[his]at h1;simp at h1
 |cons x l=>
  have hr:=(kN.1 h.at_).1;rw[his]at hr;have:=hr.get (j:=0) rfl 0 _ x.CR;exact⟨_,_,_,by simpa using this⟩
theorem lT.far{xs:List Nat}(h:lT V eE (zp g) K k its)(hb:UU V (zp B) xs):g≠B:=by rintro rfl;obtain⟨_,_,_,h1⟩:=h.cell;obtain⟨_,h2⟩:=hb.cell;rw[h1]at h2;cases h2
theorem Lk{b:az}{q q2:az}{K2 k2:Nat}(x:aH)(h:Am w V b c ps)(hr:lT V eE q K k its)(oO:lT V eE q2 K2 k2 AA)(hx:UU V x.ka x.key/\UU V x.va x.val)(hn:w.heap.size+3<=eE)(pD:eE<=V.heap.size)(hl:K<=1000)(ha:∀g,q=some ⟨g,0,none⟩->fE g b ps)(hqq:∀g,q=some ⟨g,0,none⟩->q2≠some ⟨g,0,none⟩):
 ∃g' k' V',(Builtin.append_ #[91,91] 91 (fP q K k (zp V) 1 1)).run Tryz.prog (V.alloc (.cells x.cells.toArray 101))= .ok (.slice (zp g') (K+1) k') V'/\Am w V' b c ps/\lT V' eE (zp g') (K+1) k' (its++[x])/\lT V' eE q2 K2 k2 AA/\fE g' b ps/\(∀g,q2=some ⟨g,0,none⟩->g≠g')/\V.heap.size<=V'.heap.size/\Below eE V V'/\(∀j,j<V.heap.size->(Value.slice q K k).ownBlock≠some j->V'.heap[j]? =V.heap[j]?):=by
 obtain⟨g',k',V',eh,It,hg⟩:=gR (P:=Tryz.prog) 91 101 (.agg oH) 4 64 bU mF rfl de x.cells x.fO x.pq hr.row an an pD;have sc:=hg.below;have pA:=h.lt;have hk:= λ j (hj:j<w.heap.size+3)=>sc.block j an;have hq:q=none\/∃g,q=some ⟨g,0,none⟩/\eE<=g/\g<V.heap.size:=by
  rcases bg hr.row with⟨h1,_⟩|⟨g2,cur,h1,h2,h3⟩
  ·exact .inl h1
  ·exact .inr ⟨g2,h1,h2,(cS h3).1⟩
 have iL:∀{a:az} {xs:List Nat},UU V a xs->UU V' a xs:= λ {a xs} hb=>by
  obtain⟨B,rfl⟩:=hb.2.2;refine⟨hg.bytes hb.1 λ B' o e=>?_,hb.2⟩;cases e;rcases hq with rfl|⟨g,rfl,_⟩
  ·simp[Value.ownBlock]
  ·exact qz (hr.far hb)
 have mU:(∃g,q=some ⟨g,0,none⟩/\g'=g)\/V.heap.size<=g':=by
  rcases hg.at_ with h1|⟨g2,h1,h2⟩
  ·rcases hq with rfl|⟨g,rfl,_⟩
   ·simp[Value.ownBlock]at h1
   ·exact .inl ⟨g,rfl,by simpa[Value.ownBlock]using h1⟩
  ·have:g'=g2:=by simpa[Value.ownBlock]using h1
   exact .inr an
 have Om:aQ V' b c ps:=by
  rcases hq with rfl|⟨g,XU,_⟩
  ·exact h.file.below ⟨sc.os,sc.tape,sc.output,sc.size, λ j hj=>hg.eG j hj (by simp[Value.ownBlock])⟩
  ·exact dZ (g:=g) (λ j hj dN=>hg.eG j hj (by rw[XU];exact qz (λ e=>dN e.symm))) h.file (ha g XU)
 have ah2:∀g,q2=some ⟨g,0,none⟩->g<V.heap.size:= λ g jk=>by
  rcases bg oO.row with⟨h1,_⟩|⟨g2,cur,h1,h2,h3⟩
  ·rw[jk]at h1;cases h1
  ·rw[jk]at h1;cases h1;exact(cS h3).1
 refine⟨g',k',V',eh,⟨(hk _ an).T h.f,(hk _ an).T h.rf,(hk _ an).T h.rc,aj h.lt sc.size,h.lV.T (sc.mono an),Om,h.marks,h.vj,h.uQ, λ G o e=>aA (h.bsz G o e) sc.size⟩,⟨by have:=hr.len;simp;omega,by rw[bV];simpa using It, λ y hy=>?_, λ _ _=>an⟩,⟨oO.len,pE oO.row λ g jk _ cL=>hg.eG g cL ?_, λ y hy=>⟨iL (oO.bytes y hy).1,iL (oO.bytes y hy).2⟩,oO.some_⟩,?_, λ g jk e=>?_,sc.size,sc, λ j hj dN=>hg.eG j hj dN⟩
 ·rcases aG.1 hy with hy|hy
  ·exact⟨iL (hr.bytes y hy).1,iL (hr.bytes y hy).2⟩
  ·rw[aE]at hy;subst hy;exact⟨iL hx.1,iL hx.2⟩
 ·rcases hq with rfl|⟨g3,rfl,_⟩
  ·simp[Value.ownBlock]
  ·exact qz λ e=>hqq g3 rfl (by rw[e];exact jk)
 ·rcases mU with⟨g,XU,rfl⟩|h1
  ·exact ha _ XU
  ·exact fE.new h.file h1
 ·rcases mU with⟨g3,XU,h1⟩|h1
  ·exact hqq g3 XU (by rw[<-h1,<-e];exact jk)
  ·have:=ah2 g jk;omega
theorem tY{op:Oper}{a:Act}{K:Act->World->Prop}{Q:Exit->Act->World->Prop}(x:Operand)(ho:op.op= .convert 9 28 x){s:ByteArray}(hx:a.eval x= .string s)
 (h:∀c W',ay W' (zp W) (kE s)->s.size<=c->Below W W W'->W'.heap.size=W.heap.size+1->K (a.put op.dst (.slice (zp W) s.size c)) W'):op.wp Tryz.prog a W K Q:=by
 obtain⟨c,W',h1,h2,h3,h4,h5⟩:=BE s W;have:=h c W' h2 h3 h4 h5;unfold Oper.wp execOp;simp only[ho,hx,eD,Sem.run_pure,h1,Result.andThen_ok];exact this
theorem fE.box{b:az}(h:aQ W b c ps)(hg:W.heap[g]? =some (.cells cs t))(h8:∀(j x:Nat),cs[j]? ≠some (.int .u8 (x:Int)))(hs:∀(j:Nat) (a:az) (n k:Nat),cs[j]? =some (.slice a n k)->n=0\/∀B o (x:Nat),a=some ⟨B,o,none⟩->W.cell? ⟨B,o,none⟩≠some (.int .u8 (x:Int))):fE g b ps:=by
 constructor
 ·rcases h.pieces.1 with h1|⟨B,o,e,hc⟩
  ·exact .inl h1
  ·cases ps with
   |nil=>exact .inl rfl
   |cons p0 pr=>
    refine .inr λ G o2 e2=>?_;rw[e]at e2;cases e2;rintro rfl;have h2:=hc 0 p0 rfl;rw[af hg]at h2;have h3:=h.pieces.2 p0 bD;rcases hs _ _ _ _ h2 with h4|h4
    ·exact h3.1 (cw.1 h4)
    ·rcases h3.2.2.2 with h9|⟨C,o3,e3,CT⟩
     ·exact h3.1 h9
     ·cases C0:p0.2.1 with
      |nil=>exact h3.1 C0
      |cons x l=>exact h4 C o3 x e3 (CT 0 x mP)
 ·intro p hp G o e;obtain⟨h1,_,h2⟩:=h.pieces.2 p hp;rcases h2.2 with h0|⟨C,o2,e2,hc⟩
  ·exact absurd h0 h1
  ·rw[e]at e2;cases e2;cases C0:p.2.1 with
   |nil=>exact absurd C0 h1
   |cons x l=>
    rintro rfl;have:=hc 0 x mP;rw[af hg]at this;exact h8 _ _ this
def fC(b:az)(L c:Nat):Array Value:=(fA b L c)
def tC(at_ d nC:Nat):Array Value:=(qt at_ d nC)
def tZ:Array Value:=vp
theorem abk(b:az)(L c j x:Nat):(fC b L c)[j]? ≠some (.int .u8 (x:Int)):=tW _ cP j x
theorem abl(j x:Nat):tZ[j]? ≠some (.int .u8 (x:Int)):=tW _ cP j x
theorem R4{b b':az}(h:aQ W b c ps)(h':aQ W b' c' eQ)(hR:W.heap[R]? =some (.cells (fC b ps.length c) t)):fE R b' eQ:=by
 refine fE.box h' hR (abk _ _ _) λ j a n k hj=>?_;have h3:j=0\/j=1\/2<=j:=an;rcases h3 with rfl|rfl|h3
 ·have:Value.slice none 0 0= .slice a n k:=by simpa[fC]using hj
  cases this;exact .inl rfl
 ·have:Value.slice b ps.length c= .slice a n k:=by simpa[fC]using hj
  cases this;cases hp:ps with
  |nil=>exact .inl rfl
  |cons p0 pr=>
   refine .inr λ B o x e e2=>?_;rcases h.pieces.1 with h1|⟨B2,o2,e3,hc⟩
   ·rw[hp]at h1;cases h1
   ·rw[e]at e3;cases e3;have:=hc 0 p0 (by rw[hp];rfl);rw[bb,e2]at this;cases this
 ·exfalso;have h4:j=2\/j=3\/j=4\/5<=j:=an;rcases h4 with rfl|rfl|rfl|h4
  ·simp[fC]at hj
  ·simp[fC]at hj
  ·simp[fC]at hj
  ·rw[ei (by simpa[fC]using h4)]at hj;cases hj
theorem aaO{b:az}(h:aQ W b c ps)(hR:W.heap[R]? =some (.cells tZ t)):fE R b ps:=by refine fE.box h hR abl λ j a n k hj=>?_;exfalso;have h1:=ak (l:=tZ.toList) (i:=j) (by simpa using hj);simp[tZ]at h1
theorem GG{b:az}{cs:List Value}(h:aQ W b c ps)(hR:W.heap[R]? =some (.cells cs.toArray t))(h8:∀v∈cs,∀x:Nat,v≠.int .u8 (x:Int))(hs:∀v∈cs,∀a n k,v= .slice a n k->n=0):fE R b ps:=
 fE.box h hR (tW _ h8) λ j a n k hj=>.inl (hs _ (ak (by simpa using hj)) a n k rfl)
theorem BF{at_ nC:Nat}(h:V.heap[B]? =some (.cells (tC at_ d nC) t)):V.cell? (za B 0)=some (.int .i64 (at_:Int))/\V.cell? (za B 1)=some (.int .i64 (d:Int))/\V.cell? (za B 2)=some (.int .i64 (nC:Int))/\V.cell? (za B 3)=some (.int .i64 0)/\V.cell? (za B 4)=some (.int .i64 0)/\V.cell? (za B 5)=some (.int .u64 0)/\V.cell? (za B 6)=some (.int .i64 0)/\V.cell? (za B 7)=some (.int .i64 0):=by simp[af h,tC]
structure RmD where
 q:az
 k:Nat
 ys:List aH
 b':az
 c':Nat
 eQ:List Piece
 at_:Nat
 d:Nat
 nC:Nat
 B:Nat
structure QA(w U:World)(b:az)(c:Nat)(ps:List Piece)(q1:az)(K k1:Nat)(its:List aH)(fa:az)(FL cf:Nat)(Z:World->Prop)(D:RmD)(L:Nat->Bool)(vs:Nat->Value)(V:World):Prop where
 sz:U.heap.size<=V.heap.size
 lV:Below w w V
 z:Z V
 Pr:L 10=false->Below U U V
 v0:L 0=true->vs 0= .agg (fC b ps.length c)
 v1:L 1=true->vs 1= .slice q1 K k1
 v2:L 2=true->vs 2= .slice D.q K D.k/\(L 5=false->ec V D.q D.ys)/\D.ys.Perm its/\XJ D.ys/\K<=D.k
 v3:L 3=true->vs 3= .slice fa FL cf
 v4:L 4=true->vs 4= .agg Q2
 v5:L 5=true->vs 5= .tuple #[.agg (fC D.b' D.eQ.length D.c'),.agg (tC D.at_ D.d D.nC)]/\aQ V D.b' D.c' D.eQ/\(∀G o,D.b'=some ⟨G,o,none⟩->G<V.heap.size)/\Marks (aw D.eQ)/\oP D.b' D.c'/\(∃m,aw D.eQ=aw ps++m)/\(aw D.eQ).length<=(aw ps).length+240*K/\fx (aw D.eQ) D.at_ D.d D.nC (D.ys.map fF)
 v6:L 6=true->vs 6= .tuple #[.agg (fC D.b' D.eQ.length D.c'),.agg (tC D.at_ D.d D.nC)]
 v7:L 7=true->vs 7= .agg (fC D.b' D.eQ.length D.c')
 v8:L 8=true->vs 8= .agg (tC D.at_ D.d D.nC)
 v9:L 9=true->vs 9= .pointer (zp D.B)/\U.heap.size<=D.B/\D.B<V.heap.size/\(L 11=false->V.heap[D.B]? =some (.cells tZ 35))/\(L 11=true->V.heap[D.B]? =some (.cells (tC D.at_ D.d D.nC) 35))
 box:L 10=true->V.heap[w.heap.size]? =some (.cells (fC D.b' D.eQ.length D.c') 31)
section
variable {w U : World} {b : az} {c : Nat} {ps : List Piece} {q1 : az} {K k1 : Nat} {its : List aH} {fa : az} {FL cf : Nat} {Z : World -> Prop} {D : RmD} {L : Nat -> Bool} {vs : Nat -> Value} {V : World}
structure RmZ(w U:World)(Z:World->Prop):Prop where
 lt:w.heap.size+3<=U.heap.size
 grow:∀V V',U.heap.size<=V.heap.size->Z V->Below V V V'->Z V'
 set:∀V V' R cs t,U.heap.size<=V.heap.size->Z V->V.heap[R]? =some (.cells cs t)->(∀(j x:Nat),cs[j]? ≠some (.int .u8 (x:Int)))->(∀j,j≠R->V'.heap[j]? =V.heap[j]?)->(R=w.heap.size\/U.heap.size<=R)->Z V'
theorem QA.grow(h:QA w U b c ps q1 K k1 its fa FL cf Z D L vs V)(hZ:RmZ w U Z){V':World}(hb:Below V V V'):QA w U b c ps q1 K k1 its fa FL cf Z D L vs V':=
 {h with
  sz:=aj h.sz hb.size
  lV:=h.lV.T (hb.mono h.lV.size)
  z:=hZ.grow V V' h.sz h.z hb
  Pr:= λ e=>(h.Pr e).T (hb.mono h.sz)
  v2:= λ e=>⟨(h.v2 e).1, λ e5=>((h.v2 e).2.1 e5).below hb,(h.v2 e).2.2⟩
  v5:= λ e=>⟨(h.v5 e).1,(h.v5 e).2.1.below hb, λ G o e2=>aA ((h.v5 e).2.2.1 G o e2) hb.size,(h.v5 e).2.2.2⟩
  v9:= λ e=>⟨(h.v9 e).1,(h.v9 e).2.1,aA (h.v9 e).2.2.1 hb.size, λ e2=>(hb.block _ (h.v9 e).2.2.1).T ((h.v9 e).2.2.2.1 e2), λ e2=>(hb.block _ (h.v9 e).2.2.1).T ((h.v9 e).2.2.2.2 e2)⟩
  box:= λ e=>(hb.block _ (iX h.sz hZ.lt)).T (h.box e)}
theorem QA.aeH(h:QA w U b c ps q1 K k1 its fa FL cf Z D L vs V)(hZ:RmZ w U Z)(hF:aQ U b c ps)(hfb:U.heap[w.heap.size]? =some (.cells (fC b ps.length c) 31))(ZG:L 10=false)(h5:L 5=true)(h11:L 11=false)(h1:V'.heap[w.heap.size]? =some (.cells (fC D.b' D.eQ.length D.c') 31))(h2:∀j,j≠w.heap.size->V'.heap[j]? =V.heap[j]?)(h3:∀n W,n<=w.heap.size->Below n W V->Below n W V'):QA w U b c ps q1 K k1 its fa FL cf Z D (ins L 10) vs V':=by
 have hb:=h.Pr ZG;have cL:=hZ.lt;have mM:=(hb.block w an).T hfb;have kA:=(h3 0 V (aD _) (ah 0 V)).size
 refine{h with
  sz:=aj h.sz kA
  lV:=h3 _ _ (cH) h.lV
  z:=hZ.set V V' _ _ _ h.sz h.z mM (abk _ _ _) h2 (.inl rfl)
  Pr:= λ e=>Bool.noConfusion (show true=false from e)
  v2:= λ e=>⟨(h.v2 e).1, λ e5=>EW,(h.v2 e).2.2⟩
  v5:= λ e=>⟨(h.v5 e).1,dZ (g:=w.heap.size) (λ j _ dN=>h2 j dN) (h.v5 e).2.1 (R4 (hF.below hb) (h.v5 e).2.1 mM), λ G o e2=>aA ((h.v5 e).2.2.1 G o e2) kA,(h.v5 e).2.2.2⟩
  v9:= λ e=>⟨(h.v9 e).1,(h.v9 e).2.1,aA (h.v9 e).2.2.1 kA, λ e2=>(h2 _ (by have:=(h.v9 e).2.1;omega)).T ((h.v9 e).2.2.2.1 e2), λ e2=>(h2 _ (by have:=(h.v9 e).2.1;omega)).T ((h.v9 e).2.2.2.2 e2)⟩
  box:= λ _=>h1}
theorem QA.aeI(h:QA w U b c ps q1 K k1 its fa FL cf Z D L vs V)(hZ:RmZ w U Z)(ZG:L 10=true)(h9:L 9=true)(h11:L 11=false)(h5:L 5=true)(h1:V'.heap[D.B]? =some (.cells (tC D.at_ D.d D.nC) 35))(h2:∀j,j≠D.B->V'.heap[j]? =V.heap[j]?)(h3:∀n W,n<=D.B->Below n W V->Below n W V'):QA w U b c ps q1 K k1 its fa FL cf Z D (ins L 11) vs V':=by
 have cL:=hZ.lt;obtain⟨g1,g2,g3,g4,g5⟩:=h.v9 h9;have kA:=(h3 0 V (aD _) (ah 0 V)).size
 refine{h with
  sz:=aj h.sz kA
  lV:=h3 _ _ an h.lV
  z:=hZ.set V V' _ _ _ h.sz h.z (g4 h11) abl h2 (.inr g2)
  Pr:= λ e=>(by have e6:L 10=false:=e;rw[ZG]at e6;cases e6)
  v2:= λ e=>⟨(h.v2 e).1, λ e5=>EW,(h.v2 e).2.2⟩
  v5:= λ e=>⟨(h.v5 e).1,dZ (g:=D.B) (λ j _ dN=>h2 j dN) (h.v5 e).2.1 (aaO (h.v5 e).2.1 (g4 h11)), λ G o e2=>aA ((h.v5 e).2.2.1 G o e2) kA,(h.v5 e).2.2.2⟩
  v9:= λ _=>⟨g1,g2,aA g3 kA, λ e=>Bool.noConfusion (show true=false from e), λ _=>h1⟩
  box:= λ e=>(h2 _ an).T (h.box e)}
theorem QA.start(hb:Below w w U)(hz:Z U)(D:RmD)(vs:Nat->Value):QA w U b c ps q1 K k1 its fa FL cf Z D (λ _=>false) vs U:=
 have no:∀{p:Prop},false=true->p:= λ e=>Bool.noConfusion e
 ⟨cH,hb,hz, λ _=>gb,no,no,no,no,no,no,no,no,no,no,no⟩
end
def bX.bare(x:bX):bX:={x with at_:=0}
theorem Ui(kD:∀x∈ds,pR all q x):ee (ds.map tf):= λ kv hk=>by
 obtain⟨d,hd,rfl⟩:=aM.1 hk;have h1:=xu (kD d hd).id;have h2:(tf d).2.length=21:=by simp[tf,bX.enc,dS,ie]
 exact⟨h1.1,h1.2,an,an⟩
theorem QB(kD:∀x∈ds,pR all q x):ee (ds.map oQ):= λ kv hk=>by obtain⟨d,hd,rfl⟩:=aM.1 hk;have h1:=xu (kD d hd).id;have h2:(oQ d).1.length=8:=jh _;exact⟨an,an,h1.1,h1.2⟩
theorem X0(h:ee (its.map fF)):∀x∈its,afO x:= λ x hx=>by obtain⟨a,b,c,d⟩:1<=x.key.length/\x.key.length<=24/\1<=x.val.length/\x.val.length<=24:=h _ (aM.2 ⟨x,hx,rfl⟩);exact⟨a,an,an⟩
theorem R6{f:bX->KV}(h:its.map fF=ds.map f)(hp:ds.Pairwise λ x y=>(f x).1≠(f y).1):its.Pairwise λ x y=>x.key≠y.key:=by
 have:(its.map fF).Pairwise λ a b=>a.1≠b.1:=by rw[h,cU];exact hp
 rw[cU]at this;exact this
theorem X1(h:XJ ys):cR ((ys.map fF).map Prod.fst):=uI.2 (by unfold PW;rw[cU];exact h)
theorem X2{q1:az}{k1:Nat}(h:ec U q1 its)(hK:K=its.length)(hS:ee (its.map fF))(dN:its.Pairwise λ x y=>x.key≠y.key)(hl:K<=32)(V:World)(hV:Below U U V):
 Calls Tryz.prog 35 (sg q1 K k1) V λ e w'=>∃(q:az) (k:Nat) (ys:List aH),e= .returned (.slice q K k)/\ys.Perm its/\XJ ys/\K<=k/\ec w' q ys/\Below V V w':=by
 subst hK;refine(Qo k1 (h.below hV) (X0 hS) dN an).mono ?_;rintro e w' ⟨q,k,ys,hp,hw,rfl,hk,hI,hb⟩;have:=hp.length_eq;exact⟨q,k,ys,by rw[this],hp,hw,an,hI,hb⟩
theorem X3{b fa:az}{fs:List Int}(hF:aQ U b c ps)(hm:Marks (aw ps))(ke:oP b c)(XN:∀G o,b=some ⟨G,o,none⟩->G<U.heap.size)(hK:K=its.length)(hS:ee (its.map fF))(hl:K<=32)(Qr:rL U fa fs)(ZE:FL=fs.length)(qH:fs.length<4611686018427387904)(gk:(aw ps).length+240*K<=524288)
 (V:World)(q:az)(k:Nat)(ys:List aH)(hV:Below U U V)(hI:ec V q ys)(hp:ys.Perm its)(hw:XJ ys)(hk:K<=k):
 Calls Tryz.prog 34 #[.agg (fC b ps.length c),.slice q K k,.slice fa FL cf,.agg Q2] V λ e w'=>∃(b':az) (c':Nat) (eQ:List Piece) (at_ d nC:Nat),e= .returned (.tuple #[.agg (fC b' eQ.length c'),.agg (tC at_ d nC)])/\aQ w' b' c' eQ/\(∀G o,b'=some ⟨G,o,none⟩->G<w'.heap.size)/\Marks (aw eQ)/\oP b' c'/\(∃m,aw eQ=aw ps++m)/\(aw eQ).length<=(aw ps).length+240*K/\fx (aw eQ) at_ d nC (ys.map fF)/\Below V V w':=by
 have hlen:=hp.length_eq;have h:=Oz (cf:=cf) (ca:=k) (hF.below hV) hm ke (λ G o e=>aA (XN G o e) hV.size) hI an (λ kv hk=>hS kv ((hp.map fF).mem_iff.1 hk)) (X1 hw) an (Qr.below hV) qH an;rw[hlen,<-hK,<-ZE]at h;refine jm h ?_;rintro e w' ⟨b',c',eQ,at_,d,nC,rfl,h1,h2,h3,h4,h5,h6,h7,h8⟩;exact⟨b',c',eQ,at_,d,nC,rfl,h1,h4,h2,h3,h5,h6,h7,h8⟩
theorem R7{xs:List bX}(h:ds.map bX.bare=xs.map bX.bare){R:bX->bX->Prop}(hR:∀x y,R x.bare y.bare↔R x y)(hp:xs.Pairwise R):ds.Pairwise R:=by
 have h1:(xs.map bX.bare).Pairwise R:=by rw[cU];exact hp.imp λ {x y} e=>(hR x y).2 e
 rw[<-h,cU]at h1;exact h1.imp λ {x y} e=>(hR x y).1 e
theorem aaP{XH On m:List Nat}{GH d1 c1 at2 d2 c2:Nat}{zs:List aH}(kD:∀x∈ds,pR XH q x)(hl:ds.length<=32)(h1:its.map fF=ds.map tf)(h2:AA.map fF=ds.map oQ)(hy:ys.Perm its)(hz:zs.Perm AA)(he:On=XH++m)(ht1:fx On GH d1 c1 (ys.map fF))(ht2:fx On at2 d2 c2 (zs.map fF)):
 ∃es:List bX,gD On GH d1 c1 at2 d2 c2 q es/\es.Perm ds:=by
 obtain⟨es,hp,he2⟩:=JH oQ ((hz.map fF).T (by rw[h2])) ds rfl;refine⟨es,⟨⟨ys.map fF,((hy.map fF).T (by rw[h1])).T (hp.map tf).symm,ht1⟩,by rw[he2];exact ht2, λ x hx=>?_,by rw[hp.length_eq];exact hl⟩,hp⟩;rw[he];exact(kD x (hp.mem_iff.1 hx)).more m (cH)
theorem abm(h:p:=by
 refine⟨⟨⟨⟨⟨⟨⟨⟨⟨⟨⟨⟨True.intro,?_⟩,?_⟩,?_⟩,?_⟩,?_⟩,?_⟩,?_⟩,?_⟩,?_⟩,?_⟩,?_⟩,?_⟩
 ·intro o ho;cases ho;intro L vs V hL hw fh ⟨D,hJ⟩ KK hK;have HJ:=ag hJ;have Y8:L 10=false:=se λ e=>by have:=fh 10 0 bU (e);rw[hL]at this;cases this
  have mM:=(Y8|>HJ.O.Pr).block w (cm HZ.O.lt)|>.trans vb.O.2;obtain⟨f0,f1,f2,f3,f4⟩:=dF mM;clear mM Y8;clear hJ hw fh hL;go_simp;exact hK.out (sK vs 0 _) _ ⟨D,{HJ.O with v0:= λ _=>rfl}⟩
 ·intro o ho;cases ho;intro L vs V hL hw fh ⟨D,hJ⟩ KK hK;have HJ:=ag hJ;clear hJ hw fh hL;go_simp;exact hK.out (sK vs 1 _) _ ⟨D,{HJ.O with v1:= λ _=>rfl}⟩
 ·intro o ho;cases ho;intro L vs V hL hw fh ⟨D,hJ⟩ KK hK;have HJ:=ag hJ;have Y8:L 10=false:=se λ e=>by have:=fh 10 2 bU (e);rw[hL]at this;cases this
  have n5:L 5=false:=se λ e=>by have:=fh 5 2 bU (e);rw[hL]at this;cases this
  have h1:=HJ.O.v1 (hw 1 bU);have HO:=ag (HJ.O.Pr Y8);have N5:=ag n5;clear Y8 n5;clear hJ hw fh hL;go_simp;(with_reducible refine(HRI.O _ HO.O).mono ?_);rintro e V2 ⟨q,k,ys,rfl,hp,hpw,hk,wE,hb⟩;exact hK.out (sK (sK vs 1 _) 2 _) _ ⟨{D with q:=q,k:=k,ys:=ys},{HJ.O.grow HZ.O hb with v1:= λ _=>rfl,v2:= λ _=>⟨rfl, λ _=>wE,hp,hpw,hk⟩,v5:= λ e=>Ll N5.O e}⟩
 ·intro o ho;cases ho;intro L vs V hL hw fh ⟨D,hJ⟩ KK hK;have HJ:=ag hJ;clear hJ hw fh hL;go_simp;exact hK.out (sK vs 3 _) _ ⟨D,{HJ.O with v3:= λ _=>rfl}⟩
 ·intro o ho;cases ho;intro L vs V hL hw fh ⟨D,hJ⟩ KK hK;have HJ:=ag hJ;clear hJ hw fh hL;go_simp;exact hK.out (sK vs 4 _) _ ⟨D,{HJ.O with v4:= λ _=>rfl}⟩
 ·intro o ho;cases ho;intro L vs V hL hw fh ⟨D,hJ⟩ KK hK;have HJ:=ag hJ;have n6:L 6=false:=se λ e=>by have:=fh 6 5 bU (e);rw[hL]at this;cases this
  have n7:L 7=false:=se λ e=>by have:=fh 6 5 bU (fh 7 6 bU (e));rw[hL]at this;cases this
  have n8:L 8=false:=se λ e=>by have:=fh 6 5 bU (fh 8 6 bU (e));rw[hL]at this;cases this
  have Y8:L 10=false:=se λ e=>by have:=fh 10 5 bU (e);rw[hL]at this;cases this
  have n11:L 11=false:=se λ e=>by have:=fh 11 5 bU (e);rw[hL]at this;cases this
  have h0:=HJ.O.v0 (hw 0 bU);have V2:=ag (HJ.O.v2 (hw 2 bU));have h2:=V2.O.1;have h3:=HJ.O.v3 (hw 3 bU);have h4:=HJ.O.v4 (hw 4 bU);have HO:=ag (HJ.O.Pr Y8);have HL:=ag hL;have HN:=G2 n6 n7 n8 Y8 n11;clear n6 n7 n8 Y8 n11;clear hJ hw fh hL;go_simp;(with_reducible refine(Rz.O _ _ _ _ HO.O (V2.O.2.1 HL.O) V2.O.2.2.1 V2.O.2.2.2.1 V2.O.2.2.2.2).mono ?_);rintro e V5 ⟨b',c',eQ,at_,d,nC,rfl,g1,g2,g3,g4,g5,g6,g7,hb⟩;exact hK.out (sK (sK (sK (sK (sK vs 0 _) 2 _) 3 _) 4 _) 5 _) _ ⟨{D with b':=b',c':=c',eQ:=eQ,at_:=at_,d:=d,nC:=nC},{HJ.O.grow HZ.O hb with v0:= λ _=>rfl,v2:= λ _=>⟨rfl, λ e=>Bool.noConfusion (show true=false from e),V2.O.2.2⟩,v3:= λ _=>rfl,v4:= λ _=>rfl,v5:= λ _=>⟨rfl,g1,g2,g3,g4,g5,g6,g7⟩,v6:= λ e=>Ll HN.O.1 e,v7:= λ e=>Ll HN.O.2.1 e,v8:= λ e=>Ll HN.O.2.2.1 e,v9:= λ e=>⟨((HJ.O.grow HZ.O hb).v9 e).1,((HJ.O.grow HZ.O hb).v9 e).2.1,((HJ.O.grow HZ.O hb).v9 e).2.2.1,((HJ.O.grow HZ.O hb).v9 e).2.2.2.1, λ e=>Ll HN.O.2.2.2.2 e⟩,box:= λ e=>Ll HN.O.2.2.2.1 e}⟩
 ·intro o ho;cases ho;intro L vs V hL hw fh ⟨D,hJ⟩ KK hK;have HJ:=ag hJ;have h5:=(HJ.O.v5 (hw 5 bU)).1;clear hJ hw fh hL;go_simp;exact hK.out (sK (sK vs 5 _) 6 _) _ ⟨D,{HJ.O with v5:= λ e=>⟨rfl,(HJ.O.v5 e).2⟩,v6:= λ _=>rfl}⟩
 ·intro o ho;cases ho;intro L vs V hL hw fh ⟨D,hJ⟩ KK hK;have HJ:=ag hJ;have h6:=HJ.O.v6 (hw 6 bU);clear hJ hw fh hL;go_simp;exact hK.out (sK (sK vs 6 _) 7 _) _ ⟨D,{HJ.O with v6:= λ _=>rfl,v7:= λ _=>rfl}⟩
 ·intro o ho;cases ho;intro L vs V hL hw fh ⟨D,hJ⟩ KK hK;have HJ:=ag hJ;have h6:=HJ.O.v6 (hw 6 bU);clear hJ hw fh hL;go_simp;exact hK.out (sK (sK vs 6 _) 8 _) _ ⟨D,{HJ.O with v6:= λ _=>rfl,v8:= λ _=>rfl}⟩
 ·intro o ho;cases ho;intro L vs V hL hw fh ⟨D,hJ⟩ KK hK;have HJ:=ag hJ;have n11:L 11=false:=se λ e=>by have:=fh 11 9 bU (e);rw[hL]at this;cases this
  have N11:=ag n11;clear n11;clear hJ hw fh hL;go_simp;exact hK.out (sK vs 9 _) _ ⟨{D with B:=V.heap.size},{HJ.O.grow HZ.O ((ah _ V).alloc (cH) _)with v9:= λ _=>⟨rfl,HJ.O.sz,by simp, λ _=>ai _ _, λ e=>Ll N11.O e⟩}⟩
 ·intro o ho;cases ho;intro L vs V hL hw fh ⟨D,hJ⟩ KK hK;have HJ:=ag hJ;have n11:L 11=false:=se λ e=>by have:=fh 11 10 bU (e);rw[hL]at this;cases this
  have H5:=ag (hw 5 bU);have h7:=HJ.O.v7 (hw 7 bU);have HL:=ag hL;have N11:=ag n11;clear n11;clear hJ hw fh hL;refine iG 31 _ _ rfl w 0 _ (fC D.b' D.eQ.length D.c') 31 rfl h7 (((HJ.O.Pr HL.O).block w (cm HZ.O.lt)).T vb.O.2) (by simp[fC]) bU (by simp[fC,Value.oneCell']) (λ V' h1 h2 h3=>?_);exact hK.out vs V' ⟨D,HJ.O.aeH HZ.O vb.O.1 vb.O.2 HL.O H5.O N11.O h1 h2 h3⟩
 ·intro o ho;cases ho;intro L vs V hL hw fh ⟨D,hJ⟩ KK hK;have HJ:=ag hJ;have H10:=ag (hw 10 bU);have H9:=ag (hw 9 bU);have H5:=ag (hw 5 bU);have h8:=HJ.O.v8 (hw 8 bU);have HL:=ag hL;clear hJ hw fh hL;refine iG 35 _ _ rfl D.B 0 tZ (tC D.at_ D.d D.nC) 35 (HJ.O.v9 H9.O).1 h8 ((HJ.O.v9 H9.O).2.2.2.1 HL.O) (by simp[tZ,tC]) bU (by simp[tC,Value.oneCell']) (λ V' h1 h2 h3=>?_);exact hK.out vs V' ⟨D,HJ.O.aeI HZ.O H10.O H9.O HL.O H5.O h1 h2 h3⟩
 ):p:=h
end Go.Proofs.YtbiififbfefkjaaGreatDoor

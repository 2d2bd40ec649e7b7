/- The store, part 18. -/
import Derived.Test.YtbiififbfefkjaaGreatDoorMAq
set_option linter.unusedSimpArgs false
set_option linter.unusedVariables false
set_option maxRecDepth 100000
set_option maxHeartbeats 16000000
namespace Go.Proofs.YtbiififbfefkjaaGreatDoor
open Go.RowKit Go.Shelf
variable{p:Prop}
section
attribute [local go_sem] Oper.semAt_some
attribute [-go_sem] Builtin.append_
theorem rV(h:p:=by
 rcases hj with hj|hj
 ·have:=Ue.O j hj;have:=Ao.size;omega
 ·have:=HP.O.GP hj;have:=Ap.size;omega
 ):p:=h
theorem xW(h:p:=by
 rw[fH]at p8 ru;clear bG jP lH fH hWH;go_enter Tryz.func158,Tryz.ntmps158
 go_wp2_with first
  |(refine dG 273 ?_)
  |fail
 go_ret;rw[<-eJ.O.2.2.2];exact⟨[.kept r],some ⟨w.heap.size+1,0,none⟩,1,rfl,HWH.O,zg.O _ (gb),.inl ⟨rfl,rfl⟩,eJ.O.1⟩
 ):p:=h
theorem xX(h:p:=by
 refine bP 10 ?_;refine tP [0,1,2,3,4,5,6] ?_
 iterate 7 refine tO ?_
 refine au 3 rfl ?_;refine sP 7 [1,2,3,4,5,6] λ K hK=>?_;go_simp;(with_reducible refine QR.O.mono ?_);rintro e w5 ⟨YC,q5,k5,rfl,py,pK,yV,OJ⟩;have FI:YC.length<=200:=by
  have h1:YC.length<=s1.length\/YC.length<=1:=by
   rcases yV with⟨h,_⟩|⟨_,h,_⟩
   ·right;have:=congrArg List.length h;simp at this;omega
   ·left;rw[aR]at h;exact h
  have:=LS.O.2.2.1;have:=HX.O.2.1;omega
 obtain⟨a',c',w',eh,DA,hbN⟩:=(HPX.O.1.other ((gb).drew.T OJ)).WR (P:=Tryz.prog) (TS:=270) (z:=(.agg lG)) (bytes:=120) bU yx rfl de py pK (cm HMS.O);have HN:=G2 DA yV FI OJ hbN;clear py pK yV OJ FI DA hbN;refine nP hK ?_;clear hK K;refine sP 8 [0,1,2,3,4,5,6,7] λ K hK=>?_;go_simp;refine nP hK ?_;clear hK K;refine tP [9] ?_;refine tO ?_;refine au 0 rfl ?_;refine dP ?_;go_simp
 go_wp2_with fail
 obtain⟨oe',hoe,jC⟩:∃oe',(if cr=nn then(some ⟨Be,oe,none⟩:az)else some ⟨Be,oe+nn*5,none⟩)=some ⟨Be,oe',none⟩/\St G w (λ V=>je V (some ⟨Be,oe',none⟩) (lr.drop nn)):=by
  by_cases hcr:cr=nn
  ·exact⟨oe,if_pos hcr,sh.O.1.imp λ V h=>⟨.inl (dJ.2 (cm sh.O.2.1)), λ x hx=>h.2 x (bm hx)⟩⟩
  ·exact⟨oe+nn*5,if_neg hcr,sh.O.1.imp λ V h=>⟨h.1.drop nn, λ x hx=>h.2 x (bm hx)⟩⟩
 refine⟨⟨i+1,oe',lr.drop nn,cr - nn,ms++YC,a',c',Q5.O.2,by have:=Q5.O.1;simp;omega,(by first|(rw[hoe,bC])|(have dN:¬ cr=nn:=(cm sh.O.2.1);rw[if_neg dN]at hoe;rw[hoe,bC])),by rw[ar],ag ⟨jC,by rw[bC];have:=sh.O.2.1;omega, λ x hx=>sh.O.2.2.1 x (bm hx),(uc sh.O.2.2.2.1 nn).2,by rw[bC];have:=sh.O.2.2.2.2;omega⟩,ag HN.O.1,ag ?_⟩,by have:=Q5.O.2;have:=Q5.O.1;simp[intOf];omega⟩;rw[aJ];exact LS.O.2.2.2 _ _ _ HX.O.2.2.2.2.2 E3 HN.O.2.1
 ):p:=h
theorem OO(Bw:Nat)(ey:List Piece)(hm:Marks (aw ey)):∀(d:Nat) {w:World} {b:az} {cf:Nat} (_:aQ w b cf ey) (_:lB w Bw b ey.length cf) {r:cF} {n:Nd} {its:List KV} (G:Nat->Prop) (_:∀j,G j->j<w.heap.size) (_:r.h=d) (_:d<=50) (_:St G w λ V=>ay V r.k.ka r.k.key) (_:jH (aw ey) d n r.k.at_ its) (_:cR (its.map Prod.fst)) (_:its.length<=200) {ea:az} {l:List eH} {ce:Nat} (_:St G w λ V=>je V ea l) (_:l.length<=ce) (_:∀x∈l,sZ x) (_:cR (l.map eH.key)) (_:l.length<=200),
 Calls Tryz.prog 158 (ac2 (zp Bw) (.agg (tM r.k.ka r.k.key.length r.k.kc r.k.at_ r.k.count r.h)) ea l.length ce) w λ e w'=>∃(ps:List (Pc aH)) (q:az) (k:Nat),e= .returned (.slice q ps.length k)/\eU r9 w' q k ps/\(∀p∈ps,St G w' λ V=>Ab r9 V p)/\Ua (aw ey) r its (l.map Ac) (ps.map Pc.val)/\Below w w w':=by
 intro d
 induction d with
 |zero=>
  intro w b cf hF hW r n its G hG AT ad3 gN jn Em kz ea l ce he N6 kD LY hl;have O4:=ag AT;clear AT;obtain⟨w2,fH⟩:=bL ((w.alloc (.cells (lW r.k.ka r.k.key.length r.k.kc r.k.at_ r.k.count r.h) 273)).alloc (.cells (vM r.k.ka r.k.key.length r.k.kc r.k.at_ r.k.count r.h) 275));have bG:Below w w w2:=by rw[fH];go_grown
  have jP:=bu (w2:=w2) mO;have lH:w2.heap.size=w.heap.size+1+1:=by rw[fH];simp
  have qa:(w.alloc (.cells (lW r.k.ka r.k.key.length r.k.kc r.k.at_ r.k.count r.h) 273)).rangeAt w 0 (lW r.k.ka r.k.key.length r.k.kc r.k.at_ r.k.count r.h):=aF (ai _ _);have ru:w2.rangeAt w 0 (lW r.k.ka r.k.key.length r.k.kc r.k.at_ r.k.count r.h):=aF jP.1;have p8:w2.cell? (za w 8)=some (.int .i64 (r.h:Int)):=(af jP.1 8).T rfl;have hWH:eU r9 w2 (zp (w+1)) 1 [.kept r]:=⟨.inr ⟨_,_,rfl, λ j x hj=>by
   rcases j with _|j
   ·cases hj;rw[cY,bb];exact aF jP.2
   ·simp at hj⟩, λ p hp=>by rw[aE]at hp;subst hp;exact gN.here.below bG,cH, λ e=>fS,.inr ⟨_,_,rfl⟩⟩
  have HWH:=ag hWH;have zg:Hid (∀V,Below w2 w2 V->∀p∈[Pc.kept (α:=aH) r],St G V λ V=>Ab r9 V p):=ag λ V hV p hp=>by rw[aE]at hp;subst hp;exact gN.go (ns.bH (bG.T (hV.mono bG.size)))
  have Ue:=ag hG;have eJ:=oT bG jP lH fH;by_cases G7:l.length=0
  ·have hle:l=[]:=cw.1 G7;subst hle;clear G7 hl N6 he kD LY jn Em kz gN hW hF hG;exact xW
  have aim:((l.length:Int)==0)=false:=by rw[beq_eq_false_iff_ne];omega
  have ain:¬ l.length=0:=G7;have SW:(l.length:Int)<=200:=an;cases n with
  |inner xs=>exact jn.elim
  |leaf xs=>
   have En:nO xs:=jn.node.2.1.1;have HL:=ag (yv (hF.below bG) hm (hW.below bG) r.k.ka r.k.key.length r.k.kc r.k.at_ r.k.count r.h (n:=.leaf xs) (by simp[Nd.is,O4.O]) jn.node.1 jn.node.2.1);have wE:its=xs.map fF:=jn.2.2;have hd0:((r.h:Int)==0)=true:=by simp[O4.O]
   have HE:=oT (he.here.below bG) kD LY hl;have HES:=ag he;have HX:=eS En wE Em;have ajJ:=En.mE;rw[fH]at HL p8 ru;clear G7 hl N6 he kD LY jn Em kz gN hW hF hG bG jP lH fH hWH En wE;go_enter Tryz.func158,Tryz.ntmps158
   go_wp2_with first
    |(refine dG 273 ?_)
    |((with_reducible refine HL.O.mono ?_);rintro e w3 ⟨m,a,k,gl,rfl,hR,cu⟩;rw[<-eJ.O.2.2.2]at cu hR;rcases m with ys|ys;rotate_left
      ·exact gl.elim
      have abB:ys.length<=6:=by have:=congrArg List.length gl.1;simp at this;omega
      have IL:=K9 xs ys gl.1 gl.2;have hR2:iQ w3 w2 a k ys:=hR;have Ud:∀y∈ys,y.key.length<=120/\y.val.length<=100:= λ y hy=>by
       have h1:fF y∈xs.map fF:=by rw[<-IL];exact aM.2 ⟨y,hy,rfl⟩
       obtain⟨x,hx,e⟩:=aM.1 h1;have e1:x.key=y.key:=congrArg Prod.fst e;have e2:x.val=y.val:=congrArg Prod.snd e;have:=HX.O.1.key x hx;rw[e1,e2]at this;omega
      have nH:tN w3 a k ys:=by
       refine⟨cV.kM hR2.1 (λ _=>rfl) de, λ y hy=>(hR2.2 y hy).1,lQ hR2.1, λ e=>?_,?_,an, λ y hy=>cm (Ud y hy)⟩
       ·rcases hR2.1.2 with⟨h,_⟩|⟨g,cap,cur,h,_⟩
        ·injection h
        ·subst e;cases h
       ·rcases bg hR2.1 with⟨h,_⟩|⟨g,cur,h,_⟩
        ·exact .inl h
        ·exact .inr ⟨_,_,h⟩
      have hry:cR (ys.map aH.key):=by have h1:=HX.O.2.2;rw[HX.O.2.1,<-IL,jq]at h1;exact h1
      have Zs:=ag (Np ce nH hry (HE.O.1.below cu) HE.O.2.1 HE.O.2.2.1 (cm HE.O.2.2.2));have HY:=G2 abB IL hR2 Ud cu;simp only[Nd.v,Nd.is,Nd.a1,Nd.n1,Nd.k1,Nd.a2,Nd.n2,Nd.k2];have ads:∀W,(Instr.field 147 (.agg (pF a ys.length k)) 1).run Tryz.prog W= .ok (.slice a ys.length k) W:= λ W=>bU;clear gl hR cu abB IL hR2 Ud nH hry)
    |((with_reducible refine Zs.O.mono ?_);rintro e w4 ⟨a',c',rfl,kW,dX⟩;have hla:ec w4 a ys:=(HY.O.2.2.1.at).below dX;have pV:Below w2 w2 w4:=HY.O.2.2.2.2.T (dX.mono HY.O.2.2.2.2.size);have hln:ec w4 a' (dW ys l):=qC kW λ z hz=>by
       rcases yD hz with h|⟨x,hx,rfl⟩
       ·exact⟨((HY.O.2.2.1.2 z h).1.1).below dX,((HY.O.2.2.1.2 z h).1.2).below dX⟩
       ·exact⟨((HE.O.1.below pV).2 x hx).1,((HE.O.1.below pV).2 x hx).2⟩
      have mV:=lQ kW;have YD:a'=none\/∃B o,a'=some ⟨B,o,none⟩:=by
       rcases bg kW with⟨h,_⟩|⟨g,cur,h,_⟩
       ·exact .inl h
       ·exact .inr ⟨_,_,h⟩
      have SZ:a'=none->c'=0:= λ e=>by
       rcases kW.2 with⟨h,_⟩|⟨g,cap,cur,h,_⟩
       ·injection h
       ·subst e;cases h
      have FA:=ag (XG k c' hla hln ⟨by have:=HY.O.1;omega, λ y hy=>cm (HY.O.2.2.2.1 y hy)⟩);have HLO:Hid (jg r9 w4 a' c' (dW ys l)):=ag ⟨(kN.1 hln).1, λ y hy=>(kN.1 hln).2 y hy,mV,SZ,YD⟩;have pB:=ag pV;have CY:=dO kW dX;clear kW dX hla pV hln mV YD SZ)
    |((with_reducible refine FA.O.mono ?_);rintro e w5 ⟨sm,rfl,jN,dV⟩;have HS5:=dO jN dV;clear jN dV;cases sm)
    |fail
   ·obtain⟨W6,hW6⟩:=bL (w5.alloc (.cells (qu a' (dW ys l).length c') 275));go_ret;rw[<-hW6];have hn6:W6.heap[w5.heap.size]? =some (.cells (qu a' (dW ys l).length c') 275):=qK hW6;have PE:Below w4 w4 W6:=by rw[hW6];exact HS5.O.2.alloc HS5.O.2.size _
    have agt:Below w3 w3 W6:=CY.O.2.T (PE.mono CY.O.2.size);have aio:Below w2 w2 W6:=pB.O.T (PE.mono pB.O.size);have lP:Below w w W6:=eJ.O.1.T (aio.mono eJ.O.1.size);have ajK:=eJ.O.1.size;have ajL:=HY.O.2.2.2.2.size;have ma:St G W6 λ V=>jg r9 V a' c' (dW ys l):= λ V hV=>by
     refine⟨ab4 CY.O.1 (λ _=>rfl) de PE (λ j hj=>.inl (cm (Ue.O j hj))) V hV, λ z hz=>?_,HLO.O.cap,HLO.O.nil,HLO.O.plain⟩;rcases yD hz with h|⟨x,hx,rfl⟩
     ·have h1:=HY.O.2.2.1.2 z h;exact⟨xM h1.1.1 h1.2.1 agt (λ j hj=>.inl (cm (Ue.O j hj))) V hV,xM h1.1.2 h1.2.2.1 agt (λ j hj=>.inl (cm (Ue.O j hj))) V hV⟩
     ·have h1:=(HES.O.go (ns.bH lP)) V hV;exact⟨(h1.2 x hx).1,(h1.2 x hx).2⟩
    have IL:(dW ys l).map fF=iH its (l.map Ac):=by rw[EA,HY.O.2.1,HX.O.2.1]
    refine⟨[.loose a' c' (dW ys l)],some ⟨w5.heap.size,0,none⟩,1,rfl,⟨.inr ⟨_,_,rfl, λ j x hj=>?_⟩, λ p hp=>?_,cH, λ e=>fS,.inr ⟨_,_,rfl⟩⟩, λ p hp=>?_,.inr ⟨cq.one.2 (cq.its.2 IL.symm),?_,rfl⟩,lP⟩
    ·rcases j with _|j
     ·cases hj;rw[cY,bb];exact aF hn6
     ·simp at hj
    ·rw[aE]at hp;subst hp;exact ma.here
    ·rw[aE]at hp;subst hp;exact ma
    ·have:=HX.O.1.MK;rw[HX.O.2.1];simp;omega
   ·go_ret;have hk:its=(dW ys l).map fF:=by rw[HX.O.2.1,<-HY.O.2.1];exact HS5.O.1 trivial
    have ad4:Below w2 w2 w5:=pB.O.T (HS5.O.2.mono pB.O.size);refine⟨[.kept r],some ⟨w.heap.size+1,0,none⟩,1,rfl,HWH.O.below ad4,zg.O _ ad4,.inl ⟨rfl,?_⟩,eJ.O.1.T (ad4.mono eJ.O.1.size)⟩;have h1:=EA l ys;rw[HY.O.2.1,<-HX.O.2.1,<-hk]at h1;exact h1.symm
 |succ d ih=>
  intro w b cf hF hW r n its G hG AT ad3 gN jn Em kz ea l ce he N6 kD LY hl;have O4:=ag AT;clear AT;obtain⟨w2,fH⟩:=bL ((w.alloc (.cells (lW r.k.ka r.k.key.length r.k.kc r.k.at_ r.k.count r.h) 273)).alloc (.cells (vM r.k.ka r.k.key.length r.k.kc r.k.at_ r.k.count r.h) 275));have bG:Below w w w2:=by rw[fH];go_grown
  have jP:=bu (w2:=w2) mO;have lH:w2.heap.size=w.heap.size+1+1:=by rw[fH];simp
  have qa:(w.alloc (.cells (lW r.k.ka r.k.key.length r.k.kc r.k.at_ r.k.count r.h) 273)).rangeAt w 0 (lW r.k.ka r.k.key.length r.k.kc r.k.at_ r.k.count r.h):=aF (ai _ _);have ru:w2.rangeAt w 0 (lW r.k.ka r.k.key.length r.k.kc r.k.at_ r.k.count r.h):=aF jP.1;have p8:w2.cell? (za w 8)=some (.int .i64 (r.h:Int)):=(af jP.1 8).T rfl;have hWH:eU r9 w2 (zp (w+1)) 1 [.kept r]:=⟨.inr ⟨_,_,rfl, λ j x hj=>by
   rcases j with _|j
   ·cases hj;rw[cY,bb];exact aF jP.2
   ·simp at hj⟩, λ p hp=>by rw[aE]at hp;subst hp;exact gN.here.below bG,cH, λ e=>fS,.inr ⟨_,_,rfl⟩⟩
  have HWH:=ag hWH;have zg:Hid (∀V,Below w2 w2 V->∀p∈[Pc.kept (α:=aH) r],St G V λ V=>Ab r9 V p):=ag λ V hV p hp=>by rw[aE]at hp;subst hp;exact gN.go (ns.bH (bG.T (hV.mono bG.size)))
  have Ue:=ag hG;have eJ:=oT bG jP lH fH;by_cases G7:l.length=0
  ·have hle:l=[]:=cw.1 G7;subst hle;clear G7 hl N6 he kD LY jn Em kz gN hW hF hG ih;exact xW
  have aim:((l.length:Int)==0)=false:=by rw[beq_eq_false_iff_ne];omega
  have ain:¬ l.length=0:=G7;have SW:(l.length:Int)<=200:=an;cases n with
  |leaf xs=>exact jn.elim
  |inner xs=>
   have Un:Hid (r.h=d+1/\d+1<=50):=ag ⟨O4.O,ad3⟩;have uW:=gM.mE jn.node.2.1;have agu:=gM.ML jn.node.2.1;have agv:=ag (FV (hF.below bG) hm (hW.below bG) r.k.ka r.k.key.length r.k.kc r.k.at_ r.k.count d r.h (cm O4.O) an jn.node.1 jn.node.2.1);have HIH:Hid (∀{V:World} (hb:Below w w V) {r:cF} {n:Nd} {its:List KV} (G:Nat->Prop) (_:∀j,G j->j<V.heap.size) (_:r.h=d) (_:d<=50) (_:St G V λ V=>ay V r.k.ka r.k.key) (_:jH (aw ey) d n r.k.at_ its) (_:cR (its.map Prod.fst)) (_:its.length<=200) {ea:az} {l:List eH} {ce:Nat} (_:St G V λ V=>je V ea l) (_:l.length<=ce) (_:∀x∈l,sZ x) (_:cR (l.map eH.key)) (_:l.length<=200),
    Calls Tryz.prog 158 (ac2 (zp Bw) (.agg (tM r.k.ka r.k.key.length r.k.kc r.k.at_ r.k.count r.h)) ea l.length ce) V λ e w'=>∃(ps:List (Pc aH)) (q:az) (k:Nat),e= .returned (.slice q ps.length k)/\eU r9 w' q k ps/\(∀p∈ps,St G w' λ V=>Ab r9 V p)/\Ua (aw ey) r its (l.map Ac) (ps.map Pc.val)/\Below V V w'):=ag (λ hb=>ih (hF.below hb) (hW.below hb))
   obtain⟨Be,oe0,rfl⟩:=he.here.1.some_ an;have hd0:((r.h:Int)==0)=false:=by rw[beq_eq_false_iff_ne];have:=O4.O;omega
   have HX:=hI6 jn kz Em uW agu (Gz LY);have HE0:=G2 he N6 kD LY hl;rw[fH]at agv p8 ru;clear G7 hl N6 he kD LY jn Em kz gN hW hF hG bG jP lH fH hWH ih uW agu ad3;go_enter Tryz.func158,Tryz.ntmps158
   go_wp2_with first
    |(refine dG 273 ?_)
    |((with_reducible refine agv.O.mono ?_);rintro e w3 ⟨ys,ya,yk,gl,rfl,hR,cu⟩;rw[<-eJ.O.2.2.2]at cu hR;have ue:=eS gl hR cu;clear gl hR cu)
    |fail
   have QE:ys.length=xs.length:=by have:=congrArg List.length ue.O.1.1;simpa using this
   have hy6:(ys.length:Int)<=6:=cm HX.O.2.2.2.1;have HRA:=ag (FR.at ue.O.2.1);have rB:Hid (Ei (aw ey) d (l.map Ac) its ys [] (l.map Ac)):=ag (Ei.start (Gt HX.O.1 ue.O.1.1 ue.O.1.2.1 ue.O.1.2.2) (λ e=>by have:=HX.O.2.2.2.2.1;rw[e]at QE;simp at QE;omega));clear QE
   go_loopw [2,11,48] (λ tv rv iv wr=>∃(i oe:Nat) (lr:List eH) (cr:Nat) (ms:List (Pc aH)) (q:az) (k':Nat),i<=ys.length/\iv= .int .i64 (i:Int)/\tv= .slice (some ⟨Be,oe,none⟩) lr.length cr/\rv= .slice q ms.length k'/\Hid ((St G w λ V=>je V (some ⟨Be,oe,none⟩) lr)/\lr.length<=cr/\(∀x∈lr,sZ x)/\cR (lr.map eH.key)/\lr.length<=200)/\Hid (BK r9 275 G w3 wr q k' ms)/\Hid (Ei (aw ey) d (l.map Ac) its (ys.drop i) (ms.map Pc.val) (lr.map Ac))) (λ _ _ iv _=>ys.length - (intOf iv).toNat)
   case atStart=>exact⟨0,oe0,l,ce,[],none,0,an,rfl,rfl,rfl,HE0,ag (BK.start λ j hj=>Ig (Ue.O j hj) eJ.O.1.size ue.O.2.2.size),rB⟩
   case round=>
    obtain⟨Wr,rfl⟩:=bL wr;obtain⟨i,oe,lr,cr,ms,q,k',hi,rfl,rfl,rfl,sh,HP,HI⟩:=hrel;by_cases cL:i<ys.length
    ·obtain⟨y,hy⟩:∃y,ys[i]? =some y:=⟨ys[i],by simp[cL]⟩;have hyr:(ys.map λ y=>(⟨y,d⟩:cF))[i]? =some ⟨y,d⟩:=by rw[aW,hy];rfl
     obtain⟨Br,o,rfl⟩:=HRA.O.row.some_ zB;have hg:Wr.rangeAt Br (o+i*9) (lW y.ka y.key.length y.kc y.at_ y.count d):=(HRA.O.row.below HP.O.base).get hyr;have mn:(i:Int)<(ys.length:Int):=an;have zP:(i:Int)<=6:=an;obtain⟨V1,so⟩:=bL (Wr.alloc (.cells (lW y.ka y.key.length y.kc y.at_ y.count d) 273));have pg:Below Wr Wr V1:=by rw[so];go_grown
     have pD:V1.heap[Wr.heap.size]? =some (.cells (lW y.ka y.key.length y.kc y.at_ y.count d) 273):=qK so;have ZF:=ue.O.2.1.2 _ (ak hyr);have HKY:=ag ZF;have jG:=dO pg pD;have hI:=HI.O;rw[ph hy]at hI;have HMS:Hid (ms.length<=200):=ag (by have:=hI.LB.1;rw[aR]at this;have:=HX.O.2.1;omega);obtain⟨s1,hpk⟩:=hI.adG HX.O.2.2.1;have LS:=ag hpk;obtain⟨i1,DP⟩:=bL (i+1);have bY:IntKind.i64.wrap ((i:Int)+1)=(i1:Int):=by rw[aI];omega
     have Q5:=dO DP cL;have ajM:(lr.length:Int)<=200:=cm sh.O.2.2.2.2;by_cases zK:i1<ys.length
     ·obtain⟨z,hz⟩:∃z,ys[i1]? =some z:=⟨ys[i1],by simp[zK]⟩;have hzr:(ys.map λ y=>(⟨y,d⟩:cF))[i1]? =some ⟨z,d⟩:=by rw[aW,hz];rfl
      have jk:Wr.rangeAt Br (o+i1*9) (lW z.ka z.key.length z.kc z.at_ z.count d):=(HRA.O.row.below HP.O.base).get hzr;have HZ:=eS (jk 0 _ rfl) (HRA.O.keys _ (ak hzr)) hz;have hli:(i1:Int)<(ys.length:Int):=an;have ajN:(i1:Int)<=6:=an;have HV1:=ag so;clear hy hyr pg pD ZF hI hpk DP hz hzr jk zK cL so
      go_wp2_with first
       |(refine dG 273 ?_)
       |(refine lU 273 ?_)
       |fail
      rw[<-HV1.O]
      go_loopw [15] (λ nv wv=>∃nn:Nat,nn<=lr.length/\nv= .int .i64 (nn:Int)/\Hid (Below V1 V1 wv)/\Hid (∀(j:Nat) (x:eH),j<nn->lr[j]? =some x->lj x.key z.key)) (λ nv _=>lr.length - (intOf nv).toNat)
      case atStart=>exact⟨0,an,rfl,ag (gb),ag (λ j x hj=>an)⟩
      case round=>
       obtain⟨nn,agw,rfl,vb,Fy⟩:=hrel;obtain⟨Wn,rfl⟩:=bL wr;by_cases Su:nn<lr.length
       ·obtain⟨x,hx⟩:∃x,lr[nn]? =some x:=⟨lr[nn],by simp[Su]⟩;have aip:(nn:Int)<(lr.length:Int):=an;have aiq:(nn:Int)<=200:=an;have ad5:Below w w Wn:=(eJ.O.1.T ((ue.O.2.2.T ((HP.O.base.T ((jG.O.1.T (vb.O.mono jG.O.1.size)).mono HP.O.base.size)).mono ue.O.2.2.size)).mono eJ.O.1.size));have ad6:Below w3 w3 Wn:=HP.O.base.T ((jG.O.1.T (vb.O.mono jG.O.1.size)).mono HP.O.base.size);have ad7:Below Wr Wr Wn:=jG.O.1.T (vb.O.mono jG.O.1.size);have hed:=(sh.O.1.go (ns.bH ad5)).here;have c1:Wn.cell? ⟨Be,oe+nn*5,none⟩=some (.slice x.ka x.key.length x.kc):=(hed.1.get hx) 0 _ rfl;have c2:Wn.cell? ⟨Br,o+i1*9,none⟩=some (.slice z.ka z.key.length z.kc):=carry ad7 HZ.O.1;have LO:=ag (AX x.kc z.kc ((hed.2 x (ak hx)).1.below (ah _ Wn).drew) (HZ.O.2.1.below ad6.drew) (by have:=sh.O.2.2.1 x (ak hx);unfold sZ at this;omega));have HX3:=dO hx Su;by_cases AH:cmpL x.key z.key<0
        ·have hdt:decide (cmpL x.key z.key<0)=true:=by simp[AH]
         rw[hdt]at LO;have air:Hid (∀(j:Nat) (x:eH),j<nn+1->lr[j]? =some x->lj x.key z.key):=ag λ j x' hj ZA=>by
          rcases cX j nn with h|h
          ·exact Fy.O j x' h ZA
          ·obtain rfl:j=nn:=an;rw[hx]at ZA;cases ZA;unfold lj;rcases qG x.key z.key with h|h|h<;>omega
         clear hx Su ad5 ad6 ad7 hed hdt AH
         go_wp2_with fail
         refine bP 19 ?_;refine tP [0,1,2,3,4,5,6,7,8,9,10,11,12,13,14,15,16] ?_
         iterate 17 refine tO ?_
         refine au 2 rfl ?_;refine sP 17 [0,1,2,3,4,5,6,7,8,9,10,11,12,13,14,15,16] λ K hK=>?_;go_simp;(with_reducible refine LO.O.mono ?_);rintro e w4 ⟨rfl,kd⟩;rw[kd];clear kd w4;refine nP hK ?_;clear hK K;refine tP [18] ?_;refine tO ?_;refine au 0 rfl ?_;refine dP ?_;go_simp
         go_wp2_with fail
         exact⟨⟨nn+1,by have:=HX3.O.2;omega,by simp,ag vb.O.drew,air⟩,by have:=HX3.O.2;simp[intOf];omega⟩
        ·have hdt:decide (cmpL x.key z.key<0)=false:=by simp[AH]
         rw[hdt]at LO;have E4:Hid (acv (ys.drop i1) (lr.map Ac) ((lr.take nn).map Ac) ((lr.drop nn).map Ac)):=ag ⟨zE, λ z' r e=>(by
          rw[ph HZ.O.2.2]at e;cases e;refine⟨λ e' Ea=>?_, λ e' Ea=>?_⟩
          ·obtain⟨x',ZA,rfl⟩:=aM.1 Ea;obtain⟨j,hj⟩:=gI ZA;rw[bB]at hj;split at hj
           ·exact Fy.O j x' byA hj
           ·cases hj
          ·rw[aW,fi,bb,hx]at Ea;cases Ea;unfold lj;show¬ cmpL x.key z.key= -1;omega), λ e=>(by rw[ph HZ.O.2.2]at e;cases e)⟩
         clear hx ad5 ad6 ad7 hed hdt AH
         go_wp2_with fail
         refine bP 19 ?_;refine tP [0,1,2,3,4,5,6,7,8,9,10,11,12,13,14,15,16] ?_
         iterate 17 refine tO ?_
         refine au 2 rfl ?_;refine sP 17 [0,1,2,3,4,5,6,7,8,9,10,11,12,13,14,15,16] λ K hK=>?_;go_simp;(with_reducible refine LO.O.mono ?_);rintro e w4 ⟨rfl,kd⟩;rw[kd];clear kd w4;refine nP hK ?_;clear hK K;refine tP [18] ?_;refine tO ?_;refine au 0 rfl ?_;refine dP ?_;go_simp
         go_wp2_with fail
         obtain⟨Wx,hWx⟩:=bL Wn.drew;have vb:=ag vb.O.drew;rw[<-hWx]at vb⊢;clear hWx c1 c2;have agw:nn<=lr.length:=cm HX3.O.2;have mM:Below V1 V1 Wx:=vb.O;have Ap:Below Wr Wr Wx:=jG.O.1.T (mM.mono jG.O.1.size);have hPx:=HP.O.other Ap;have GV:Below w3 w3 Wx:=HP.O.base.T (Ap.mono HP.O.base.size);have OP:Below w2 w2 Wx:=ue.O.2.2.T (GV.mono ue.O.2.2.size);have Ao:Below w w Wx:=eJ.O.1.T (OP.mono eJ.O.1.size);have QF:=(mM.block _ (cS jG.O.2).1).T jG.O.2;have qc:= λ j=>af QF j;have q0:=(qc 0).T rfl;have q1:=(qc 1).T rfl;have q2:=(qc 2).T rfl;have q3:=(qc 3).T rfl;have q4:=(qc 4).T rfl;have q5:=(qc 5).T rfl;have q6:=(qc 6).T rfl;have q7:=(qc 7).T rfl;have q8:=(qc 8).T rfl;simp only[cW]at q0 q1 q2 q3 q4 q5 q6 q7 q8;clear qc;have OQ:∀j,(G j\/rT q j)->j<Wx.heap.size:= λ j hj=>by exact rV
         have G9:∀j,(G j\/rT q j)->G j\/w.heap.size<=j:= λ j hj=>hj.imp id λ hj=>Ig (HP.O.GP hj) eJ.O.1.size ue.O.2.2.size;have DK:St (λ j=>G j\/rT q j) Wx.drew λ V=>ay V y.ka y.key:=(xM (n:=w2.heap.size) HKY.O.1 HKY.O.2 (GV.drew) λ j hj=>by
          rcases hj with hj|hj
          ·left;have:=Ue.O j hj;have:=eJ.O.1.size;omega
          ·right;exact(HP.O.GP hj).1)
         have OR:St (λ j=>G j\/rT q j) Wx.drew λ V=>je V (some ⟨Be,oe,none⟩) (lr.take nn):=(sh.O.1.pull (Ao.drew) G9).imp λ V h=>⟨h.1.take nn, λ x hx=>h.2 x (aP hx)⟩;obtain⟨nd,QS,YE⟩:=LS.O.1;have Su:(lr.take nn).length=nn:=by rw[aX];omega
         have QR:=ag (HIH.O (hb:=Ao.drew) (r:=⟨y,d⟩) (n:=nd) (its:=s1) (λ j=>G j\/rT q j) OQ rfl (cm Un.O) DK QS LS.O.2.1 (iX LS.O.2.2.1 HX.O.2.1) (ce:=nn) OR an (λ x hx=>sh.O.2.2.1 x (aP hx)) (uc sh.O.2.2.2.1 nn).1 zF);rw[Su]at QR;have HPX:=eS hPx Ao Ap;have agx:(nn:Int)<=(lr.length:Int):=an;have agy:(nn:Int)<=(cr:Int):=cm sh.O.2.1;have agz:(lr.length:Int)<=(cr:Int):=cm sh.O.2.1;clear mM Ap hPx GV OP Ao QF OQ G9 DK OR QS YE Su;skip;exact xX
       ·have aip:¬ (nn:Int)<(lr.length:Int):=an;have aiq:(nn:Int)<=200:=an;have hnq:nn=lr.length:=an;have E4:Hid (acv (ys.drop i1) (lr.map Ac) ((lr.take nn).map Ac) ((lr.drop nn).map Ac)):=ag ⟨zE, λ z' r e=>(by
         rw[ph HZ.O.2.2]at e;cases e;refine⟨λ e' Ea=>?_, λ e' Ea=>?_⟩
         ·obtain⟨x',ZA,rfl⟩:=aM.1 Ea;obtain⟨j,hj⟩:=gI ZA;rw[bB]at hj;split at hj
          ·exact Fy.O j x' byA hj
          ·cases hj
         ·rw[hnq]at Ea;simp at Ea), λ e=>(by rw[ph HZ.O.2.2]at e;cases e)⟩
        clear hnq
        go_wp2_with fail
        refine bP 19 ?_;refine Ra [(0,true),(1,true),(2,true),(3,true),(4,true),(5,false),(6,false),(7,false),(8,false),(9,false),(10,false),(11,false),(12,false),(13,false),(14,false),(15,false),(16,false)] ?_
        iterate 5 refine tO ?_
        iterate 12 refine tF ?_
        refine au 2 rfl ?_;refine sP 17 [0,1,2,3,4,5,6,7,8,9,10,11,12,13,14,15,16] λ K hK=>?_;go_simp;refine nP hK ?_;clear hK K;refine tP [18] ?_;refine tO ?_;refine au 0 rfl ?_;refine dP ?_;go_simp
        go_wp2_with fail
        obtain⟨Wx,hWx⟩:=bL Wn.drew;have vb:=ag vb.O.drew;rw[<-hWx]at vb⊢;clear hWx;have mM:Below V1 V1 Wx:=vb.O;have Ap:Below Wr Wr Wx:=jG.O.1.T (mM.mono jG.O.1.size);have hPx:=HP.O.other Ap;have GV:Below w3 w3 Wx:=HP.O.base.T (Ap.mono HP.O.base.size);have OP:Below w2 w2 Wx:=ue.O.2.2.T (GV.mono ue.O.2.2.size);have Ao:Below w w Wx:=eJ.O.1.T (OP.mono eJ.O.1.size);have QF:=(mM.block _ (cS jG.O.2).1).T jG.O.2;have qc:= λ j=>af QF j;have q0:=(qc 0).T rfl;have q1:=(qc 1).T rfl;have q2:=(qc 2).T rfl;have q3:=(qc 3).T rfl;have q4:=(qc 4).T rfl;have q5:=(qc 5).T rfl;have q6:=(qc 6).T rfl;have q7:=(qc 7).T rfl;have q8:=(qc 8).T rfl;simp only[cW]at q0 q1 q2 q3 q4 q5 q6 q7 q8;clear qc;have OQ:∀j,(G j\/rT q j)->j<Wx.heap.size:= λ j hj=>by exact rV
        have G9:∀j,(G j\/rT q j)->G j\/w.heap.size<=j:= λ j hj=>hj.imp id λ hj=>Ig (HP.O.GP hj) eJ.O.1.size ue.O.2.2.size;have DK:St (λ j=>G j\/rT q j) Wx.drew λ V=>ay V y.ka y.key:=(xM (n:=w2.heap.size) HKY.O.1 HKY.O.2 (GV.drew) λ j hj=>by
         rcases hj with hj|hj
         ·left;have:=Ue.O j hj;have:=eJ.O.1.size;omega
         ·right;exact(HP.O.GP hj).1)
        have OR:St (λ j=>G j\/rT q j) Wx.drew λ V=>je V (some ⟨Be,oe,none⟩) (lr.take nn):=(sh.O.1.pull (Ao.drew) G9).imp λ V h=>⟨h.1.take nn, λ x hx=>h.2 x (aP hx)⟩;obtain⟨nd,QS,YE⟩:=LS.O.1;have Su:(lr.take nn).length=nn:=by rw[aX];omega
        have QR:=ag (HIH.O (hb:=Ao.drew) (r:=⟨y,d⟩) (n:=nd) (its:=s1) (λ j=>G j\/rT q j) OQ rfl (cm Un.O) DK QS LS.O.2.1 (iX LS.O.2.2.1 HX.O.2.1) (ce:=nn) OR an (λ x hx=>sh.O.2.2.1 x (aP hx)) (uc sh.O.2.2.2.1 nn).1 zF);rw[Su]at QR;have HPX:=eS hPx Ao Ap;have agx:(nn:Int)<=(lr.length:Int):=an;have agy:(nn:Int)<=(cr:Int):=cm sh.O.2.1;have agz:(lr.length:Int)<=(cr:Int):=cm sh.O.2.1;clear mM Ap hPx GV OP Ao QF OQ G9 DK OR QS YE Su;skip;exact xX
     ·have hli:¬ (i1:Int)<(ys.length:Int):=an;obtain⟨nn,Dc⟩:=bL lr.length;have vb:Hid (Below V1 V1 V1):=ag (gb);have E4:Hid (acv (ys.drop i1) (lr.map Ac) ((lr.take nn).map Ac) ((lr.drop nn).map Ac)):=ag ⟨zE, λ z r e=>(by rw[dJ.2 an]at e;cases e), λ _=>(by rw[Dc];simp)⟩;have HV1:=ag so;clear hy hyr pg pD ZF hI hpk DP zK cL so
      go_wp2_with first
       |(refine dG 273 ?_)
       |(refine lU 273 ?_)
       |fail
      rw[<-HV1.O];rw[<-Dc];have agw:nn<=lr.length:=an;have HNN:=ag Dc;clear Dc;have mM:Below V1 V1 V1:=vb.O;have Ap:Below Wr Wr V1:=jG.O.1.T (mM.mono jG.O.1.size);have hPx:=HP.O.other Ap;have GV:Below w3 w3 V1:=HP.O.base.T (Ap.mono HP.O.base.size);have OP:Below w2 w2 V1:=ue.O.2.2.T (GV.mono ue.O.2.2.size);have Ao:Below w w V1:=eJ.O.1.T (OP.mono eJ.O.1.size);have QF:=(mM.block _ (cS jG.O.2).1).T jG.O.2;have qc:= λ j=>af QF j;have q0:=(qc 0).T rfl;have q1:=(qc 1).T rfl;have q2:=(qc 2).T rfl;have q3:=(qc 3).T rfl;have q4:=(qc 4).T rfl;have q5:=(qc 5).T rfl;have q6:=(qc 6).T rfl;have q7:=(qc 7).T rfl;have q8:=(qc 8).T rfl;simp only[cW]at q0 q1 q2 q3 q4 q5 q6 q7 q8;clear qc;have OQ:∀j,(G j\/rT q j)->j<V1.heap.size:= λ j hj=>by exact rV
      have G9:∀j,(G j\/rT q j)->G j\/w.heap.size<=j:= λ j hj=>hj.imp id λ hj=>Ig (HP.O.GP hj) eJ.O.1.size ue.O.2.2.size;have DK:St (λ j=>G j\/rT q j) V1.drew λ V=>ay V y.ka y.key:=(xM (n:=w2.heap.size) HKY.O.1 HKY.O.2 (GV.drew) λ j hj=>by
       rcases hj with hj|hj
       ·left;have:=Ue.O j hj;have:=eJ.O.1.size;omega
       ·right;exact(HP.O.GP hj).1)
      have OR:St (λ j=>G j\/rT q j) V1.drew λ V=>je V (some ⟨Be,oe,none⟩) (lr.take nn):=(sh.O.1.pull (Ao.drew) G9).imp λ V h=>⟨h.1.take nn, λ x hx=>h.2 x (aP hx)⟩;obtain⟨nd,QS,YE⟩:=LS.O.1;have Su:(lr.take nn).length=nn:=by rw[aX];omega
      have QR:=ag (HIH.O (hb:=Ao.drew) (r:=⟨y,d⟩) (n:=nd) (its:=s1) (λ j=>G j\/rT q j) OQ rfl (cm Un.O) DK QS LS.O.2.1 (iX LS.O.2.2.1 HX.O.2.1) (ce:=nn) OR an (λ x hx=>sh.O.2.2.1 x (aP hx)) (uc sh.O.2.2.2.1 nn).1 zF);rw[Su]at QR;have HPX:=eS hPx Ao Ap;have agx:(nn:Int)<=(lr.length:Int):=an;have agy:(nn:Int)<=(cr:Int):=cm sh.O.2.1;have agz:(lr.length:Int)<=(cr:Int):=cm sh.O.2.1;clear mM Ap hPx GV OP Ao QF OQ G9 DK OR QS YE Su
      go_wp2_with fail
      refine bP 10 ?_;refine tP [0,1,2,3,4,5,6] ?_
      iterate 7 refine tO ?_
      refine au 3 rfl ?_;refine sP 7 [1,2,3,4,5,6] λ K hK=>?_;go_simp;(with_reducible refine QR.O.mono ?_);rintro e w5 ⟨YC,q5,k5,rfl,py,pK,yV,OJ⟩;have FI:YC.length<=200:=by
       have h1:YC.length<=s1.length\/YC.length<=1:=by
        rcases yV with⟨h,_⟩|⟨_,h,_⟩
        ·right;have:=congrArg List.length h;simp at this;omega
        ·left;rw[aR]at h;exact h
       have:=LS.O.2.2.1;have:=HX.O.2.1;omega
      obtain⟨a',c',w',eh,DA,hbN⟩:=(HPX.O.1.other ((gb).drew.T OJ)).WR (P:=Tryz.prog) (TS:=270) (z:=(.agg lG)) (bytes:=120) bU yx rfl de py pK (cm HMS.O);have HN:=G2 DA yV FI OJ hbN;clear py pK yV OJ FI DA hbN;refine nP hK ?_;clear hK K;refine sP 8 [0,1,2,3,4,5,6,7] λ K hK=>?_;go_simp;refine nP hK ?_;clear hK K;refine tP [9] ?_;refine tO ?_;refine au 0 rfl ?_;refine dP ?_;go_simp
      go_wp2_with fail
      obtain⟨oe',hoe,jC⟩:∃oe',(if cr=nn then(some ⟨Be,oe,none⟩:az)else some ⟨Be,oe+nn*5,none⟩)=some ⟨Be,oe',none⟩/\St G w (λ V=>je V (some ⟨Be,oe',none⟩) (lr.drop nn)):=by
       by_cases hcr:cr=nn
       ·exact⟨oe,if_pos hcr,sh.O.1.imp λ V h=>⟨.inl (dJ.2 (cm sh.O.2.1)), λ x hx=>h.2 x (bm hx)⟩⟩
       ·exact⟨oe+nn*5,if_neg hcr,sh.O.1.imp λ V h=>⟨h.1.drop nn, λ x hx=>h.2 x (bm hx)⟩⟩
      refine⟨⟨i+1,oe',lr.drop nn,cr - nn,ms++YC,a',c',Q5.O.2,by have:=Q5.O.1;simp;omega,(by first|(rw[hoe,bC];rw[HNN.O,jv])|(have dN:¬ cr=nn:=(cm sh.O.2.1);rw[if_neg dN]at hoe;rw[hoe,bC])),by rw[ar],ag ⟨jC,by rw[bC];have:=sh.O.2.1;omega, λ x hx=>sh.O.2.2.1 x (bm hx),(uc sh.O.2.2.2.1 nn).2,by rw[bC];have:=sh.O.2.2.2.2;omega⟩,ag HN.O.1,ag ?_⟩,by have:=Q5.O.2;have:=Q5.O.1;simp[intOf];omega⟩;rw[aJ];exact LS.O.2.2.2 _ _ _ HX.O.2.2.2.2.2 E3 HN.O.2.1
    ·obtain rfl:i=ys.length:=an;have hI:=HI.O;rw[dJ.2 (cH)]at hI;have hms:ms.length<=200:=by have:=hI.LB.1;rw[aR]at this;have:=HX.O.2.1;omega
     have mq:=hI.fin r;have HPF:=ag HP.O.fin;have HC:=ag (Le k' HPF.O.1 an);have ad8:Below w3 w3 Wr:=HP.O.base;have acI:Below w2 w2 Wr:=ue.O.2.2.T (ad8.mono ue.O.2.2.size);have HBR:=dO acI (eJ.O.1.T (acI.mono eJ.O.1.size));have hav:=aaH ms;rw[<-hav]at mq;cases hb:ms.any (λ p=> !p.Lc)with
     |false=>
      rw[hb]at HC mq;have KU:=ag (mq.1 rfl);clear hI mq ad8 acI hav hb hms
      go_wp2_with first
       |((with_reducible refine HC.O.mono ?_);rintro e w6 ⟨rfl,lP⟩;have tl:=ag lP;clear lP)
       |fail
      go_ret;exact⟨[.kept r],some ⟨w.heap.size+1,0,none⟩,1,rfl,HWH.O.below (HBR.O.1.T (tl.O.mono HBR.O.1.size)),zg.O _ (HBR.O.1.T (tl.O.mono HBR.O.1.size)),KU.O,HBR.O.2.T (tl.O.mono HBR.O.2.size)⟩
     |true=>
      rw[hb]at HC mq;have KU:=ag (mq.2 rfl);clear hI mq ad8 acI hav hb hms
      go_wp2_with first
       |((with_reducible refine HC.O.mono ?_);rintro e w6 ⟨rfl,lP⟩;have tl:=ag lP;clear lP)
       |fail
      go_ret;exact⟨ms,q,k',rfl,HPF.O.1.below tl.O, λ p hp=>(HPF.O.2 p hp).go (ns.bH tl.O),KU.O,HBR.O.2.T (tl.O.mono HBR.O.2.size)⟩
end
end Go.Proofs.YtbiififbfefkjaaGreatDoor

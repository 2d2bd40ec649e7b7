/- The store, part 17. -/
import Derived.Test.YtkgapncajjafoaaGreatDoorMAa
import Derived.Test.YtkgapncajjafoaaGreatDoorMAp
set_option linter.unusedSimpArgs false
set_option linter.unusedVariables false
set_option maxRecDepth 100000
set_option maxHeartbeats 16000000
namespace Go.Proofs.YtkgapncajjafoaaGreatDoor
open Go.RowKit Go.Shelf
variable{p:Prop}{w:World}{b:Option Addr}{cf a1 d1 c1 a2 d2 c2 q:Nat}{ps:List Piece}{es:List aG}{o:Option aG}
section
attribute [local go_sem] Oper.semAt_some
attribute [-go_sem] Builtin.append_
theorem Xn(h:p:=by
 obtain⟨u7,aH,aQ,zM,bB,ek,jS,lz,jG,kD,nc⟩:=Q2 w (.cells (cK b ps.length cf) 37) (.cells (cw a1 d1 c1 a2 d2 c2 q) 43) (.cells (cP g m) 54) (.cells (BL n) 92) (.cells eY 37) (.cells iH 43) (.cells ck 54)
 have rS:=af (m9 (hF.below aQ) hm hC ag s j4 hid ho)
 have HN:=cj dD fu
 have hy:(1<=(o.getD aV).g\/((o.getD aV).g=0/\(o.getD aV).m=0))/\(o.getD aV).g<=q/\(o.getD aV).m<4294967296:=by
  cases o with
  |none=>exact⟨.inr ⟨rfl,rfl⟩,Nat.zero_le _,by decide⟩
  |some x=>
   have hd:=hC.ok x ho.1
   exact⟨.inl hd.info.g1,Nat.le_trans hd.gs hd.le,hd.info.m2⟩
 have jr:=kx n dD fu
 have mA:=af (λ (V:World) (hV:Below w w V)=>hF.below hV)
 have HCO:=af (λ (V:World) (X B0:Nat) (wk wn:Int) (hS:eE V B0 b ps.length cf a1 d1 c1 a2 d2 c2 q) (hX:ew V X B0 s (o.getD aV) wk wn o.isSome (aU (cR n)) 0 0 0 false 0 0 0 0 0 0 0 L0) (bS:X≠B0)=>Bk hS hX bS hy.1 ag hy.2.2 ag ag)
 have Db:=af (λ (V:World) (X B0:Nat) (wk wn:Int) (m':Nat) (wU:m'<4294967296) (hS:eE V B0 b ps.length cf a1 d1 c1 a2 d2 c2 q) (hX:ew V X B0 s (o.getD aV) wk wn o.isSome (aU (cR n)) ((o.getD aV).g+1) m' (q+1) false 0 0 0 0 0 0 0 L0) (bS:X≠B0) (F4:au V b cf ps)=>Bz (n:=n) hS hX bS F4 hm hC ho hid ag ag wU hq (λ _=>⟨rfl,dD,fu⟩) dX ma)
 first
  |(have:=zA;clear this
    have Yr:∀(α:Type) (x y:α),(if(g:Int)=((o.getD aV).g:Int)then(if(m:Int)=((o.getD aV).m:Int)then x else y)else y)=x:= λ α x y=>by
     rw[if_pos ag,if_pos ag])
  |(have Yr:∀(α:Type) (x y:α),(if(g:Int)=(0:Int)then(if(m:Int)=(0:Int)then x else y)else y)=x:= λ α x y=>by
     rw[if_pos ag,if_pos ag])
 first
  |(have:=zA;clear this
    have L1:∀(α:Type) (x y:α),(if g=(o.getD aV).g then(if m=(o.getD aV).m then x else y)else y)=x:= λ α x y=>by
     rw[if_pos hg,if_pos tJ])
  |(have L1:∀(α:Type) (x y:α),(if g=0 then(if m=0 then x else y)else y)=x:= λ α x y=>by
     rw[if_pos hg,if_pos tJ])
 first
  |(have:=zA;clear this
    skip)
  |(have F5:=hC.wj
    have h3a:decide ((32:Int)<=(c1:Int))=false:=bV
    have h3b:¬ (32:Int)<=(c1:Int):=ag
    clear F5 JU)
  |skip
 clear hF hm hC hq j4 hid ho dD fu hg tJ hy dX ma jr
 simp only[Bool.false_eq_true,if_false]at Db
 have jP:=aj bB
 have fx:=aj ek
 have kg:=af aH
 have H1:=hI9 aQ zM bB ek jS lz jG kD nc
 rw[aH]at rS jP fx
 unfold aE cU at rS
 clear bB ek jS lz jG kD zM nc aQ aH
 unfold aE cU at Db
 unfold dy
 unfold aE cU
 go_enter Tryz.func31,Tryz.ntmps31
 go_wp2_with first
  |(refine bh 37 ?_)
  |(refine bh 43 ?_)
  |(refine bh 92 ?_)
  |(refine et 54 ?_)
  |((with_reducible refine rS.O.mono ?_);rintro e w2 ⟨X,B0,wk,wn,rfl,y8,rZ,bS,Dh,sc,aC⟩
    rw[<-kg.O]at y8 rZ aC
    rw[nm]at sc
    have zb:=aj ((aC.block _ (aM H1.O.2.1)).T H1.O.2.2.2.2.2.1)
    have H2:=XE y8 rZ bS Dh sc aC
    clear y8 rZ bS Dh sc aC jP fx)
  |((with_reducible refine(nQ n _).mono ?_);rintro e w3 ⟨rfl,aL⟩
    have bA:=af aL
    have TR:=af (qb n HN.O.1 HN.O.2 w3)
    clear zb
    have zb:=aj ((aL.block _ (cG H2.O.2.2.2.2.2.size H1.O.2.1)).T ((H2.O.2.2.2.2.2.block _ (aM H1.O.2.1)).T H1.O.2.2.2.2.2.1))
    clear aL)
  |((with_reducible refine TR.O.mono ?_);rintro e w4 ⟨rfl,bH⟩
    have fH:Below w2 w2 w4:=bA.O.T (bH.mono bA.O.size)
    have qZ:ew w4 X B0 s (o.getD aV) wk wn o.isSome ⟨#[]⟩ 0 0 0 false 0 0 0 0 0 0 0 L0:=(fH.block _ (aX H2.O.2.2.2.2.1).1).T H2.O.2.2.2.2.1
    have qR:=(aa qZ 14).T rfl
    have xf:=ak qZ 14
    simp only[qA,aD]at qR
    obtain⟨w5,eT⟩:=aK (w4.setCell (za X 14) (.string (aU (cR n))))
    have zz:∀j,j≠X->w5.heap[j]? =w4.heap[j]? := λ j hj=>by rw[eT];exact Below.heap_setCell _ _ _ _ hj
    have nb:w5.heap.size=w4.heap.size:=by rw[eT];simp[World.setCell]
    have FK:ew w5 X B0 s (o.getD aV) wk wn o.isSome (aU (cR n)) 0 0 0 false 0 0 0 0 0 0 0 L0:=by
     rw[eT];unfold ew qA;simpa using aq (j:=14) (.string (aU (cR n))) qZ
    have bJ:Below w w w5:=by rw[eT];exact((H1.O.1.T (H2.O.2.2.2.2.2.mono H1.O.1.size)).T (fH.mono (cG H2.O.2.2.2.2.2.size H1.O.2.1))).setCell (p:=(za X 14)) (show w.heap.size<=X by have:=H2.O.1;have:=H1.O.2.1;omega) _
    obtain⟨wz,Pw⟩:=aK (w5.alloc (.cells ck 54))
    first
     |(have:=zA;clear this
       obtain⟨wo,wX⟩:=aK (w5.alloc (.cells (Dk ((o.getD aV).g:Int) ((o.getD aV).m:Int)) 54)))
     |(obtain⟨wo,wX⟩:=aK (w5.alloc (.cells ck 54)))
    have JK:Below w5 w5 wz:=by rw[Pw];go_grown
    have vz:Below w5 w5 wo:=by rw[wX];go_grown
    have JP:=(JK.block _ (aX FK).1).T FK
    have IC:ew wo X B0 s (o.getD aV) wk wn o.isSome (aU (cR n)) 0 0 0 false 0 0 0 0 0 0 0 L0:=(vz.block _ (aX FK).1).T FK
    have tj:=(aa JP 36).T rfl
    have x3:=(aa JP 3).T rfl
    have x4:=(aa JP 4).T rfl
    have yN:=(aa IC 13).T rfl
    have x0:=(aa IC 0).T rfl
    simp only[qA,aD]at tj x3 x4 yN x0
    first
     |(have:=zA;clear this
       have km:wo.heap[w4.heap.size]? =some (.cells (Dk ((o.getD aV).g:Int) ((o.getD aV).m:Int)) 54):=XC wX nb)
     |(have km:wo.heap[w4.heap.size]? =some (.cells ck 54):=XC wX nb)
    have Px:wo.heap[w.heap.size+1+1]? =some (.cells (cP g m) 54):=(vz.block _ (by rw[nb];have:=fH.size;have:=H2.O.2.2.2.2.2.size;have:=H1.O.2.1;omega)).T ((zz _ (cG H2.O.1 H1.O.2.1)).T ((fH.block _ (cG H2.O.2.2.2.2.2.size H1.O.2.1)).T ((H2.O.2.2.2.2.2.block _ (aM H1.O.2.1)).T H1.O.2.2.2.2.1)))
    have r0:=(aa Px 0).T rfl
    have r1:=(aa Px 1).T rfl
    have o0:=(aa km 0).T rfl
    have o1:=(aa km 1).T rfl
    have Mz:eE wo B0 b ps.length cf a1 d1 c1 a2 d2 c2 q:=(vz.block _ (by rw[nb];have:=fH.size;have:=(aX H2.O.2.2.2.1).1;omega)).T ((zz B0 (λ e=>H2.O.2.2.1 e.symm)).T ((fH.block _ (aX H2.O.2.2.2.1).1).T H2.O.2.2.2.1))
    have b7:=(aa Mz 7).T rfl
    simp only[aD]at r0 r1 o0 o1 b7
    have Wp:Hid (au wo b cf ps):=af ((mb (mA.O w4 ((H1.O.1.T (H2.O.2.2.2.2.2.mono H1.O.1.size)).T (fH.mono (cG H2.O.2.2.2.2.2.size H1.O.2.1)))) qZ zz).below vz)
    have NI:=af (HCO.O wo X B0 wk wn Mz IC H2.O.2.2.1)
    rw[wX,eT]at NI
    have HO:=J6 IC Mz fH zz vz bJ nb
    have HZ:=af (λ (k:Nat) (hk:w.heap.size<=k/\k<w.heap.size+7)=>(HO.O.2.2.2.2.1.block k (by rw[HO.O.2.2.2.2.2.2];have:=HO.O.2.2.1.size;have:=H2.O.2.2.2.2.2.size;have:=H1.O.2.1;omega)).T ((HO.O.2.2.2.1 k (cG H2.O.1 H1.O.2.1)).T ((HO.O.2.2.1.block k (cG H2.O.2.2.2.2.2.size H1.O.2.1)).T (H2.O.2.2.2.2.2.block k (aM H1.O.2.1)))))
    rw[Pw,eT]at tj x3 x4
    rw[zy]at yN
    rw[wX,eT]at yN x0 r0 r1 o0 o1 b7
    first
     |(have:=zA;clear this
       have Xo:Hid (wo=(w4.setCell (za X 14) (.string (aU (cR n)))).alloc (.cells (Dk ((o.getD aV).g:Int) ((o.getD aV).m:Int)) 54)):=af (by rw[wX,eT]))
     |(have Xo:Hid (wo=(w4.setCell (za X 14) (.string (aU (cR n)))).alloc (.cells ck 54)):=af (by rw[wX,eT]))
    clear zb bH fH qZ eT zz nb FK bJ Pw wX JK vz JP IC km Px Mz)
  |((with_reducible refine NI.O.mono ?_);rintro e w7 ⟨m',wU,rfl,hc7,ho7⟩
    rw[<-Xo.O]at ho7
    have pR:=af ho7
    have HZ4:=af (λ (k:Nat) (hk:w.heap.size<=k/\k<w.heap.size+7)=>(pR.O.block k (IQ HO.O.2.2.2.2.1.size HO.O.2.2.2.2.2.2 HO.O.2.2.1.size H2.O.2.2.2.2.2.size H1.O.2.1) (cG H2.O.1 H1.O.2.1)).T (HZ.O k hk))
    have qC:=FJ Wp.O HO.O.1 pR.O
    have zM:=(pR.O.block B0 (aX HO.O.2.1).1 (λ e=>H2.O.2.2.1 e.symm)).T HO.O.2.1
    have HM':=af wU
    have Qy:=af (Db.O w7 X B0 wk wn m' wU zM hc7 H2.O.2.2.1 qC)
    have aaG:=aj ((HZ4.O _ ag).T H1.O.2.2.2.1)
    clear wU hc7 ho7 qC zM tj x3 x4 yN x0 r0 r1 o0 o1 b7 qR xf)
  |((with_reducible refine Qy.O.mono ?_);rintro e w8 ⟨at_,b',bL,bY,p1,e1,f1,p2,e2,f2,rfl,Uz,hr8,LK⟩
    have CT:Hid (gd (λ j=>j=X\/j=B0) w7 w8):=af LK
    have HZ5:=af (λ (k:Nat) (hk:w.heap.size<=k/\k<w.heap.size+7)=>(CT.O.block k (XB pR.O.size HO.O.2.2.2.2.1.size HO.O.2.2.2.2.2.2 HO.O.2.2.1.size H2.O.2.2.2.2.2.size H1.O.2.1) (zI H2.O.1 H2.O.2.1 H1.O.2.1)).T (HZ4.O k hk))
    have nY:=cj Uz hr8
    clear Uz hr8 LK aaG)
  |(refine aP 37 rfl _ _ rfl (w.heap.size+1+1+1+1) 0 eY (cK b' bY.length bL) 37 rfl rfl ((HZ5.O _ ag).T H1.O.2.2.2.2.2.2.1) aR aO (by simp[Value.oneCell']) (λ v6 h1 h2 h3=>?_)
    simp only[aF,bD,aD]at h1
    have lx:=cV h1 (λ j (hj:j≠w.heap.size+1+1+1+1)=>h2 j hj) (h3 0 w8 (Nat.zero_le _) (dp))
    clear h1 h2 h3)
  |(refine aP 43 rfl _ _ rfl (w.heap.size+1+1+1+1+1) 0 iH (cw p1 e1 f1 p2 e2 f2 (q+1)) 43 rfl rfl ((lx.O.2.1 (w.heap.size+1+1+1+1+1) ag).T ((HZ5.O _ ag).T H1.O.2.2.2.2.2.2.2.1)) aR aO (by simp[Value.oneCell']) (λ v7 h1 h2 h3=>?_)
    simp only[aF,bD,aD]at h1
    have IB:=cV h1 (λ j (hj:j≠w.heap.size+1+1+1+1+1)=>h2 j hj) (h3 0 w8 (Nat.zero_le _) lx.O.2.2)
    clear h1 h2 h3)
  |(refine aP 54 rfl _ _ rfl (w.heap.size+1+1+1+1+1+1) 0 ck (cP ((o.getD aV).g+1) m') 54 rfl rfl ((IB.O.2.1 (w.heap.size+1+1+1+1+1+1) ag).T ((lx.O.2.1 (w.heap.size+1+1+1+1+1+1) ag).T ((HZ5.O _ ag).T H1.O.2.2.2.2.2.2.2.2))) aR aO (by simp[Value.oneCell']) (λ v8 h1 h2 h3=>?_)
    simp only[aF,bD,aD]at h1
    have LZ:=cV h1 (λ j (hj:j≠w.heap.size+1+1+1+1+1+1)=>h2 j hj) (h3 0 w8 (Nat.zero_le _) IB.O.2.2)
    clear h1 h2 h3
    have j1:=(LZ.O.2.1 (w.heap.size+1+1+1+1) ag).T ((IB.O.2.1 (w.heap.size+1+1+1+1) ag).T lx.O.1)
    have j2:=(LZ.O.2.1 (w.heap.size+1+1+1+1+1) ag).T IB.O.1
    have j3:=LZ.O.1
    have y0:=(aa j1 0).T rfl
    have y1:=(aa j1 1).T rfl
    have y2:=(aa j1 2).T rfl
    have y3:=(aa j1 3).T rfl
    have y4:=(aa j1 4).T rfl
    have z0:=(aa j2 0).T rfl
    have z1:=(aa j2 1).T rfl
    have z2:=(aa j2 2).T rfl
    have z3:=(aa j2 3).T rfl
    have z4:=(aa j2 4).T rfl
    have z5:=(aa j2 5).T rfl
    have z6:=(aa j2 6).T rfl
    have z7:=(aa j2 7).T rfl
    have z8:=(aa j2 8).T rfl
    have z9:=(aa j2 9).T rfl
    have CR:=(aa j2 10).T rfl
    have FA:=(aa j2 11).T rfl
    have z12:=(aa j2 12).T rfl
    have FB:=(aa j2 13).T rfl
    have FC:=(aa j2 14).T rfl
    have FE:=(aa j2 15).T rfl
    have FF:=(aa j2 16).T rfl
    have v0:=(aa j3 0).T rfl
    have v1:=(aa j3 1).T rfl
    simp only[aD]at y0 y1 y2 y3 y4 z0 z1 z2 z3 z4 z5 z6 z7 z8 z9 CR FA z12 FB FC FE FF v0 v1
    clear j1 j2 j3)
  |fail
 have QR:au v6 b' bL bY:=cO (W:=w8) (g:=w.heap.size+1+1+1+1) (λ j _ hj=>lx.O.2.1 j hj) nY.O.1 (db.Fw nY.O.1 ((HZ5.O _ ag).T H1.O.2.2.2.2.2.2.1) (λ j x=>by rcases j with _|_|_|_|_|j<;>simp) (λ j a n k e=>by rcases j with _|_|_|_|_|j<;>simp at e<;>omega))
 have qC:au v7 b' bL bY:=cO (W:=v6) (g:=w.heap.size+1+1+1+1+1) (λ j _ hj=>IB.O.2.1 j hj) QR (db.Fw QR ((lx.O.2.1 (w.heap.size+1+1+1+1+1) ag).T ((HZ5.O _ ag).T H1.O.2.2.2.2.2.2.2.1)) (λ j x=>by rcases j with _|_|_|_|_|_|_|_|_|_|_|_|_|_|_|_|_|j<;>simp) (λ j a n k e=>by rcases j with _|_|_|_|_|_|_|_|_|_|_|_|_|_|_|_|_|j<;>simp at e))
 have Uz:au v8 b' bL bY:=cO (W:=v7) (g:=w.heap.size+1+1+1+1+1+1) (λ j _ hj=>LZ.O.2.1 j hj) qC (db.Fw qC ((IB.O.2.1 (w.heap.size+1+1+1+1+1+1) ag).T ((lx.O.2.1 (w.heap.size+1+1+1+1+1+1) ag).T ((HZ5.O _ ag).T H1.O.2.2.2.2.2.2.2.2))) (λ j x=>by rcases j with _|_|j<;>simp) (λ j a n k e=>by rcases j with _|_|j<;>simp at e))
 have zV:Below w w v8:=by
  have vz:=HO.O.2.2.2.2.2.1.T (HO.O.2.2.2.2.1.mono HO.O.2.2.2.2.2.1.size)
  have h5:=(vz.T (pR.O.below (λ j e=>cG H2.O.1 H1.O.2.1) vz.size)).T (CT.O.below (λ j e=>zI H2.O.1 H2.O.2.1 H1.O.2.1) (Nat.le_trans vz.size pR.O.size))
  have hb:=LZ.O.2.2
  exact⟨hb.os.T h5.os,hb.tape.T h5.tape,hb.output.T h5.output,Nat.le_trans h5.size hb.size, λ k hk=>(LZ.O.2.1 k ag).T ((IB.O.2.1 k ag).T ((lx.O.2.1 k ag).T (h5.block k hk)))⟩
 have Kz:=cj Uz zV
 clear QR qC Uz zV
 refine bodyPost_ret (v:=.tuple (UY (.agg (cK b' bY.length bL)) (.agg (cw p1 e1 f1 p2 e2 f2 (q+1))) (.agg (cP ((o.getD aV).g+1) m')))) (by rw[ed rfl];go_simp) (by rfl) ⟨m',at_,b',bL,bY,p1,e1,f1,p2,e2,f2,HM'.O,rfl,Kz.O.1,nY.O.2.1,nY.O.2.2,Kz.O.2⟩):p:=h
namespace zseA
abbrev L0:=Mk.mk true
theorem zA:True:=trivial
end zseA
section
open zseA
theorem uO(hF:au w b cf ps)(hm:Marks (al ps))(hC:cB (al ps) a1 d1 c1 a2 d2 c2 q es)(hq:q<1000)(s:ByteArray)(j4:s.size<=4611686018427387904)(g m:Nat)(n:Int)(dD: -9223372036854775808<=n)(fu:n<9223372036854775808)(hid:oR s=0)(ho:fT es (dk s) o)(nm:bZ o=true)(zy:o.isSome=true)(hg:g=(o.getD aV).g)(tJ:m=(o.getD aV).m)(dX:(al ps).length+12000<=524288)(ma:(es.filter λ y=>decide (y.id≠dk s)).length+1<=32):
 Calls Tryz.prog 31 #[aE b ps.length cf,cU a1 d1 c1 a2 d2 c2 q,.string s,.agg (cP g m),.agg (dy n)] w λ e w'=>∃(m' at_:Nat) (b':Option Addr) (bL:Nat) (bY:List Piece) (p1 e1 f1 p2 e2 f2:Nat),m'<4294967296/\e= .returned (.tuple #[aE b' bY.length bL,cU p1 e1 f1 p2 e2 f2 (q+1),.agg (cP ((o.getD aV).g+1) m'),.int .i64 0])/\au w' b' bL bY/\iF ps bY 8000/\cB (al bY) p1 e1 f1 p2 e2 f2 (q+1) (ee es ⟨dk s,(o.getD aV).g+1,m',q+1,false,at_,n⟩)/\Below w w w':=Xn
end
end
section
attribute [local go_sem] Oper.semAt_some
attribute [-go_sem] Builtin.append_
namespace zseB
abbrev L0:=Mk.mk false
end zseB
open zseB
section
theorem rT(hF:au w b cf ps)(hm:Marks (al ps))(hC:cB (al ps) a1 d1 c1 a2 d2 c2 q es)(hq:q<1000)(s:ByteArray)(j4:s.size<=4611686018427387904)(g m:Nat)(n:Int)(dD: -9223372036854775808<=n)(fu:n<9223372036854775808)(hid:oR s=0)(ho:fT es (dk s) o)(nm:bZ o=false)(zy:o.isSome=false)(hg:g=0)(tJ:m=0)(JU:es.length<32)(dX:(al ps).length+12000<=524288)(ma:(es.filter λ y=>decide (y.id≠dk s)).length+1<=32):
 Calls Tryz.prog 31 #[aE b ps.length cf,cU a1 d1 c1 a2 d2 c2 q,.string s,.agg (cP g m),.agg (dy n)] w λ e w'=>∃(m' at_:Nat) (b':Option Addr) (bL:Nat) (bY:List Piece) (p1 e1 f1 p2 e2 f2:Nat),m'<4294967296/\e= .returned (.tuple #[aE b' bY.length bL,cU p1 e1 f1 p2 e2 f2 (q+1),.agg (cP ((o.getD aV).g+1) m'),.int .i64 0])/\au w' b' bL bY/\iF ps bY 8000/\cB (al bY) p1 e1 f1 p2 e2 f2 (q+1) (ee es ⟨dk s,(o.getD aV).g+1,m',q+1,false,at_,n⟩)/\Below w w w':=Xn
end
section
theorem tD(hF:au w b cf ps)(hm:Marks (al ps))(hC:cB (al ps) a1 d1 c1 a2 d2 c2 q es)(hq:q<1000)(s:ByteArray)(j4:s.size<=4611686018427387904)(g m:Nat)(n:Int)(dD: -9223372036854775808<=n)(fu:n<9223372036854775808)(hid:oR s=0)(ho:fT es (dk s) o)(nm:bZ o=false)(zy:o.isSome=true)(hg:g=0)(tJ:m=0)(dX:(al ps).length+12000<=524288)(ma:(es.filter λ y=>decide (y.id≠dk s)).length+1<=32):
 Calls Tryz.prog 31 #[aE b ps.length cf,cU a1 d1 c1 a2 d2 c2 q,.string s,.agg (cP g m),.agg (dy n)] w λ e w'=>∃(m' at_:Nat) (b':Option Addr) (bL:Nat) (bY:List Piece) (p1 e1 f1 p2 e2 f2:Nat),m'<4294967296/\e= .returned (.tuple #[aE b' bY.length bL,cU p1 e1 f1 p2 e2 f2 (q+1),.agg (cP ((o.getD aV).g+1) m'),.int .i64 0])/\au w' b' bL bY/\iF ps bY 8000/\cB (al bY) p1 e1 f1 p2 e2 f2 (q+1) (ee es ⟨dk s,(o.getD aV).g+1,m',q+1,false,at_,n⟩)/\Below w w w':=Xn
end
end
section
attribute [local go_sem] Oper.semAt_some
attribute [-go_sem] Builtin.append_
theorem Py(hF:au w b cf ps)(hm:Marks (al ps))(hC:cB (al ps) a1 d1 c1 a2 d2 c2 q es)(hq:q<1000)(s:ByteArray)(j4:s.size<=4611686018427387904)(g m:Nat)(n:Int)(dD: -9223372036854775808<=n)(fu:n<9223372036854775808)(hid:oR s=0)(ho:fT es (dk s) o)(nm:bZ o=false)(zy:o.isSome=false)(hg:g=0)(tJ:m=0)(JU:32<=es.length):
 Calls Tryz.prog 31 #[aE b ps.length cf,cU a1 d1 c1 a2 d2 c2 q,.string s,.agg (cP g m),.agg (dy n)] w λ e w'=>e= .returned (.tuple #[aE b ps.length cf,cU a1 d1 c1 a2 d2 c2 q,.agg ck,.int .i64 301])/\Below w w w':=by
 obtain⟨u7,aH,aQ,zM,bB,ek,jS,lz,jG,kD,nc⟩:=Q2 w (.cells (cK b ps.length cf) 37) (.cells (cw a1 d1 c1 a2 d2 c2 q) 43) (.cells (cP g m) 54) (.cells (BL n) 92) (.cells eY 37) (.cells iH 43) (.cells ck 54)
 have rS:=af (m9 (hF.below aQ) hm hC ag s j4 hid ho)
 have HN:=cj dD fu
 have F5:=hC.wj
 have h3a:decide ((32:Int)<=(c1:Int))=true:=bV
 have h3b:(32:Int)<=(c1:Int):=ag
 have Yr:∀(α:Type) (x y:α),(if(g:Int)=0 then(if(m:Int)=0 then x else y)else y)=x:= λ α x y=>by
  rw[if_pos ag,if_pos ag]
 have L1:∀(α:Type) (x y:α),(if g=0 then(if m=0 then x else y)else y)=x:= λ α x y=>by
  rw[if_pos hg,if_pos tJ]
 clear hF hm hC hq j4 hid ho dD fu hg tJ JU F5
 have jP:=aj bB
 have fx:=aj ek
 have kg:=af aH
 have H1:=hI9 aQ zM bB ek jS lz jG kD nc
 rw[aH]at rS jP fx
 unfold aE cU at rS
 clear bB ek jS lz jG kD zM nc aQ aH
 unfold dy
 unfold aE cU
 go_enter Tryz.func31,Tryz.ntmps31
 go_wp2_with first
  |(refine bh 37 ?_)
  |(refine bh 43 ?_)
  |(refine bh 92 ?_)
  |(refine et 54 ?_)
  |((with_reducible refine rS.O.mono ?_);rintro e w2 ⟨X,B0,wk,wn,rfl,y8,rZ,bS,Dh,sc,aC⟩
    rw[<-kg.O]at y8 rZ aC
    rw[nm]at sc
    have zb:=aj ((aC.block _ (aM H1.O.2.1)).T H1.O.2.2.2.2.2.1)
    have H2:=XE y8 rZ bS Dh sc aC
    clear y8 rZ bS Dh sc aC jP fx)
  |((with_reducible refine(nQ n _).mono ?_);rintro e w3 ⟨rfl,aL⟩
    have bA:=af aL
    have TR:=af (qb n HN.O.1 HN.O.2 w3)
    clear zb
    have zb:=aj ((aL.block _ (cG H2.O.2.2.2.2.2.size H1.O.2.1)).T ((H2.O.2.2.2.2.2.block _ (aM H1.O.2.1)).T H1.O.2.2.2.2.2.1))
    clear aL)
  |((with_reducible refine TR.O.mono ?_);rintro e w4 ⟨rfl,bH⟩
    have fH:Below w2 w2 w4:=bA.O.T (bH.mono bA.O.size)
    have qZ:ew w4 X B0 s (o.getD aV) wk wn o.isSome ⟨#[]⟩ 0 0 0 false 0 0 0 0 0 0 0 false:=(fH.block _ (aX H2.O.2.2.2.2.1).1).T H2.O.2.2.2.2.1
    have qR:=(aa qZ 14).T rfl
    have xf:=ak qZ 14
    simp only[qA,aD]at qR
    obtain⟨w5,eT⟩:=aK (w4.setCell (za X 14) (.string (aU (cR n))))
    have zz:∀j,j≠X->w5.heap[j]? =w4.heap[j]? := λ j hj=>by rw[eT];exact Below.heap_setCell _ _ _ _ hj
    have nb:w5.heap.size=w4.heap.size:=by rw[eT];simp[World.setCell]
    have FK:ew w5 X B0 s (o.getD aV) wk wn o.isSome (aU (cR n)) 0 0 0 false 0 0 0 0 0 0 0 false:=by
     rw[eT];unfold ew qA;simpa using aq (j:=14) (.string (aU (cR n))) qZ
    have bJ:Below w w w5:=by rw[eT];exact((H1.O.1.T (H2.O.2.2.2.2.2.mono H1.O.1.size)).T (fH.mono (cG H2.O.2.2.2.2.2.size H1.O.2.1))).setCell (p:=(za X 14)) (show w.heap.size<=X by have:=H2.O.1;have:=H1.O.2.1;omega) _
    obtain⟨wz,Pw⟩:=aK (w5.alloc (.cells ck 54))
    obtain⟨wo,wX⟩:=aK (w5.alloc (.cells ck 54))
    have JK:Below w5 w5 wz:=by rw[Pw];go_grown
    have vz:Below w5 w5 wo:=by rw[wX];go_grown
    have JP:=(JK.block _ (aX FK).1).T FK
    have IC:ew wo X B0 s (o.getD aV) wk wn o.isSome (aU (cR n)) 0 0 0 false 0 0 0 0 0 0 0 false:=(vz.block _ (aX FK).1).T FK
    have tj:=(aa JP 36).T rfl
    have x3:=(aa JP 3).T rfl
    have x4:=(aa JP 4).T rfl
    have yN:=(aa IC 13).T rfl
    have x0:=(aa IC 0).T rfl
    simp only[qA,aD]at tj x3 x4 yN x0
    have km:wo.heap[w4.heap.size]? =some (.cells ck 54):=XC wX nb
    have Px:wo.heap[w.heap.size+1+1]? =some (.cells (cP g m) 54):=(vz.block _ (by rw[nb];have:=fH.size;have:=H2.O.2.2.2.2.2.size;have:=H1.O.2.1;omega)).T ((zz _ (cG H2.O.1 H1.O.2.1)).T ((fH.block _ (cG H2.O.2.2.2.2.2.size H1.O.2.1)).T ((H2.O.2.2.2.2.2.block _ (aM H1.O.2.1)).T H1.O.2.2.2.2.1)))
    have r0:=(aa Px 0).T rfl
    have r1:=(aa Px 1).T rfl
    have o0:=(aa km 0).T rfl
    have o1:=(aa km 1).T rfl
    have Mz:eE wo B0 b ps.length cf a1 d1 c1 a2 d2 c2 q:=(vz.block _ (by rw[nb];have:=fH.size;have:=(aX H2.O.2.2.2.1).1;omega)).T ((zz B0 (λ e=>H2.O.2.2.1 e.symm)).T ((fH.block _ (aX H2.O.2.2.2.1).1).T H2.O.2.2.2.1))
    have b7:=(aa Mz 7).T rfl
    simp only[aD]at r0 r1 o0 o1 b7
    have HO:=J6 IC Mz fH zz vz bJ nb
    have HZ:=af (λ (k:Nat) (hk:w.heap.size<=k/\k<w.heap.size+7)=>(HO.O.2.2.2.2.1.block k (by rw[HO.O.2.2.2.2.2.2];have:=HO.O.2.2.1.size;have:=H2.O.2.2.2.2.2.size;have:=H1.O.2.1;omega)).T ((HO.O.2.2.2.1 k (cG H2.O.1 H1.O.2.1)).T ((HO.O.2.2.1.block k (cG H2.O.2.2.2.2.2.size H1.O.2.1)).T (H2.O.2.2.2.2.2.block k (aM H1.O.2.1)))))
    rw[Pw,eT]at tj x3 x4
    rw[zy]at yN
    rw[wX,eT]at yN x0 r0 r1 o0 o1 b7
    have Xo:Hid (wo=(w4.setCell (za X 14) (.string (aU (cR n)))).alloc (.cells ck 54)):=af (by rw[wX,eT])
    clear zb bH fH qZ eT zz nb FK bJ Pw wX JK vz JP IC km Px Mz)
  |fail
 rw[Xo.O.symm]
 clear tj x3 x4 yN x0 r0 r1 o0 o1 b7 qR xf Yr L1 h3a h3b
 have HE:Hid (wo.heap[w.heap.size]? =some (.cells (cK b ps.length cf) 37)/\wo.heap[w.heap.size+1]? =some (.cells (cw a1 d1 c1 a2 d2 c2 q) 43)/\wo.heap[w.heap.size+1+1+1+1]? =some (.cells eY 37)/\wo.heap[w.heap.size+1+1+1+1+1]? =some (.cells iH 43)/\wo.heap[w.heap.size+1+1+1+1+1+1]? =some (.cells ck 54)/\Below w w wo):=af ⟨(HZ.O _ ag).T H1.O.2.2.1,(HZ.O _ ag).T H1.O.2.2.2.1,(HZ.O _ ag).T H1.O.2.2.2.2.2.2.1,(HZ.O _ ag).T H1.O.2.2.2.2.2.2.2.1,(HZ.O _ ag).T H1.O.2.2.2.2.2.2.2.2,HO.O.2.2.2.2.2.1.T (HO.O.2.2.2.2.1.mono HO.O.2.2.2.2.2.1.size)⟩
 have lf:World.rangeAt (wo.drew) (w.heap.size) 0 (cK b ps.length cf):=aj (show(wo.drew).heap[w.heap.size]? =_ from(HE.O).1)
 have lk:World.rangeAt (wo.drew) (w.heap.size+1) 0 (cw a1 d1 c1 a2 d2 c2 q):=aj (show(wo.drew).heap[w.heap.size+1]? =_ from(HE.O).2.1)
 refine bP 8 ?_
 refine tP [0,1,2,3] ?_
 iterate 4 refine IA ?_
 refine ah 4 rfl ?_
 refine sP 4 [0] λ K hK=>?_
 refine lB ?_
 refine bI 37 _ _ rfl (w.heap.size+1+1+1+1) 0 eY (cK b ps.length cf) 37 rfl rfl HE.O.2.2.1 aR aO (by simp[Value.oneCell']) (λ w4 g1 g2 g3=>?_)
 simp only[aF,bD]at g1
 have pQ:=cV g1 (λ j (hj:j≠w.heap.size+1+1+1+1)=>g2 j hj) (g3 w w ag HE.O.2.2.2.2.2.drew)
 clear g1 g2 g3 lf lk
 have lk:World.rangeAt (w4) (w.heap.size+1) 0 (cw a1 d1 c1 a2 d2 c2 q):=aj (show(w4).heap[w.heap.size+1]? =_ from(pQ.O.2.1 (w.heap.size+1) ag).T HE.O.2.1)
 refine My hK ?_
 clear hK K
 refine sP 5 [0,1,4] λ K hK=>?_
 refine lB ?_
 refine bI 43 _ _ rfl (w.heap.size+1+1+1+1+1) 0 iH (cw a1 d1 c1 a2 d2 c2 q) 43 rfl rfl ((pQ.O.2.1 (w.heap.size+1+1+1+1+1) ag).T HE.O.2.2.2.1) aR aO (by simp[Value.oneCell']) (λ w5 g1 g2 g3=>?_)
 simp only[aF,bD]at g1
 have tC:=cV g1 (λ j (hj:j≠w.heap.size+1+1+1+1+1)=>g2 j hj) (g3 w w ag pQ.O.2.2)
 clear g1 g2 g3 lk
 refine My hK ?_
 clear hK K
 refine sP 6 [0,1,2,4,5] λ K hK=>?_
 refine lB ?_
 refine bI 54 _ _ rfl (w.heap.size+1+1+1+1+1+1) 0 ck ck 54 rfl rfl ((tC.O.2.1 (w.heap.size+1+1+1+1+1+1) ag).T ((pQ.O.2.1 (w.heap.size+1+1+1+1+1+1) ag).T HE.O.2.2.2.2.1)) aR aO (by simp[Value.oneCell']) (λ w6 g1 g2 g3=>?_)
 simp only[aF,bD]at g1
 have lx:=cV g1 (λ j (hj:j≠w.heap.size+1+1+1+1+1+1)=>g2 j hj) (g3 w w ag tC.O.2.2)
 clear g1 g2 g3
 refine nP hK ?_
 clear hK K
 refine tP [7] ?_
 refine IA ?_
 refine ah 0 rfl ?_
 refine dP ?_
 go_simp
 go_wp2_with fail
 have j1:=(lx.O.2.1 (w.heap.size+1+1+1+1) ag).T ((tC.O.2.1 (w.heap.size+1+1+1+1) ag).T pQ.O.1)
 have j2:=(lx.O.2.1 (w.heap.size+1+1+1+1+1) ag).T tC.O.1
 have j3:=lx.O.1
 have y0:=(aa j1 0).T rfl
 have y1:=(aa j1 1).T rfl
 have y2:=(aa j1 2).T rfl
 have y3:=(aa j1 3).T rfl
 have y4:=(aa j1 4).T rfl
 have z0:=(aa j2 0).T rfl
 have z1:=(aa j2 1).T rfl
 have z2:=(aa j2 2).T rfl
 have z3:=(aa j2 3).T rfl
 have z4:=(aa j2 4).T rfl
 have z5:=(aa j2 5).T rfl
 have z6:=(aa j2 6).T rfl
 have z7:=(aa j2 7).T rfl
 have z8:=(aa j2 8).T rfl
 have z9:=(aa j2 9).T rfl
 have CR:=(aa j2 10).T rfl
 have FA:=(aa j2 11).T rfl
 have z12:=(aa j2 12).T rfl
 have FB:=(aa j2 13).T rfl
 have FC:=(aa j2 14).T rfl
 have FE:=(aa j2 15).T rfl
 have FF:=(aa j2 16).T rfl
 have v0:=(aa j3 0).T rfl
 have v1:=(aa j3 1).T rfl
 simp only[aD]at y0 y1 y2 y3 y4 z0 z1 z2 z3 z4 z5 z6 z7 z8 z9 CR FA z12 FB FC FE FF v0 v1
 clear j1 j2 j3
 refine bodyPost_ret (v:=.tuple #[.agg (cK b ps.length cf),.agg (cw a1 d1 c1 a2 d2 c2 q),.agg ck,.int .i64 301]) (by rw[ed rfl];go_simp) (by rfl) ⟨rfl,lx.O.2.2⟩
theorem abr(h:p:=by
 obtain⟨u7,aH,aQ,zM,bB,ek,jS,lz,jG,kD,nc⟩:=Q2 w (.cells (cK b ps.length cf) 37) (.cells (cw a1 d1 c1 a2 d2 c2 q) 43) (.cells (cP g m) 54) (.cells (BL n) 92) (.cells eY 37) (.cells iH 43) (.cells ck 54)
 have rS:=af (m9 (hF.below aQ) hm hC ag s j4 hid ho)
 have HN:=cj dD fu
 first
  |(have:=zA;clear this
    have Yr:∀(α:Type) (x y:α),(if(g:Int)=((o.getD aV).g:Int)then(if(m:Int)=((o.getD aV).m:Int)then x else y)else y)=y:= λ α x y=>by
     by_cases h1:(g:Int)=((o.getD aV).g:Int)
     ·rw[if_pos h1,if_neg λ h2=>oM ⟨ag,ag⟩]
     ·rw[if_neg h1])
  |(have Yr:∀(α:Type) (x y:α),(if(g:Int)=0 then(if(m:Int)=0 then x else y)else y)=y:= λ α x y=>by
     by_cases h1:(g:Int)=0
     ·rw[if_pos h1,if_neg λ h2=>oM ⟨ag,ag⟩]
     ·rw[if_neg h1])
 first
  |(have:=zA;clear this
    have L1:∀(α:Type) (x y:α),(if g=(o.getD aV).g then(if m=(o.getD aV).m then x else y)else y)=y:= λ α x y=>by
     by_cases h1:g=(o.getD aV).g
     ·rw[if_pos h1,if_neg λ h2=>oM ⟨h1,h2⟩]
     ·rw[if_neg h1])
  |(have L1:∀(α:Type) (x y:α),(if g=0 then(if m=0 then x else y)else y)=y:= λ α x y=>by
     by_cases h1:g=0
     ·rw[if_pos h1,if_neg λ h2=>oM ⟨h1,h2⟩]
     ·rw[if_neg h1])
 clear hF hm hC hq j4 hid ho oM dD fu
 have jP:=aj bB
 have fx:=aj ek
 have kg:=af aH
 have H1:=hI9 aQ zM bB ek jS lz jG kD nc
 rw[aH]at rS jP fx
 unfold aE cU at rS
 clear bB ek jS lz jG kD zM nc aQ aH
 unfold dy
 unfold aE cU
 go_enter Tryz.func31,Tryz.ntmps31
 go_wp2_with first
  |(refine bh 37 ?_)
  |(refine bh 43 ?_)
  |(refine bh 92 ?_)
  |(refine et 54 ?_)
  |((with_reducible refine rS.O.mono ?_);rintro e w2 ⟨X,B0,wk,wn,rfl,y8,rZ,bS,Dh,sc,aC⟩
    rw[<-kg.O]at y8 rZ aC
    rw[nm]at sc
    have zb:=aj ((aC.block _ (aM H1.O.2.1)).T H1.O.2.2.2.2.2.1)
    have H2:=XE y8 rZ bS Dh sc aC
    clear y8 rZ bS Dh sc aC jP fx)
  |((with_reducible refine(nQ n _).mono ?_);rintro e w3 ⟨rfl,aL⟩
    have bA:=af aL
    have TR:=af (qb n HN.O.1 HN.O.2 w3)
    clear zb
    have zb:=aj ((aL.block _ (cG H2.O.2.2.2.2.2.size H1.O.2.1)).T ((H2.O.2.2.2.2.2.block _ (aM H1.O.2.1)).T H1.O.2.2.2.2.2.1))
    clear aL)
  |((with_reducible refine TR.O.mono ?_);rintro e w4 ⟨rfl,bH⟩
    have fH:Below w2 w2 w4:=bA.O.T (bH.mono bA.O.size)
    have qZ:ew w4 X B0 s (o.getD aV) wk wn o.isSome ⟨#[]⟩ 0 0 0 false 0 0 0 0 0 0 0 SW:=(fH.block _ (aX H2.O.2.2.2.2.1).1).T H2.O.2.2.2.2.1
    have qR:=(aa qZ 14).T rfl
    have xf:=ak qZ 14
    simp only[qA,aD]at qR
    obtain⟨w5,eT⟩:=aK (w4.setCell (za X 14) (.string (aU (cR n))))
    have zz:∀j,j≠X->w5.heap[j]? =w4.heap[j]? := λ j hj=>by rw[eT];exact Below.heap_setCell _ _ _ _ hj
    have nb:w5.heap.size=w4.heap.size:=by rw[eT];simp[World.setCell]
    have FK:ew w5 X B0 s (o.getD aV) wk wn o.isSome (aU (cR n)) 0 0 0 false 0 0 0 0 0 0 0 SW:=by
     rw[eT];unfold ew qA;simpa using aq (j:=14) (.string (aU (cR n))) qZ
    have bJ:Below w w w5:=by rw[eT];exact((H1.O.1.T (H2.O.2.2.2.2.2.mono H1.O.1.size)).T (fH.mono (cG H2.O.2.2.2.2.2.size H1.O.2.1))).setCell (p:=(za X 14)) (show w.heap.size<=X by have:=H2.O.1;have:=H1.O.2.1;omega) _
    obtain⟨wz,Pw⟩:=aK (w5.alloc (.cells ck 54))
    first
     |(have:=zA;clear this
       obtain⟨wo,wX⟩:=aK (w5.alloc (.cells (Dk ((o.getD aV).g:Int) ((o.getD aV).m:Int)) 54)))
     |(obtain⟨wo,wX⟩:=aK (w5.alloc (.cells ck 54)))
    have JK:Below w5 w5 wz:=by rw[Pw];go_grown
    have vz:Below w5 w5 wo:=by rw[wX];go_grown
    have JP:=(JK.block _ (aX FK).1).T FK
    have IC:ew wo X B0 s (o.getD aV) wk wn o.isSome (aU (cR n)) 0 0 0 false 0 0 0 0 0 0 0 SW:=(vz.block _ (aX FK).1).T FK
    have tj:=(aa JP 36).T rfl
    have x3:=(aa JP 3).T rfl
    have x4:=(aa JP 4).T rfl
    have yN:=(aa IC 13).T rfl
    have x0:=(aa IC 0).T rfl
    simp only[qA,aD]at tj x3 x4 yN x0
    first
     |(have:=zA;clear this
       have km:wo.heap[w4.heap.size]? =some (.cells (Dk ((o.getD aV).g:Int) ((o.getD aV).m:Int)) 54):=XC wX nb)
     |(have km:wo.heap[w4.heap.size]? =some (.cells ck 54):=XC wX nb)
    have Px:wo.heap[w.heap.size+1+1]? =some (.cells (cP g m) 54):=(vz.block _ (by rw[nb];have:=fH.size;have:=H2.O.2.2.2.2.2.size;have:=H1.O.2.1;omega)).T ((zz _ (cG H2.O.1 H1.O.2.1)).T ((fH.block _ (cG H2.O.2.2.2.2.2.size H1.O.2.1)).T ((H2.O.2.2.2.2.2.block _ (aM H1.O.2.1)).T H1.O.2.2.2.2.1)))
    have r0:=(aa Px 0).T rfl
    have r1:=(aa Px 1).T rfl
    have o0:=(aa km 0).T rfl
    have o1:=(aa km 1).T rfl
    have Mz:eE wo B0 b ps.length cf a1 d1 c1 a2 d2 c2 q:=(vz.block _ (by rw[nb];have:=fH.size;have:=(aX H2.O.2.2.2.1).1;omega)).T ((zz B0 (λ e=>H2.O.2.2.1 e.symm)).T ((fH.block _ (aX H2.O.2.2.2.1).1).T H2.O.2.2.2.1))
    have b7:=(aa Mz 7).T rfl
    simp only[aD]at r0 r1 o0 o1 b7
    have HO:=J6 IC Mz fH zz vz bJ nb
    have HZ:=af (λ (k:Nat) (hk:w.heap.size<=k/\k<w.heap.size+7)=>(HO.O.2.2.2.2.1.block k (by rw[HO.O.2.2.2.2.2.2];have:=HO.O.2.2.1.size;have:=H2.O.2.2.2.2.2.size;have:=H1.O.2.1;omega)).T ((HO.O.2.2.2.1 k (cG H2.O.1 H1.O.2.1)).T ((HO.O.2.2.1.block k (cG H2.O.2.2.2.2.2.size H1.O.2.1)).T (H2.O.2.2.2.2.2.block k (aM H1.O.2.1)))))
    rw[Pw,eT]at tj x3 x4
    rw[wX,eT]at yN x0 r0 r1 o0 o1 b7
    first
     |(have:=zA;clear this
       have Xo:Hid (wo=(w4.setCell (za X 14) (.string (aU (cR n)))).alloc (.cells (Dk ((o.getD aV).g:Int) ((o.getD aV).m:Int)) 54)):=af (by rw[wX,eT]))
     |(have Xo:Hid (wo=(w4.setCell (za X 14) (.string (aU (cR n)))).alloc (.cells ck 54)):=af (by rw[wX,eT]))
    clear zb bH fH qZ eT zz nb FK bJ Pw wX JK vz JP IC km Px Mz)
  |fail
 rw[Xo.O.symm]
 clear tj x3 x4 yN x0 r0 r1 o0 o1 b7 qR xf Yr L1
 have HE:Hid (wo.heap[w.heap.size]? =some (.cells (cK b ps.length cf) 37)/\wo.heap[w.heap.size+1]? =some (.cells (cw a1 d1 c1 a2 d2 c2 q) 43)/\wo.heap[w.heap.size+1+1+1+1]? =some (.cells eY 37)/\wo.heap[w.heap.size+1+1+1+1+1]? =some (.cells iH 43)/\wo.heap[w.heap.size+1+1+1+1+1+1]? =some (.cells ck 54)/\Below w w wo):=af ⟨(HZ.O _ ag).T H1.O.2.2.1,(HZ.O _ ag).T H1.O.2.2.2.1,(HZ.O _ ag).T H1.O.2.2.2.2.2.2.1,(HZ.O _ ag).T H1.O.2.2.2.2.2.2.2.1,(HZ.O _ ag).T H1.O.2.2.2.2.2.2.2.2,HO.O.2.2.2.2.2.1.T (HO.O.2.2.2.2.1.mono HO.O.2.2.2.2.2.1.size)⟩
 have lf:World.rangeAt (wo.drew) (w.heap.size) 0 (cK b ps.length cf):=aj (show(wo.drew).heap[w.heap.size]? =_ from(HE.O).1)
 have lk:World.rangeAt (wo.drew) (w.heap.size+1) 0 (cw a1 d1 c1 a2 d2 c2 q):=aj (show(wo.drew).heap[w.heap.size+1]? =_ from(HE.O).2.1)
 refine bP 8 ?_
 refine tP [0,1,2,3] ?_
 iterate 4 refine IA ?_
 refine ah 4 rfl ?_
 refine sP 4 [0] λ K hK=>?_
 refine lB ?_
 refine bI 37 _ _ rfl (w.heap.size+1+1+1+1) 0 eY (cK b ps.length cf) 37 rfl rfl HE.O.2.2.1 aR aO (by simp[Value.oneCell']) (λ w4 g1 g2 g3=>?_)
 simp only[aF,bD,aD]at g1
 have pQ:=cV g1 (λ j (hj:j≠w.heap.size+1+1+1+1)=>g2 j hj) (g3 w w ag HE.O.2.2.2.2.2.drew)
 clear g1 g2 g3 lf lk
 have lk:World.rangeAt (w4) (w.heap.size+1) 0 (cw a1 d1 c1 a2 d2 c2 q):=aj (show(w4).heap[w.heap.size+1]? =_ from(pQ.O.2.1 (w.heap.size+1) ag).T HE.O.2.1)
 refine My hK ?_
 clear hK K
 refine sP 5 [0,1,4] λ K hK=>?_
 refine lB ?_
 refine bI 43 _ _ rfl (w.heap.size+1+1+1+1+1) 0 iH (cw a1 d1 c1 a2 d2 c2 q) 43 rfl rfl ((pQ.O.2.1 (w.heap.size+1+1+1+1+1) ag).T HE.O.2.2.2.1) aR aO (by simp[Value.oneCell']) (λ w5 g1 g2 g3=>?_)
 simp only[aF,bD,aD]at g1
 have tC:=cV g1 (λ j (hj:j≠w.heap.size+1+1+1+1+1)=>g2 j hj) (g3 w w ag pQ.O.2.2)
 clear g1 g2 g3 lk
 refine My hK ?_
 clear hK K
 refine sP 6 [0,1,2,4,5] λ K hK=>?_
 refine lB ?_
 refine bI 54 _ _ rfl (w.heap.size+1+1+1+1+1+1) 0 ck ck 54 rfl rfl ((tC.O.2.1 (w.heap.size+1+1+1+1+1+1) ag).T ((pQ.O.2.1 (w.heap.size+1+1+1+1+1+1) ag).T HE.O.2.2.2.2.1)) aR aO (by simp[Value.oneCell']) (λ w6 g1 g2 g3=>?_)
 simp only[aF,bD,aD]at g1
 have lx:=cV g1 (λ j (hj:j≠w.heap.size+1+1+1+1+1+1)=>g2 j hj) (g3 w w ag tC.O.2.2)
 clear g1 g2 g3
 refine nP hK ?_
 clear hK K
 refine tP [7] ?_
 refine IA ?_
 refine ah 0 rfl ?_
 refine dP ?_
 go_simp
 go_wp2_with fail
 have j1:=(lx.O.2.1 (w.heap.size+1+1+1+1) ag).T ((tC.O.2.1 (w.heap.size+1+1+1+1) ag).T pQ.O.1)
 have j2:=(lx.O.2.1 (w.heap.size+1+1+1+1+1) ag).T tC.O.1
 have j3:=lx.O.1
 have y0:=(aa j1 0).T rfl
 have y1:=(aa j1 1).T rfl
 have y2:=(aa j1 2).T rfl
 have y3:=(aa j1 3).T rfl
 have y4:=(aa j1 4).T rfl
 have z0:=(aa j2 0).T rfl
 have z1:=(aa j2 1).T rfl
 have z2:=(aa j2 2).T rfl
 have z3:=(aa j2 3).T rfl
 have z4:=(aa j2 4).T rfl
 have z5:=(aa j2 5).T rfl
 have z6:=(aa j2 6).T rfl
 have z7:=(aa j2 7).T rfl
 have z8:=(aa j2 8).T rfl
 have z9:=(aa j2 9).T rfl
 have CR:=(aa j2 10).T rfl
 have FA:=(aa j2 11).T rfl
 have z12:=(aa j2 12).T rfl
 have FB:=(aa j2 13).T rfl
 have FC:=(aa j2 14).T rfl
 have FE:=(aa j2 15).T rfl
 have FF:=(aa j2 16).T rfl
 have v0:=(aa j3 0).T rfl
 have v1:=(aa j3 1).T rfl
 simp only[aD]at y0 y1 y2 y3 y4 z0 z1 z2 z3 z4 z5 z6 z7 z8 z9 CR FA z12 FB FC FE FF v0 v1
 clear j1 j2 j3
 refine bodyPost_ret (v:=.tuple (YP (.agg (cK b ps.length cf)) (.agg (cw a1 d1 c1 a2 d2 c2 q)) (.agg ck))) (by rw[ed rfl];go_simp) (by rfl) ⟨rfl,lx.O.2.2⟩):p:=h
namespace zsfA
abbrev SW:=Mk.mk true
theorem zA:True:=trivial
end zsfA
section
open zsfA
theorem zd(hF:au w b cf ps)(hm:Marks (al ps))(hC:cB (al ps) a1 d1 c1 a2 d2 c2 q es)(hq:q<1000)(s:ByteArray)(j4:s.size<=4611686018427387904)(g m:Nat)(n:Int)(dD: -9223372036854775808<=n)(fu:n<9223372036854775808)(hid:oR s=0)(ho:fT es (dk s) o)(nm:bZ o=true)(oM:¬ (g=(o.getD aV).g/\m=(o.getD aV).m)):
 Calls Tryz.prog 31 #[aE b ps.length cf,cU a1 d1 c1 a2 d2 c2 q,.string s,.agg (cP g m),.agg (dy n)] w λ e w'=>e= .returned (.tuple #[aE b ps.length cf,cU a1 d1 c1 a2 d2 c2 q,.agg ck,.int .i64 300])/\Below w w w':=abr
end
namespace zsfB
abbrev SW:=Mk.mk false
end zsfB
section
open zsfB
theorem wF(hF:au w b cf ps)(hm:Marks (al ps))(hC:cB (al ps) a1 d1 c1 a2 d2 c2 q es)(hq:q<1000)(s:ByteArray)(j4:s.size<=4611686018427387904)(g m:Nat)(n:Int)(dD: -9223372036854775808<=n)(fu:n<9223372036854775808)(hid:oR s=0)(ho:fT es (dk s) o)(nm:bZ o=false)(oM:¬ (g=0/\m=0)):
 Calls Tryz.prog 31 #[aE b ps.length cf,cU a1 d1 c1 a2 d2 c2 q,.string s,.agg (cP g m),.agg (dy n)] w λ e w'=>e= .returned (.tuple #[aE b ps.length cf,cU a1 d1 c1 a2 d2 c2 q,.agg ck,.int .i64 300])/\Below w w w':=abr
end
end
end Go.Proofs.YtkgapncajjafoaaGreatDoor

/- The store, part 16. -/
import Derived.Test.YtkgapncajjafoaaGreatDoorMAa
import Derived.Test.YtkgapncajjafoaaGreatDoorMAo
set_option linter.unusedSimpArgs false
set_option linter.unusedVariables false
set_option maxRecDepth 100000
set_option maxHeartbeats 16000000
namespace Go.Proofs.YtkgapncajjafoaaGreatDoor
open Go.RowKit Go.Shelf
variable{w W:World}{b:Option Addr}{cf a1 d1 c1 a2 d2 c2 q X c B0 g m s a p1 e1 f1 p2 e2 f2:Nat}{ps:List Piece}{es:List aG}{o:Option aG}{id tx:ByteArray}{y:aG}{wk wn:Int}{kn d wt:Bool}
section
attribute [local go_sem] Oper.semAt_some
attribute [-go_sem] Builtin.append_
theorem LX(hF:au w b cf ps)(hm:Marks (al ps))(hC:cB (al ps) a1 d1 c1 a2 d2 c2 q es)(hq:q<1000)(s:ByteArray)(j4:s.size<=4611686018427387904)(g m:Nat)(hid:oR s≠0):
 Calls Tryz.prog 30 #[aE b ps.length cf,cU a1 d1 c1 a2 d2 c2 q,.string s,.agg (cP g m)] w λ e w'=>e= .returned (.tuple #[aE b ps.length cf,cU a1 d1 c1 a2 d2 c2 q,.agg ck,.int .i64 290])/\Below w w w':=by
 obtain⟨u6,aH,aQ,kC,bB,ek,jS,lz,jG,kD⟩:=QW w (.cells (cK b ps.length cf) 37) (.cells (cw a1 d1 c1 a2 d2 c2 q) 43) (.cells (cP g m) 54) (.cells eY 37) (.cells iH 43) (.cells ck 54)
 have rS:=af (FG (hF.below aQ) hm hC ag s j4 hid)
 clear hF hm hC hq j4 hid
 have jP:=aj bB
 have fx:=aj ek
 have kg:=af aH
 have H1:=YR aQ kC bB ek jS lz jG kD
 rw[aH]at rS jP fx
 unfold aE cU at rS
 clear bB ek jS lz jG kC kD aQ aH
 unfold aE cU
 go_enter Tryz.func30,Tryz.ntmps30
 go_wp2_with first
  |(refine bh 37 ?_)
  |(refine bh 43 ?_)
  |((with_reducible refine rS.O.mono ?_);rintro e w2 ⟨rfl,aC⟩
    rw[<-kg.O]at aC
    have H2:=af aC
    clear aC jP fx)
  |fail
 have HE:Hid (w2.heap[w.heap.size]? =some (.cells (cK b ps.length cf) 37)/\w2.heap[w.heap.size+1]? =some (.cells (cw a1 d1 c1 a2 d2 c2 q) 43)/\w2.heap[w.heap.size+1+1+1]? =some (.cells eY 37)/\w2.heap[w.heap.size+1+1+1+1]? =some (.cells iH 43)/\w2.heap[w.heap.size+1+1+1+1+1]? =some (.cells ck 54)/\Below w w w2):=af ⟨(H2.O.block _ (aM H1.O.2.1)).T H1.O.2.2.1,(H2.O.block _ (aM H1.O.2.1)).T H1.O.2.2.2.1,(H2.O.block _ (aM H1.O.2.1)).T H1.O.2.2.2.2.2.1,(H2.O.block _ (aM H1.O.2.1)).T H1.O.2.2.2.2.2.2.1,(H2.O.block _ (aM H1.O.2.1)).T H1.O.2.2.2.2.2.2.2,H1.O.1.T (H2.O.mono H1.O.1.size)⟩
 have lf:World.rangeAt (w2.drew) (w.heap.size) 0 (cK b ps.length cf):=aj (show(w2.drew).heap[w.heap.size]? =_ from(HE.O).1)
 have lk:World.rangeAt (w2.drew) (w.heap.size+1) 0 (cw a1 d1 c1 a2 d2 c2 q):=aj (show(w2.drew).heap[w.heap.size+1]? =_ from(HE.O).2.1)
 refine bP 8 ?_
 refine tP [0,1,2,3] ?_
 iterate 4 refine IA ?_
 refine ah 4 rfl ?_
 refine sP 4 [0] λ K hK=>?_
 refine lB ?_
 refine bI 37 _ _ rfl (w.heap.size+1+1+1) 0 eY (cK b ps.length cf) 37 rfl rfl HE.O.2.2.1 aR aO (by simp[Value.oneCell']) (λ w4 g1 g2 g3=>?_)
 simp only[aF,bD]at g1
 have pQ:=cV g1 (λ j (hj:j≠w.heap.size+1+1+1)=>g2 j hj) (g3 w w ag HE.O.2.2.2.2.2.drew)
 clear g1 g2 g3 lf lk
 have lk:World.rangeAt (w4) (w.heap.size+1) 0 (cw a1 d1 c1 a2 d2 c2 q):=aj (show(w4).heap[w.heap.size+1]? =_ from(pQ.O.2.1 (w.heap.size+1) ag).T HE.O.2.1)
 refine My hK ?_
 clear hK K
 refine sP 5 [0,1,4] λ K hK=>?_
 refine lB ?_
 refine bI 43 _ _ rfl (w.heap.size+1+1+1+1) 0 iH (cw a1 d1 c1 a2 d2 c2 q) 43 rfl rfl ((pQ.O.2.1 (w.heap.size+1+1+1+1) ag).T HE.O.2.2.2.1) aR aO (by simp[Value.oneCell']) (λ w5 g1 g2 g3=>?_)
 simp only[aF,bD]at g1
 have tC:=cV g1 (λ j (hj:j≠w.heap.size+1+1+1+1)=>g2 j hj) (g3 w w ag pQ.O.2.2)
 clear g1 g2 g3 lk
 refine My hK ?_
 clear hK K
 refine sP 6 [0,1,2,4,5] λ K hK=>?_
 refine lB ?_
 refine bI 54 _ _ rfl (w.heap.size+1+1+1+1+1) 0 ck ck 54 rfl rfl ((tC.O.2.1 (w.heap.size+1+1+1+1+1) ag).T ((pQ.O.2.1 (w.heap.size+1+1+1+1+1) ag).T HE.O.2.2.2.2.1)) aR aO (by simp[Value.oneCell']) (λ w6 g1 g2 g3=>?_)
 simp only[aF,bD]at g1
 have lx:=cV g1 (λ j (hj:j≠w.heap.size+1+1+1+1+1)=>g2 j hj) (g3 w w ag tC.O.2.2)
 clear g1 g2 g3
 refine nP hK ?_
 clear hK K
 refine tP [7] ?_
 refine IA ?_
 refine ah 0 rfl ?_
 refine dP ?_
 go_simp
 go_wp2_with fail
 have j1:=(lx.O.2.1 (w.heap.size+1+1+1) ag).T ((tC.O.2.1 (w.heap.size+1+1+1) ag).T pQ.O.1)
 have j2:=(lx.O.2.1 (w.heap.size+1+1+1+1) ag).T tC.O.1
 have j3:=lx.O.1
 have y0:=(aa j1 0).T rfl
 have y1:=(aa j1 1).T rfl
 have y2:=(aa j1 2).T rfl
 have y3:=(aa j1 3).T rfl
 have y4:=(aa j1 4).T rfl
 have z0:=(aa j2 0).T rfl
 have z1:=(aa j2 1).T rfl
 have z2:=(aa j2 2).T rfl
 have z3:=(aa j2 3).T rfl
 have z4:=(aa j2 4).T rfl
 have z5:=(aa j2 5).T rfl
 have z6:=(aa j2 6).T rfl
 have z7:=(aa j2 7).T rfl
 have z8:=(aa j2 8).T rfl
 have z9:=(aa j2 9).T rfl
 have CR:=(aa j2 10).T rfl
 have FA:=(aa j2 11).T rfl
 have z12:=(aa j2 12).T rfl
 have FB:=(aa j2 13).T rfl
 have FC:=(aa j2 14).T rfl
 have FE:=(aa j2 15).T rfl
 have FF:=(aa j2 16).T rfl
 have v0:=(aa j3 0).T rfl
 have v1:=(aa j3 1).T rfl
 simp only[aD]at y0 y1 y2 y3 y4 z0 z1 z2 z3 z4 z5 z6 z7 z8 z9 CR FA z12 FB FC FE FF v0 v1
 clear j1 j2 j3
 refine bodyPost_ret (v:=.tuple (YO (.agg (cK b ps.length cf)) (.agg (cw a1 d1 c1 a2 d2 c2 q)) (.agg ck))) (by rw[ed rfl];go_simp) (by rfl) ⟨rfl,lx.O.2.2⟩
theorem FI(hF:au w b cf ps)(hm:Marks (al ps))(hC:cB (al ps) a1 d1 c1 a2 d2 c2 q es)(hq:q<1000)(s:ByteArray)(j4:s.size<=4611686018427387904)(g m:Nat)(hid:oR s=0)(ho:fT es (dk s) o)(nm:bZ o=false):
 Calls Tryz.prog 30 #[aE b ps.length cf,cU a1 d1 c1 a2 d2 c2 q,.string s,.agg (cP g m)] w λ e w'=>e= .returned (.tuple #[aE b ps.length cf,cU a1 d1 c1 a2 d2 c2 q,.agg ck,.int .i64 4])/\Below w w w':=by
 obtain⟨u6,aH,aQ,kC,bB,ek,jS,lz,jG,kD⟩:=QW w (.cells (cK b ps.length cf) 37) (.cells (cw a1 d1 c1 a2 d2 c2 q) 43) (.cells (cP g m) 54) (.cells eY 37) (.cells iH 43) (.cells ck 54)
 have rS:=af (m9 (hF.below aQ) hm hC ag s j4 hid ho)
 clear hF hm hC hq j4 hid ho
 have jP:=aj bB
 have fx:=aj ek
 have kg:=af aH
 have H1:=YR aQ kC bB ek jS lz jG kD
 rw[aH]at rS jP fx
 unfold aE cU at rS
 clear bB ek jS lz jG kC kD aQ aH
 unfold aE cU
 go_enter Tryz.func30,Tryz.ntmps30
 go_wp2_with first
  |(refine bh 37 ?_)
  |(refine bh 43 ?_)
  |((with_reducible refine rS.O.mono ?_);rintro e w2 ⟨X,B0,wk,wn,rfl,y8,rZ,bS,Dh,sc,aC⟩
    rw[<-kg.O]at y8 rZ aC
    rw[nm]at sc
    have Gg:=(aa sc 18).T rfl
    have xf:=ak sc 18
    simp only[qA,aD]at Gg
    obtain⟨w3,cL⟩:=aK (w2.setCell (za X 18) (.bool true))
    have fY:∀j,j≠X->w3.heap[j]? =w2.heap[j]? := λ j hj=>by rw[cL];exact Below.heap_setCell _ _ _ _ hj
    have Di:ew w3 X B0 s (o.getD aV) wk wn o.isSome ⟨#[]⟩ 0 0 0 true 0 0 0 0 0 0 0 false:=by
     rw[cL];unfold ew qA;simpa using aq (j:=18) (.bool true) sc
    have bA:Hid (Below w w w3):=af (by rw[cL];exact(H1.O.1.T (aC.mono H1.O.1.size)).setCell (p:=(za X 18)) (show w.heap.size<=X by have:=H1.O.2.1;omega) _)
    have H3:=J6 Di ((fY B0 (λ e=>bS e.symm)).T Dh) fY aC y8 rZ bS
    have HZ:=af (λ (k:Nat) (hk:w.heap.size<=k/\k<w.heap.size+6)=>(H3.O.2.2.1 k (cG H3.O.2.2.2.2.1 H1.O.2.1)).T (H3.O.2.2.2.1.block k (aM H1.O.2.1)))
    have tj:=(aa Di 36).T rfl
    have x3:=(aa Di 3).T rfl
    have x4:=(aa Di 4).T rfl
    simp only[qA,aD]at tj x3 x4
    have r0:=(aa ((fY _ (aM H1.O.2.1)).T ((aC.block _ (aM H1.O.2.1)).T H1.O.2.2.2.2.1)) 0).T rfl
    have r1:=(aa ((fY _ (aM H1.O.2.1)).T ((aC.block _ (aM H1.O.2.1)).T H1.O.2.2.2.2.1)) 1).T rfl
    simp only[aD]at r0 r1
    rw[cL]at tj x3 x4 r0 r1
    have mL:=af cL
    clear Dh sc aC y8 rZ bS fY Di cL jP fx)
  |fail
 rw[mL.O.symm]
 clear tj x3 x4 r0 r1 Gg xf
 have HE:Hid (w3.heap[w.heap.size]? =some (.cells (cK b ps.length cf) 37)/\w3.heap[w.heap.size+1]? =some (.cells (cw a1 d1 c1 a2 d2 c2 q) 43)/\w3.heap[w.heap.size+1+1+1]? =some (.cells eY 37)/\w3.heap[w.heap.size+1+1+1+1]? =some (.cells iH 43)/\w3.heap[w.heap.size+1+1+1+1+1]? =some (.cells ck 54)/\Below w w w3):=af ⟨(HZ.O _ ag).T H1.O.2.2.1,(HZ.O _ ag).T H1.O.2.2.2.1,(HZ.O _ ag).T H1.O.2.2.2.2.2.1,(HZ.O _ ag).T H1.O.2.2.2.2.2.2.1,(HZ.O _ ag).T H1.O.2.2.2.2.2.2.2,bA.O⟩
 have lf:World.rangeAt (w3.drew) (w.heap.size) 0 (cK b ps.length cf):=aj (show(w3.drew).heap[w.heap.size]? =_ from(HE.O).1)
 have lk:World.rangeAt (w3.drew) (w.heap.size+1) 0 (cw a1 d1 c1 a2 d2 c2 q):=aj (show(w3.drew).heap[w.heap.size+1]? =_ from(HE.O).2.1)
 refine bP 8 ?_
 refine tP [0,1,2,3] ?_
 iterate 4 refine IA ?_
 refine ah 4 rfl ?_
 refine sP 4 [0] λ K hK=>?_
 refine lB ?_
 refine bI 37 _ _ rfl (w.heap.size+1+1+1) 0 eY (cK b ps.length cf) 37 rfl rfl HE.O.2.2.1 aR aO (by simp[Value.oneCell']) (λ w4 g1 g2 g3=>?_)
 simp only[aF,bD]at g1
 have pQ:=cV g1 (λ j (hj:j≠w.heap.size+1+1+1)=>g2 j hj) (g3 w w ag HE.O.2.2.2.2.2.drew)
 clear g1 g2 g3 lf lk
 have lk:World.rangeAt (w4) (w.heap.size+1) 0 (cw a1 d1 c1 a2 d2 c2 q):=aj (show(w4).heap[w.heap.size+1]? =_ from(pQ.O.2.1 (w.heap.size+1) ag).T HE.O.2.1)
 refine My hK ?_
 clear hK K
 refine sP 5 [0,1,4] λ K hK=>?_
 refine lB ?_
 refine bI 43 _ _ rfl (w.heap.size+1+1+1+1) 0 iH (cw a1 d1 c1 a2 d2 c2 q) 43 rfl rfl ((pQ.O.2.1 (w.heap.size+1+1+1+1) ag).T HE.O.2.2.2.1) aR aO (by simp[Value.oneCell']) (λ w5 g1 g2 g3=>?_)
 simp only[aF,bD]at g1
 have tC:=cV g1 (λ j (hj:j≠w.heap.size+1+1+1+1)=>g2 j hj) (g3 w w ag pQ.O.2.2)
 clear g1 g2 g3 lk
 refine My hK ?_
 clear hK K
 refine sP 6 [0,1,2,4,5] λ K hK=>?_
 refine lB ?_
 refine bI 54 _ _ rfl (w.heap.size+1+1+1+1+1) 0 ck ck 54 rfl rfl ((tC.O.2.1 (w.heap.size+1+1+1+1+1) ag).T ((pQ.O.2.1 (w.heap.size+1+1+1+1+1) ag).T HE.O.2.2.2.2.1)) aR aO (by simp[Value.oneCell']) (λ w6 g1 g2 g3=>?_)
 simp only[aF,bD]at g1
 have lx:=cV g1 (λ j (hj:j≠w.heap.size+1+1+1+1+1)=>g2 j hj) (g3 w w ag tC.O.2.2)
 clear g1 g2 g3
 refine nP hK ?_
 clear hK K
 refine tP [7] ?_
 refine IA ?_
 refine ah 0 rfl ?_
 refine dP ?_
 go_simp
 go_wp2_with fail
 have j1:=(lx.O.2.1 (w.heap.size+1+1+1) ag).T ((tC.O.2.1 (w.heap.size+1+1+1) ag).T pQ.O.1)
 have j2:=(lx.O.2.1 (w.heap.size+1+1+1+1) ag).T tC.O.1
 have j3:=lx.O.1
 have y0:=(aa j1 0).T rfl
 have y1:=(aa j1 1).T rfl
 have y2:=(aa j1 2).T rfl
 have y3:=(aa j1 3).T rfl
 have y4:=(aa j1 4).T rfl
 have z0:=(aa j2 0).T rfl
 have z1:=(aa j2 1).T rfl
 have z2:=(aa j2 2).T rfl
 have z3:=(aa j2 3).T rfl
 have z4:=(aa j2 4).T rfl
 have z5:=(aa j2 5).T rfl
 have z6:=(aa j2 6).T rfl
 have z7:=(aa j2 7).T rfl
 have z8:=(aa j2 8).T rfl
 have z9:=(aa j2 9).T rfl
 have CR:=(aa j2 10).T rfl
 have FA:=(aa j2 11).T rfl
 have z12:=(aa j2 12).T rfl
 have FB:=(aa j2 13).T rfl
 have FC:=(aa j2 14).T rfl
 have FE:=(aa j2 15).T rfl
 have FF:=(aa j2 16).T rfl
 have v0:=(aa j3 0).T rfl
 have v1:=(aa j3 1).T rfl
 simp only[aD]at y0 y1 y2 y3 y4 z0 z1 z2 z3 z4 z5 z6 z7 z8 z9 CR FA z12 FB FC FE FF v0 v1
 clear j1 j2 j3
 refine bodyPost_ret (v:=.tuple #[.agg (cK b ps.length cf),.agg (cw a1 d1 c1 a2 d2 c2 q),.agg ck,.int .i64 4]) (by rw[ed rfl];go_simp) (by rfl) ⟨rfl,lx.O.2.2⟩
theorem CX(hF:au w b cf ps)(hm:Marks (al ps))(hC:cB (al ps) a1 d1 c1 a2 d2 c2 q es)(hq:q<1000)(s:ByteArray)(j4:s.size<=4611686018427387904)(g m:Nat)(hid:oR s=0)(ho:fT es (dk s) o)(nm:bZ o=true)(oM:¬ (g=(o.getD aV).g/\m=(o.getD aV).m)):
 Calls Tryz.prog 30 #[aE b ps.length cf,cU a1 d1 c1 a2 d2 c2 q,.string s,.agg (cP g m)] w λ e w'=>e= .returned (.tuple #[aE b ps.length cf,cU a1 d1 c1 a2 d2 c2 q,.agg ck,.int .i64 300])/\Below w w w':=by
 obtain⟨u6,aH,aQ,kC,bB,ek,jS,lz,jG,kD⟩:=QW w (.cells (cK b ps.length cf) 37) (.cells (cw a1 d1 c1 a2 d2 c2 q) 43) (.cells (cP g m) 54) (.cells eY 37) (.cells iH 43) (.cells ck 54)
 have rS:=af (m9 (hF.below aQ) hm hC ag s j4 hid ho)
 have HIF:Hid (∀(α:Type) (x y:α),(if(g:Int)=((o.getD aV).g:Int)then(if(m:Int)=((o.getD aV).m:Int)then x else y)else y)=y):=af λ α x y=>by
  by_cases h1:(g:Int)=((o.getD aV).g:Int)
  ·rw[if_pos h1,if_neg λ h2=>oM ⟨ag,ag⟩]
  ·rw[if_neg h1]
 clear hF hm hC hq j4 hid ho oM
 have jP:=aj bB
 have fx:=aj ek
 have kg:=af aH
 have H1:=YR aQ kC bB ek jS lz jG kD
 rw[aH]at rS jP fx
 unfold aE cU at rS
 clear bB ek jS lz jG kC kD aQ aH
 unfold aE cU
 go_enter Tryz.func30,Tryz.ntmps30
 go_wp2_with first
  |(refine bh 37 ?_)
  |(refine bh 43 ?_)
  |((with_reducible refine rS.O.mono ?_);rintro e w2 ⟨X,B0,wk,wn,rfl,y8,rZ,bS,Dh,sc,aC⟩
    rw[<-kg.O]at y8 rZ aC
    rw[nm]at sc
    have Gg:=(aa sc 18).T rfl
    have xf:=ak sc 18
    simp only[qA,aD]at Gg
    obtain⟨w3,cL⟩:=aK (w2.setCell (za X 18) (.bool true))
    have fY:∀j,j≠X->w3.heap[j]? =w2.heap[j]? := λ j hj=>by rw[cL];exact Below.heap_setCell _ _ _ _ hj
    have Di:ew w3 X B0 s (o.getD aV) wk wn o.isSome ⟨#[]⟩ 0 0 0 true 0 0 0 0 0 0 0 true:=by
     rw[cL];unfold ew qA;simpa using aq (j:=18) (.bool true) sc
    have bA:Hid (Below w w w3):=af (by rw[cL];exact(H1.O.1.T (aC.mono H1.O.1.size)).setCell (p:=(za X 18)) (show w.heap.size<=X by have:=H1.O.2.1;omega) _)
    have H3:=J6 Di ((fY B0 (λ e=>bS e.symm)).T Dh) fY aC y8 rZ bS
    have HZ:=af (λ (k:Nat) (hk:w.heap.size<=k/\k<w.heap.size+6)=>(H3.O.2.2.1 k (cG H3.O.2.2.2.2.1 H1.O.2.1)).T (H3.O.2.2.2.1.block k (aM H1.O.2.1)))
    have tj:=(aa Di 36).T rfl
    have x3:=(aa Di 3).T rfl
    have x4:=(aa Di 4).T rfl
    simp only[qA,aD]at tj x3 x4
    have r0:=(aa ((fY _ (aM H1.O.2.1)).T ((aC.block _ (aM H1.O.2.1)).T H1.O.2.2.2.2.1)) 0).T rfl
    have r1:=(aa ((fY _ (aM H1.O.2.1)).T ((aC.block _ (aM H1.O.2.1)).T H1.O.2.2.2.2.1)) 1).T rfl
    simp only[aD]at r0 r1
    rw[cL]at tj x3 x4 r0 r1
    have mL:=af cL
    clear Dh sc aC y8 rZ bS fY Di cL jP fx)
  |fail
 rw[mL.O.symm]at tj x3 x4 r0 r1
 rw[mL.O.symm]
 refine bP 9 ?_
 refine tP [0,1,2,3,4,5,6,7,8] ?_
 iterate 9 (refine sh rfl aO ?_ ?_ ?_;rotate_left;·(first|(go_simp<;>with_reducible rfl)|(go_simp;exact HIF.O _ _ _));try simp only[Act.put,bD,Yt])
 refine ah 0 rfl ?_
 refine dP ?_
 go_simp
 clear tj x3 x4 r0 r1 Gg xf
 go_wp2_with fail
 have HE:Hid (w3.heap[w.heap.size]? =some (.cells (cK b ps.length cf) 37)/\w3.heap[w.heap.size+1]? =some (.cells (cw a1 d1 c1 a2 d2 c2 q) 43)/\w3.heap[w.heap.size+1+1+1]? =some (.cells eY 37)/\w3.heap[w.heap.size+1+1+1+1]? =some (.cells iH 43)/\w3.heap[w.heap.size+1+1+1+1+1]? =some (.cells ck 54)/\Below w w w3):=af ⟨(HZ.O _ ag).T H1.O.2.2.1,(HZ.O _ ag).T H1.O.2.2.2.1,(HZ.O _ ag).T H1.O.2.2.2.2.2.1,(HZ.O _ ag).T H1.O.2.2.2.2.2.2.1,(HZ.O _ ag).T H1.O.2.2.2.2.2.2.2,bA.O⟩
 have lf:World.rangeAt (w3.drew) (w.heap.size) 0 (cK b ps.length cf):=aj (show(w3.drew).heap[w.heap.size]? =_ from(HE.O).1)
 have lk:World.rangeAt (w3.drew) (w.heap.size+1) 0 (cw a1 d1 c1 a2 d2 c2 q):=aj (show(w3.drew).heap[w.heap.size+1]? =_ from(HE.O).2.1)
 refine bP 8 ?_
 refine tP [0,1,2,3] ?_
 iterate 4 refine IA ?_
 refine ah 4 rfl ?_
 refine sP 4 [0] λ K hK=>?_
 refine lB ?_
 refine bI 37 _ _ rfl (w.heap.size+1+1+1) 0 eY (cK b ps.length cf) 37 rfl rfl HE.O.2.2.1 aR aO (by simp[Value.oneCell']) (λ w4 g1 g2 g3=>?_)
 simp only[aF,bD]at g1
 have pQ:=cV g1 (λ j (hj:j≠w.heap.size+1+1+1)=>g2 j hj) (g3 w w ag HE.O.2.2.2.2.2.drew.drew)
 clear g1 g2 g3 lf lk
 have lk:World.rangeAt (w4) (w.heap.size+1) 0 (cw a1 d1 c1 a2 d2 c2 q):=aj (show(w4).heap[w.heap.size+1]? =_ from(pQ.O.2.1 (w.heap.size+1) ag).T HE.O.2.1)
 refine My hK ?_
 clear hK K
 refine sP 5 [0,1,4] λ K hK=>?_
 refine lB ?_
 refine bI 43 _ _ rfl (w.heap.size+1+1+1+1) 0 iH (cw a1 d1 c1 a2 d2 c2 q) 43 rfl rfl ((pQ.O.2.1 (w.heap.size+1+1+1+1) ag).T HE.O.2.2.2.1) aR aO (by simp[Value.oneCell']) (λ w5 g1 g2 g3=>?_)
 simp only[aF,bD]at g1
 have tC:=cV g1 (λ j (hj:j≠w.heap.size+1+1+1+1)=>g2 j hj) (g3 w w ag pQ.O.2.2)
 clear g1 g2 g3 lk
 refine My hK ?_
 clear hK K
 refine sP 6 [0,1,2,4,5] λ K hK=>?_
 refine lB ?_
 refine bI 54 _ _ rfl (w.heap.size+1+1+1+1+1) 0 ck ck 54 rfl rfl ((tC.O.2.1 (w.heap.size+1+1+1+1+1) ag).T ((pQ.O.2.1 (w.heap.size+1+1+1+1+1) ag).T HE.O.2.2.2.2.1)) aR aO (by simp[Value.oneCell']) (λ w6 g1 g2 g3=>?_)
 simp only[aF,bD]at g1
 have lx:=cV g1 (λ j (hj:j≠w.heap.size+1+1+1+1+1)=>g2 j hj) (g3 w w ag tC.O.2.2)
 clear g1 g2 g3
 refine nP hK ?_
 clear hK K
 refine tP [7] ?_
 refine IA ?_
 refine ah 0 rfl ?_
 refine dP ?_
 go_simp
 go_wp2_with fail
 have j1:=(lx.O.2.1 (w.heap.size+1+1+1) ag).T ((tC.O.2.1 (w.heap.size+1+1+1) ag).T pQ.O.1)
 have j2:=(lx.O.2.1 (w.heap.size+1+1+1+1) ag).T tC.O.1
 have j3:=lx.O.1
 have y0:=(aa j1 0).T rfl
 have y1:=(aa j1 1).T rfl
 have y2:=(aa j1 2).T rfl
 have y3:=(aa j1 3).T rfl
 have y4:=(aa j1 4).T rfl
 have z0:=(aa j2 0).T rfl
 have z1:=(aa j2 1).T rfl
 have z2:=(aa j2 2).T rfl
 have z3:=(aa j2 3).T rfl
 have z4:=(aa j2 4).T rfl
 have z5:=(aa j2 5).T rfl
 have z6:=(aa j2 6).T rfl
 have z7:=(aa j2 7).T rfl
 have z8:=(aa j2 8).T rfl
 have z9:=(aa j2 9).T rfl
 have CR:=(aa j2 10).T rfl
 have FA:=(aa j2 11).T rfl
 have z12:=(aa j2 12).T rfl
 have FB:=(aa j2 13).T rfl
 have FC:=(aa j2 14).T rfl
 have FE:=(aa j2 15).T rfl
 have FF:=(aa j2 16).T rfl
 have v0:=(aa j3 0).T rfl
 have v1:=(aa j3 1).T rfl
 simp only[aD]at y0 y1 y2 y3 y4 z0 z1 z2 z3 z4 z5 z6 z7 z8 z9 CR FA z12 FB FC FE FF v0 v1
 clear j1 j2 j3
 refine bodyPost_ret (v:=.tuple (YP (.agg (cK b ps.length cf)) (.agg (cw a1 d1 c1 a2 d2 c2 q)) (.agg ck))) (by rw[ed rfl];go_simp) (by rfl) ⟨rfl,lx.O.2.2⟩
theorem SV(h:au W b c ps)(hX:ew W X B0 id y wk wn kn tx g m s d a p1 e1 f1 p2 e2 f2 wt):db X b ps:=
 db.Fw h hX
  (λ j x=>by
    intro e;have:=Array.mem_of_getElem? e;simp at this)
  (λ j a' n k e=>by
    have:=Array.mem_of_getElem? e;simp at this;omega)
theorem FJ{W':World}(h:au W b c ps)(hX:ew W X B0 id y wk wn kn tx g m s d a p1 e1 f1 p2 e2 f2 wt)(ho:gd (·=X) W W'):au W' b c ps:=
 cO (λ j hj bS=>ho.block j hj bS) h (SV h hX)
theorem LY(hF:au w b cf ps)(hm:Marks (al ps))(hC:cB (al ps) a1 d1 c1 a2 d2 c2 q es)(hq:q<1000)(s:ByteArray)(j4:s.size<=4611686018427387904)(g m:Nat)(hid:oR s=0)(ho:fT es (dk s) o)(nm:bZ o=true)(oM:g=(o.getD aV).g/\m=(o.getD aV).m)(dX:(al ps).length+12000<=524288)(ma:(es.filter λ y=>decide (y.id≠dk s)).length+1<=32):
 Calls Tryz.prog 30 #[aE b ps.length cf,cU a1 d1 c1 a2 d2 c2 q,.string s,.agg (cP g m)] w λ e w'=>∃(m' at_:Nat) (b':Option Addr) (bL:Nat) (bY:List Piece) (p1 e1 f1 p2 e2 f2:Nat),m'<4294967296/\e= .returned (.tuple #[aE b' bY.length bL,cU p1 e1 f1 p2 e2 f2 (q+1),.agg (cP ((o.getD aV).g+1) m'),.int .i64 0])/\au w' b' bL bY/\iF ps bY 8000/\cB (al bY) p1 e1 f1 p2 e2 f2 (q+1) (ee es ⟨dk s,(o.getD aV).g+1,m',q+1,true,at_,0⟩)/\Below w w w':=by
 obtain⟨u6,aH,aQ,kC,bB,ek,jS,lz,jG,kD⟩:=QW w (.cells (cK b ps.length cf) 37) (.cells (cw a1 d1 c1 a2 d2 c2 q) 43) (.cells (cP g m) 54) (.cells eY 37) (.cells iH 43) (.cells ck 54)
 have rS:=af (m9 (hF.below aQ) hm hC ag s j4 hid ho)
 have hy:1<=(o.getD aV).g/\(o.getD aV).g<=q/\(o.getD aV).m<4294967296:=by
  cases o with
  |none=>simp[bZ]at nm
  |some x=>
   have hd:=hC.ok x ho.1
   exact⟨hd.info.g1,Nat.le_trans hd.gs hd.le,hd.info.m2⟩
 have mA:=af (λ (V:World) (hV:Below w w V)=>hF.below hV)
 have HCO:=af (λ (V:World) (X B0:Nat) (wk wn:Int) (hS:eE V B0 b ps.length cf a1 d1 c1 a2 d2 c2 q) (hX:ew V X B0 s (o.getD aV) wk wn o.isSome ⟨#[]⟩ 0 0 0 true 0 0 0 0 0 0 0 true) (bS:X≠B0)=>Bk hS hX bS (.inl hy.1) ag hy.2.2 ag bd)
 have Db:=af (λ (V:World) (X B0:Nat) (wk wn:Int) (m':Nat) (wU:m'<4294967296) (hS:eE V B0 b ps.length cf a1 d1 c1 a2 d2 c2 q) (hX:ew V X B0 s (o.getD aV) wk wn o.isSome ⟨#[]⟩ ((o.getD aV).g+1) m' (q+1) true 0 0 0 0 0 0 0 true) (bS:X≠B0) (F4:au V b cf ps)=>Bz (n:=0) hS hX bS F4 hm hC ho hid ag ag wU hq (λ e=>absurd e bd) dX ma)
 have HIF:Hid (∀(α:Type) (x y:α),(if(g:Int)=((o.getD aV).g:Int)then(if(m:Int)=((o.getD aV).m:Int)then x else y)else y)=x):=af λ α x y=>by
  rw[if_pos (by rw[oM.1]),if_pos (by rw[oM.2])]
 clear hF hm hC hq j4 hid ho oM dX ma hy
 have jP:=aj bB
 have fx:=aj ek
 have kg:=af aH
 have H1:=YR aQ kC bB ek jS lz jG kD
 rw[aH]at rS jP fx
 unfold aE cU at rS
 clear bB ek jS lz jG kC kD aQ aH
 simp only[if_true]at Db
 unfold aE cU at Db
 unfold aE cU
 go_enter Tryz.func30,Tryz.ntmps30
 go_wp2_with first
  |(refine bh 37 ?_)
  |(refine bh 43 ?_)
  |((with_reducible refine rS.O.mono ?_);rintro e w2 ⟨X,B0,wk,wn,rfl,y8,rZ,bS,Dh,sc,aC⟩
    rw[<-kg.O]at y8 rZ aC
    rw[nm]at sc
    have Gg:=(aa sc 18).T rfl
    have xf:=ak sc 18
    simp only[qA,aD]at Gg
    obtain⟨w3,cL⟩:=aK (w2.setCell (za X 18) (.bool true))
    have fY:∀j,j≠X->w3.heap[j]? =w2.heap[j]? := λ j hj=>by rw[cL];exact Below.heap_setCell _ _ _ _ hj
    have Di:ew w3 X B0 s (o.getD aV) wk wn o.isSome ⟨#[]⟩ 0 0 0 true 0 0 0 0 0 0 0 true:=by
     rw[cL];unfold ew qA;simpa using aq (j:=18) (.bool true) sc
    have Dc:Hid (au w3 b cf ps):=af (mb (mA.O w2 (H1.O.1.T (aC.mono H1.O.1.size))) sc fY)
    have uN:Hid (w3.heap.size=w2.heap.size):=af (by rw[cL];simp[World.setCell])
    have NI:=af (HCO.O w3.drew X B0 wk wn ((fY B0 (λ e=>bS e.symm)).T Dh) Di bS)
    have bA:Hid (Below w w w3):=af (by rw[cL];exact(H1.O.1.T (aC.mono H1.O.1.size)).setCell (p:=(za X 18)) (show w.heap.size<=X by have:=H1.O.2.1;omega) _)
    have H3:=J6 Di ((fY B0 (λ e=>bS e.symm)).T Dh) fY aC y8 rZ bS
    have HZ:=af (λ (k:Nat) (hk:w.heap.size<=k/\k<w.heap.size+6)=>(H3.O.2.2.1 k (cG H3.O.2.2.2.2.1 H1.O.2.1)).T (H3.O.2.2.2.1.block k (aM H1.O.2.1)))
    have tj:=(aa Di 36).T rfl
    have x3:=(aa Di 3).T rfl
    have x4:=(aa Di 4).T rfl
    simp only[qA,aD]at tj x3 x4
    have r0:=(aa ((fY _ (aM H1.O.2.1)).T ((aC.block _ (aM H1.O.2.1)).T H1.O.2.2.2.2.1)) 0).T rfl
    have r1:=(aa ((fY _ (aM H1.O.2.1)).T ((aC.block _ (aM H1.O.2.1)).T H1.O.2.2.2.2.1)) 1).T rfl
    simp only[aD]at r0 r1
    rw[cL]at tj x3 x4 r0 r1
    have mL:=af cL
    clear Dh sc aC y8 rZ bS fY Di cL jP fx)
  |fail
 rw[mL.O.symm]at tj x3 x4 r0 r1
 rw[mL.O.symm]
 refine bP 9 ?_
 refine tP [0,1,2,3,4,5,6,7,8] ?_
 iterate 9 (refine sh rfl aO ?_ ?_ ?_;rotate_left;·(first|(go_simp<;>with_reducible rfl)|(go_simp;exact HIF.O _ _ _));try simp only[Act.put,bD,Yt])
 refine ah 0 rfl ?_
 refine dP ?_
 go_simp
 clear tj x3 x4 r0 r1 Gg xf
 go_wp2_with first
  |((with_reducible refine NI.O.mono ?_);rintro e w4 ⟨m',wU,rfl,qZ,o8⟩
    have pR:Hid (gd (·=X) w3 w4):=af ⟨o8.os,o8.tape,o8.output,o8.size,o8.block⟩
    have HZ4:=af (λ (k:Nat) (hk:w.heap.size<=k/\k<w.heap.size+6)=>(pR.O.block k (IQ bA.O.size H3.O.2.2.2.2.1 H1.O.2.1 H3.O.2.2.2.1.size uN.O) (cG H3.O.2.2.2.2.1 H1.O.2.1)).T (HZ.O k hk))
    have GC:=FJ Dc.O H3.O.1 pR.O
    have Aw:=(pR.O.block B0 (aX H3.O.2.1).1 (λ e=>H3.O.2.2.2.2.2.2 e.symm)).T H3.O.2.1
    have HM':=af wU
    have Qy:=af (Db.O w4 X B0 wk wn m' wU Aw qZ H3.O.2.2.2.2.2.2 GC)
    have OU:=aj ((HZ4.O _ ag).T H1.O.2.2.2.1)
    have HC4:=af qZ
    clear wU qZ o8 GC Aw)
  |(refine bh 43 ?_)
  |((with_reducible refine Qy.O.mono ?_);rintro e w5 ⟨at_,b',bL,bY,p1,e1,f1,p2,e2,f2,rfl,yY,zD,Uy⟩
    have CT:Hid (gd (λ j=>j=X\/j=B0) w4 w5):=af Uy
    have HZ5:=af (λ (k:Nat) (hk:w.heap.size<=k/\k<w.heap.size+6)=>(CT.O.block k (Tm pR.O.size H3.O.2.2.2.1.size uN.O H1.O.2.1) (zI H3.O.2.2.2.2.1 H3.O.2.2.2.2.2.1 H1.O.2.1)).T (HZ4.O k hk))
    have nY:=cj yY zD
    clear yY zD Uy OU)
  |(refine aP 37 rfl _ _ rfl (w.heap.size+1+1+1) 0 eY (cK b' bY.length bL) 37 rfl rfl ((HZ5.O _ ag).T H1.O.2.2.2.2.2.1) aR aO (by simp[Value.oneCell']) (λ w6 h1 h2 h3=>?_)
    simp only[aF,bD,aD]at h1
    have lx:=cV h1 (λ j (hj:j≠w.heap.size+1+1+1)=>h2 j hj) (h3 0 w5 (Nat.zero_le _) (dp))
    clear h1 h2 h3)
  |(refine aP 43 rfl _ _ rfl (w.heap.size+1+1+1+1) 0 iH (cw p1 e1 f1 p2 e2 f2 (q+1)) 43 rfl rfl ((lx.O.2.1 (w.heap.size+1+1+1+1) ag).T ((HZ5.O _ ag).T H1.O.2.2.2.2.2.2.1)) aR aO (by simp[Value.oneCell']) (λ w7 h1 h2 h3=>?_)
    simp only[aF,bD,aD]at h1
    have IB:=cV h1 (λ j (hj:j≠w.heap.size+1+1+1+1)=>h2 j hj) (h3 0 w5 (Nat.zero_le _) lx.O.2.2)
    clear h1 h2 h3)
  |(refine aP 54 rfl _ _ rfl (w.heap.size+1+1+1+1+1) 0 ck (cP ((o.getD aV).g+1) m') 54 rfl rfl ((IB.O.2.1 (w.heap.size+1+1+1+1+1) ag).T ((lx.O.2.1 (w.heap.size+1+1+1+1+1) ag).T ((HZ5.O _ ag).T H1.O.2.2.2.2.2.2.2))) aR aO (by simp[Value.oneCell']) (λ w8 h1 h2 h3=>?_)
    simp only[aF,bD,aD]at h1
    have LZ:=cV h1 (λ j (hj:j≠w.heap.size+1+1+1+1+1)=>h2 j hj) (h3 0 w5 (Nat.zero_le _) IB.O.2.2)
    clear h1 h2 h3
    have j1:=(LZ.O.2.1 (w.heap.size+1+1+1) ag).T ((IB.O.2.1 (w.heap.size+1+1+1) ag).T lx.O.1)
    have j2:=(LZ.O.2.1 (w.heap.size+1+1+1+1) ag).T IB.O.1
    have j3:=LZ.O.1
    have y0:=(aa j1 0).T rfl
    have y1:=(aa j1 1).T rfl
    have y2:=(aa j1 2).T rfl
    have y3:=(aa j1 3).T rfl
    have y4:=(aa j1 4).T rfl
    have z0:=(aa j2 0).T rfl
    have z1:=(aa j2 1).T rfl
    have z2:=(aa j2 2).T rfl
    have z3:=(aa j2 3).T rfl
    have z4:=(aa j2 4).T rfl
    have z5:=(aa j2 5).T rfl
    have z6:=(aa j2 6).T rfl
    have z7:=(aa j2 7).T rfl
    have z8:=(aa j2 8).T rfl
    have z9:=(aa j2 9).T rfl
    have CR:=(aa j2 10).T rfl
    have FA:=(aa j2 11).T rfl
    have z12:=(aa j2 12).T rfl
    have FB:=(aa j2 13).T rfl
    have FC:=(aa j2 14).T rfl
    have FE:=(aa j2 15).T rfl
    have FF:=(aa j2 16).T rfl
    have v0:=(aa j3 0).T rfl
    have v1:=(aa j3 1).T rfl
    simp only[aD]at y0 y1 y2 y3 y4 z0 z1 z2 z3 z4 z5 z6 z7 z8 z9 CR FA z12 FB FC FE FF v0 v1
    clear j1 j2 j3)
  |fail
 have QR:au w6 b' bL bY:=cO (W:=w5) (g:=w.heap.size+1+1+1) (λ j _ hj=>lx.O.2.1 j hj) nY.O.1 (db.Fw nY.O.1 ((HZ5.O _ ag).T H1.O.2.2.2.2.2.1) (λ j x=>by rcases j with _|_|_|_|_|j<;>simp) (λ j a n k e=>by rcases j with _|_|_|_|_|j<;>simp at e<;>omega))
 have qC:au w7 b' bL bY:=cO (W:=w6) (g:=w.heap.size+1+1+1+1) (λ j _ hj=>IB.O.2.1 j hj) QR (db.Fw QR ((lx.O.2.1 (w.heap.size+1+1+1+1) ag).T ((HZ5.O _ ag).T H1.O.2.2.2.2.2.2.1)) (λ j x=>by rcases j with _|_|_|_|_|_|_|_|_|_|_|_|_|_|_|_|_|j<;>simp) (λ j a n k e=>by rcases j with _|_|_|_|_|_|_|_|_|_|_|_|_|_|_|_|_|j<;>simp at e))
 have Uz:au w8 b' bL bY:=cO (W:=w7) (g:=w.heap.size+1+1+1+1+1) (λ j _ hj=>LZ.O.2.1 j hj) qC (db.Fw qC ((IB.O.2.1 (w.heap.size+1+1+1+1+1) ag).T ((lx.O.2.1 (w.heap.size+1+1+1+1+1) ag).T ((HZ5.O _ ag).T H1.O.2.2.2.2.2.2.2))) (λ j x=>by rcases j with _|_|j<;>simp) (λ j a n k e=>by rcases j with _|_|j<;>simp at e))
 have zV:Below w w w8:=by
  have h5:=(bA.O.T (pR.O.below (λ j e=>cG H3.O.2.2.2.2.1 H1.O.2.1) bA.O.size)).T (CT.O.below (λ j e=>zI H3.O.2.2.2.2.1 H3.O.2.2.2.2.2.1 H1.O.2.1) (Nat.le_trans bA.O.size pR.O.size))
  have hb:=LZ.O.2.2
  exact⟨hb.os.T h5.os,hb.tape.T h5.tape,hb.output.T h5.output,Nat.le_trans h5.size hb.size, λ k hk=>(LZ.O.2.1 k ag).T ((IB.O.2.1 k ag).T ((lx.O.2.1 k ag).T (h5.block k hk)))⟩
 have Kz:=cj Uz zV
 clear QR qC Uz zV
 refine bodyPost_ret (v:=.tuple (UY (.agg (cK b' bY.length bL)) (.agg (cw p1 e1 f1 p2 e2 f2 (q+1))) (.agg (cP ((o.getD aV).g+1) m')))) (by rw[ed rfl];go_simp) (by rfl) ⟨m',at_,b',bL,bY,p1,e1,f1,p2,e2,f2,HM'.O,rfl,Kz.O.1,nY.O.2.1,nY.O.2.2,Kz.O.2⟩
theorem Xm(hF:au w b cf ps)(hm:Marks (al ps))(hC:cB (al ps) a1 d1 c1 a2 d2 c2 q es)(hq:q<1000)(s:ByteArray)(j4:s.size<=4611686018427387904)(g m:Nat)(n:Int)(dD: -9223372036854775808<=n)(fu:n<9223372036854775808)(hid:oR s≠0):
 Calls Tryz.prog 31 #[aE b ps.length cf,cU a1 d1 c1 a2 d2 c2 q,.string s,.agg (cP g m),.agg (dy n)] w λ e w'=>e= .returned (.tuple #[aE b ps.length cf,cU a1 d1 c1 a2 d2 c2 q,.agg ck,.int .i64 290])/\Below w w w':=by
 obtain⟨u7,aH,aQ,zM,bB,ek,jS,lz,jG,kD,nc⟩:=Q2 w (.cells (cK b ps.length cf) 37) (.cells (cw a1 d1 c1 a2 d2 c2 q) 43) (.cells (cP g m) 54) (.cells (BL n) 92) (.cells eY 37) (.cells iH 43) (.cells ck 54)
 have rS:=af (FG (hF.below aQ) hm hC ag s j4 hid)
 clear hF hm hC hq j4 hid dD fu
 have jP:=aj bB
 have fx:=aj ek
 have kg:=af aH
 have H1:=hI9 aQ zM bB ek jS lz jG kD nc
 rw[aH]at rS jP fx
 unfold aE cU at rS
 clear bB ek jS lz jG kD zM nc aQ aH
 unfold dy
 unfold aE cU
 go_enter Tryz.func31,Tryz.ntmps31
 go_wp2_with first
  |(refine bh 37 ?_)
  |(refine bh 43 ?_)
  |((with_reducible refine rS.O.mono ?_);rintro e w2 ⟨rfl,aC⟩
    rw[<-kg.O]at aC
    have H2:=af aC
    clear aC jP fx)
  |fail
 have HE:Hid (w2.heap[w.heap.size]? =some (.cells (cK b ps.length cf) 37)/\w2.heap[w.heap.size+1]? =some (.cells (cw a1 d1 c1 a2 d2 c2 q) 43)/\w2.heap[w.heap.size+1+1+1+1]? =some (.cells eY 37)/\w2.heap[w.heap.size+1+1+1+1+1]? =some (.cells iH 43)/\w2.heap[w.heap.size+1+1+1+1+1+1]? =some (.cells ck 54)/\Below w w w2):=af ⟨(H2.O.block _ (aM H1.O.2.1)).T H1.O.2.2.1,(H2.O.block _ (aM H1.O.2.1)).T H1.O.2.2.2.1,(H2.O.block _ (aM H1.O.2.1)).T H1.O.2.2.2.2.2.2.1,(H2.O.block _ (aM H1.O.2.1)).T H1.O.2.2.2.2.2.2.2.1,(H2.O.block _ (aM H1.O.2.1)).T H1.O.2.2.2.2.2.2.2.2,H1.O.1.T (H2.O.mono H1.O.1.size)⟩
 have lf:World.rangeAt (w2.drew) (w.heap.size) 0 (cK b ps.length cf):=aj (show(w2.drew).heap[w.heap.size]? =_ from(HE.O).1)
 have lk:World.rangeAt (w2.drew) (w.heap.size+1) 0 (cw a1 d1 c1 a2 d2 c2 q):=aj (show(w2.drew).heap[w.heap.size+1]? =_ from(HE.O).2.1)
 refine bP 8 ?_
 refine tP [0,1,2,3] ?_
 iterate 4 refine IA ?_
 refine ah 4 rfl ?_
 refine sP 4 [0] λ K hK=>?_
 refine lB ?_
 refine bI 37 _ _ rfl (w.heap.size+1+1+1+1) 0 eY (cK b ps.length cf) 37 rfl rfl HE.O.2.2.1 aR aO (by simp[Value.oneCell']) (λ w4 g1 g2 g3=>?_)
 simp only[aF,bD]at g1
 have pQ:=cV g1 (λ j (hj:j≠w.heap.size+1+1+1+1)=>g2 j hj) (g3 w w ag HE.O.2.2.2.2.2.drew)
 clear g1 g2 g3 lf lk
 have lk:World.rangeAt (w4) (w.heap.size+1) 0 (cw a1 d1 c1 a2 d2 c2 q):=aj (show(w4).heap[w.heap.size+1]? =_ from(pQ.O.2.1 (w.heap.size+1) ag).T HE.O.2.1)
 refine My hK ?_
 clear hK K
 refine sP 5 [0,1,4] λ K hK=>?_
 refine lB ?_
 refine bI 43 _ _ rfl (w.heap.size+1+1+1+1+1) 0 iH (cw a1 d1 c1 a2 d2 c2 q) 43 rfl rfl ((pQ.O.2.1 (w.heap.size+1+1+1+1+1) ag).T HE.O.2.2.2.1) aR aO (by simp[Value.oneCell']) (λ w5 g1 g2 g3=>?_)
 simp only[aF,bD]at g1
 have tC:=cV g1 (λ j (hj:j≠w.heap.size+1+1+1+1+1)=>g2 j hj) (g3 w w ag pQ.O.2.2)
 clear g1 g2 g3 lk
 refine My hK ?_
 clear hK K
 refine sP 6 [0,1,2,4,5] λ K hK=>?_
 refine lB ?_
 refine bI 54 _ _ rfl (w.heap.size+1+1+1+1+1+1) 0 ck ck 54 rfl rfl ((tC.O.2.1 (w.heap.size+1+1+1+1+1+1) ag).T ((pQ.O.2.1 (w.heap.size+1+1+1+1+1+1) ag).T HE.O.2.2.2.2.1)) aR aO (by simp[Value.oneCell']) (λ w6 g1 g2 g3=>?_)
 simp only[aF,bD]at g1
 have lx:=cV g1 (λ j (hj:j≠w.heap.size+1+1+1+1+1+1)=>g2 j hj) (g3 w w ag tC.O.2.2)
 clear g1 g2 g3
 refine nP hK ?_
 clear hK K
 refine tP [7] ?_
 refine IA ?_
 refine ah 0 rfl ?_
 refine dP ?_
 go_simp
 go_wp2_with fail
 have j1:=(lx.O.2.1 (w.heap.size+1+1+1+1) ag).T ((tC.O.2.1 (w.heap.size+1+1+1+1) ag).T pQ.O.1)
 have j2:=(lx.O.2.1 (w.heap.size+1+1+1+1+1) ag).T tC.O.1
 have j3:=lx.O.1
 have y0:=(aa j1 0).T rfl
 have y1:=(aa j1 1).T rfl
 have y2:=(aa j1 2).T rfl
 have y3:=(aa j1 3).T rfl
 have y4:=(aa j1 4).T rfl
 have z0:=(aa j2 0).T rfl
 have z1:=(aa j2 1).T rfl
 have z2:=(aa j2 2).T rfl
 have z3:=(aa j2 3).T rfl
 have z4:=(aa j2 4).T rfl
 have z5:=(aa j2 5).T rfl
 have z6:=(aa j2 6).T rfl
 have z7:=(aa j2 7).T rfl
 have z8:=(aa j2 8).T rfl
 have z9:=(aa j2 9).T rfl
 have CR:=(aa j2 10).T rfl
 have FA:=(aa j2 11).T rfl
 have z12:=(aa j2 12).T rfl
 have FB:=(aa j2 13).T rfl
 have FC:=(aa j2 14).T rfl
 have FE:=(aa j2 15).T rfl
 have FF:=(aa j2 16).T rfl
 have v0:=(aa j3 0).T rfl
 have v1:=(aa j3 1).T rfl
 simp only[aD]at y0 y1 y2 y3 y4 z0 z1 z2 z3 z4 z5 z6 z7 z8 z9 CR FA z12 FB FC FE FF v0 v1
 clear j1 j2 j3
 refine bodyPost_ret (v:=.tuple (YO (.agg (cK b ps.length cf)) (.agg (cw a1 d1 c1 a2 d2 c2 q)) (.agg ck))) (by rw[ed rfl];go_simp) (by rfl) ⟨rfl,lx.O.2.2⟩
end
end Go.Proofs.YtkgapncajjafoaaGreatDoor

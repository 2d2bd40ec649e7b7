/- The store, part 11. -/
import Derived.Test.YtbiififbfefkjaaGreatDoorMAf
set_option linter.unusedSimpArgs false
set_option linter.unusedVariables false
set_option maxRecDepth 100000
set_option maxHeartbeats 16000000
namespace Go.Proofs.YtbiififbfefkjaaGreatDoor
open Go.RowKit Go.Shelf
variable{w:World}{xs:List aH}
section
attribute [local go_sem] Oper.semAt_some
abbrev TW:Value:=.agg sN
theorem XA(kv vv:Value)(hk:kv.oneCell'=true)(hv:vv.oneCell'=true)(w:World):
 Calls Tryz.prog 180 #[.agg #[kv,vv,.bool false,.int .i64 0]] w λ e w'=>e= .returned (iP 1)/\Below w w w':=by
 go_enter Tryz.func180,Tryz.ntmps180
 go_wp2_with fail
 exact bodyPost_ret (v:=iP 1) iq bp ⟨rfl,by go_grown⟩
theorem rI(c:Int)(w:World):
 Calls Tryz.prog 182 #[iP c] w λ e w'=>e= .returned TW/\Below w w w':=by
 go_enter Tryz.func182,Tryz.ntmps182
 go_wp2_with fail
 exact bodyPost_ret (v:=TW) iq bp ⟨rfl,by go_grown⟩
theorem Bz(w:World):
 Calls Tryz.prog 181 #[TW,TW] w λ e w'=>e= .returned TW/\Below w w w':=by
 go_enter Tryz.func181,Tryz.ntmps181
 go_wp2_with fail
 exact bodyPost_ret (v:=TW) iq bp ⟨rfl,by go_grown⟩
theorem JK(c d:Nat)(hc:c+d<=1073741824)(w:World):
 Calls Tryz.prog 137 #[iP c,iP d] w λ e w'=>e= .returned (iP ((c:Int)+(d:Int)))/\Below w w w':=by
 obtain⟨w3,gV⟩:=bL (((w.alloc (.cells (qp c) 33)).alloc (.cells (qp d) 33)).alloc (.cells zn 33));have cu:Below w w w3:=by rw[gV];go_grown
 have Zm:w3.heap.size=w.heap.size+1+1+1:=by rw[gV];simp
 obtain⟨tm,eb,jP⟩:=gT (w2:=w3) qR;have HX:Hid (∀V:World,Below w3 w3 V->V.cell? (za w 0)=some (.int .i64 (c:Int))/\V.cell? (za w 1)=some (.int .i64 0)/\V.cell? (za w 2)=some (.int .i64 0)/\V.cell? (za w 3)=some (.int .u64 0)/\V.cell? (za w 4)=some (.int .i64 0)/\V.cell? (za w 5)=some (.int .i64 0)/\V.cell? (za (w+1) 0)=some (.int .i64 (d:Int))/\V.cell? (za (w+1) 1)=some (.int .i64 0)/\V.cell? (za (w+1) 2)=some (.int .i64 0)/\V.cell? (za (w+1) 3)=some (.int .u64 0)/\V.cell? (za (w+1) 4)=some (.int .i64 0)/\V.cell? (za (w+1) 5)=some (.int .i64 0)):=ag λ V hV=>by have h0:=(hV.block _ an).T tm;have h1:=(hV.block _ an).T eb;exact⟨af h0 0,af h0 1,af h0 2,af h0 3,af h0 4,af h0 5,af h1 0,af h1 1,af h1 2,af h1 3,af h1 4,af h1 5⟩
 have HR:=ag (λ (V:World) (hV:Below w3 w3 V)=>(hV.block _ an).T jP);obtain⟨V,hV⟩:=bL w3.drew;have HB:Hid (Below w3 w3 V):=ag (by rw[hV];exact(gb).drew);obtain⟨x0,x1,x2,x3,x4,x5,y0,y1,y2,y3,y4,y5⟩:=HX.O w3 (gb);have H3:=dO cu Zm;have HV:=ag (show w3.drew=V from hV.symm);have nE:=ag gV;clear tm eb jP cu Zm hV gV;go_enter Tryz.func137,Tryz.ntmps137
 go_wp2_with fail
 rw[<-nE.O];refine bP 7 ?_;refine tP [0,2] ?_
 iterate 2 refine tO ?_
 refine au 5 rfl ?_;refine G6 1 5 [0] [] (λ K hK=>?_) λ K hK=>?_;go_simp;rw[HV.O];clear x0 x1 x2 x3 x4 x5 y0 y1 y2 y3 y4 y5;obtain⟨x0,x1,x2,x3,x4,x5,y0,y1,y2,y3,y4,y5⟩:=HX.O V HB.O;refine(rI _ V).mono ?_;rintro e V ⟨rfl,hv⟩;have sJ:=ag (HB.O.T (hv.mono HB.O.size));clear HB;have HB:=sJ;clear sJ
 try(have kO:=dO gm.O.1 ((hv.block _ (cS gm.O.2).1).T gm.O.2);clear gm;have gm:=kO;clear kO)
 clear hv x0 x1 x2 x3 x4 x5 y0 y1 y2 y3 y4 y5;obtain⟨x0,x1,x2,x3,x4,x5,y0,y1,y2,y3,y4,y5⟩:=HX.O V HB.O;refine nP hK ?_;clear hK K;refine G6 3 5 [0,1,2] [0] (λ K hK=>?_) λ K hK=>?_;go_simp;refine(rI _ V).mono ?_;rintro e V ⟨rfl,hv⟩;have sJ:=ag (HB.O.T (hv.mono HB.O.size));clear HB;have HB:=sJ;clear sJ
 try(have kO:=dO gm.O.1 ((hv.block _ (cS gm.O.2).1).T gm.O.2);clear gm;have gm:=kO;clear kO)
 clear hv x0 x1 x2 x3 x4 x5 y0 y1 y2 y3 y4 y5;obtain⟨x0,x1,x2,x3,x4,x5,y0,y1,y2,y3,y4,y5⟩:=HX.O V HB.O;refine nP hK ?_;clear hK K;refine G6 4 5 [0,1,2,3] [0,1,2] (λ K hK=>?_) λ K hK=>?_;go_simp;refine(Bz V).mono ?_;rintro e V ⟨rfl,hv⟩;have sJ:=ag (HB.O.T (hv.mono HB.O.size));clear HB;have HB:=sJ;clear sJ
 try(have kO:=dO gm.O.1 ((hv.block _ (cS gm.O.2).1).T gm.O.2);clear gm;have gm:=kO;clear kO)
 clear hv x0 x1 x2 x3 x4 x5 y0 y1 y2 y3 y4 y5;obtain⟨x0,x1,x2,x3,x4,x5,y0,y1,y2,y3,y4,y5⟩:=HX.O V HB.O;refine nP hK ?_;clear hK K;refine sP 5 [0,1,2,3] λ K hK=>?_;go_simp;obtain⟨A,hA⟩:=bL V.heap.size;obtain⟨V,vO⟩:∃V',V'=V.alloc (.cells sN 306):=⟨_,rfl⟩;have sJ:=ag (HB.O.T (show Below w3 _ V by rw[vO];exact(gb).alloc HB.O.size _));have gm:=ag (show w3.heap.size<=A/\V.heap[A]? =some (.cells sN 306)from⟨by rw[hA];exact HB.O.size,by rw[vO,hA];exact ai _ _⟩);rw[<-vO,<-hA];clear HB vO hA x0 x1 x2 x3 x4 x5 y0 y1 y2 y3 y4 y5;have HB:=sJ;clear sJ;obtain⟨x0,x1,x2,x3,x4,x5,y0,y1,y2,y3,y4,y5⟩:=HX.O V HB.O;refine nP hK ?_;clear hK K;refine sP 6 [0,1,2,3,4,5] λ K hK=>?_;refine iG 306 _ _ rfl A 0 sN sN 306 rfl rfl gm.O.2 de bU bz ?_;intro V' gC lH mK;have sJ:=ag (mK w3 w3 gm.O.1 HB.O);have HA0:=ag (show w3.heap.size<=A/\V'.heap[A]? =some (.cells sN 306)from⟨gm.O.1,gC⟩);clear HB gm gC lH mK x0 x1 x2 x3 x4 x5 y0 y1 y2 y3 y4 y5;refine nP hK ?_;clear hK K;refine dP ?_;rotate_left;go_simp;obtain⟨A,hA⟩:=bL V.heap.size;obtain⟨V,vO⟩:∃V',V'=V.alloc (.cells sN 306):=⟨_,rfl⟩;have sJ:=ag (HB.O.T (show Below w3 _ V by rw[vO];exact(gb).alloc HB.O.size _));have gm:=ag (show w3.heap.size<=A/\V.heap[A]? =some (.cells sN 306)from⟨by rw[hA];exact HB.O.size,by rw[vO,hA];exact ai _ _⟩);rw[<-vO,<-hA];clear HB vO hA x0 x1 x2 x3 x4 x5 y0 y1 y2 y3 y4 y5;have HB:=sJ;clear sJ;obtain⟨x0,x1,x2,x3,x4,x5,y0,y1,y2,y3,y4,y5⟩:=HX.O V HB.O;refine nP hK ?_;clear hK K;refine sP 4 [0,1,2,3] λ K hK=>?_;go_simp;refine(Bz V).mono ?_;rintro e V ⟨rfl,hv⟩;have sJ:=ag (HB.O.T (hv.mono HB.O.size));clear HB;have HB:=sJ;clear sJ
 try(have kO:=dO gm.O.1 ((hv.block _ (cS gm.O.2).1).T gm.O.2);clear gm;have gm:=kO;clear kO)
 clear hv x0 x1 x2 x3 x4 x5 y0 y1 y2 y3 y4 y5;obtain⟨x0,x1,x2,x3,x4,x5,y0,y1,y2,y3,y4,y5⟩:=HX.O V HB.O;refine nP hK ?_;clear hK K;refine sP 6 [0,1,2,3,4,5] λ K hK=>?_;refine iG 306 _ _ rfl A 0 sN sN 306 rfl rfl gm.O.2 de bU bz ?_;intro V' gC lH mK;have sJ:=ag (mK w3 w3 gm.O.1 HB.O);have HA0:=ag (show w3.heap.size<=A/\V'.heap[A]? =some (.cells sN 306)from⟨gm.O.1,gC⟩);clear HB gm gC lH mK x0 x1 x2 x3 x4 x5 y0 y1 y2 y3 y4 y5;refine nP hK ?_;clear hK K;refine dP ?_;rotate_left;go_simp;obtain⟨A,hA⟩:=bL V.heap.size;obtain⟨V,vO⟩:∃V',V'=V.alloc (.cells sN 306):=⟨_,rfl⟩;have sJ:=ag (HB.O.T (show Below w3 _ V by rw[vO];exact(gb).alloc HB.O.size _));have gm:=ag (show w3.heap.size<=A/\V.heap[A]? =some (.cells sN 306)from⟨by rw[hA];exact HB.O.size,by rw[vO,hA];exact ai _ _⟩);rw[<-vO,<-hA];clear HB vO hA x0 x1 x2 x3 x4 x5 y0 y1 y2 y3 y4 y5;have HB:=sJ;clear sJ;obtain⟨x0,x1,x2,x3,x4,x5,y0,y1,y2,y3,y4,y5⟩:=HX.O V HB.O;refine nP hK ?_;clear hK K;refine sP 3 [0,1,2] λ K hK=>?_;go_simp;refine(rI _ V).mono ?_;rintro e V ⟨rfl,hv⟩;have sJ:=ag (HB.O.T (hv.mono HB.O.size));clear HB;have HB:=sJ;clear sJ
 try(have kO:=dO gm.O.1 ((hv.block _ (cS gm.O.2).1).T gm.O.2);clear gm;have gm:=kO;clear kO)
 clear hv x0 x1 x2 x3 x4 x5 y0 y1 y2 y3 y4 y5;obtain⟨x0,x1,x2,x3,x4,x5,y0,y1,y2,y3,y4,y5⟩:=HX.O V HB.O;refine nP hK ?_;clear hK K;refine sP 4 [0,1,2,3] λ K hK=>?_;go_simp;refine(Bz V).mono ?_;rintro e V ⟨rfl,hv⟩;have sJ:=ag (HB.O.T (hv.mono HB.O.size));clear HB;have HB:=sJ;clear sJ
 try(have kO:=dO gm.O.1 ((hv.block _ (cS gm.O.2).1).T gm.O.2);clear gm;have gm:=kO;clear kO)
 clear hv x0 x1 x2 x3 x4 x5 y0 y1 y2 y3 y4 y5;obtain⟨x0,x1,x2,x3,x4,x5,y0,y1,y2,y3,y4,y5⟩:=HX.O V HB.O;refine nP hK ?_;clear hK K;refine sP 6 [0,1,2,3,4,5] λ K hK=>?_;refine iG 306 _ _ rfl A 0 sN sN 306 rfl rfl gm.O.2 de bU bz ?_;intro V' gC lH mK;have sJ:=ag (mK w3 w3 gm.O.1 HB.O);have HA0:=ag (show w3.heap.size<=A/\V'.heap[A]? =some (.cells sN 306)from⟨gm.O.1,gC⟩);clear HB gm gC lH mK x0 x1 x2 x3 x4 x5 y0 y1 y2 y3 y4 y5;refine nP hK ?_;clear hK K;refine dP ?_;rotate_left;go_simp;obtain⟨A,hA⟩:=bL w3.heap.size;obtain⟨V,vO⟩:∃V',V'=(w3.alloc (.cells sN 306)).drew:=⟨_,rfl⟩;have sJ:Hid (Below w3 w3 V):=ag zx;have gm:=ag (show w3.heap.size<=A/\V.heap[A]? =some (.cells sN 306)from⟨by rw[hA];exact cH,by rw[vO,hA];exact ai _ _⟩);rw[<-vO,<-hA];clear HB vO hA x0 x1 x2 x3 x4 x5 y0 y1 y2 y3 y4 y5;have HB:=sJ;clear sJ;obtain⟨x0,x1,x2,x3,x4,x5,y0,y1,y2,y3,y4,y5⟩:=HX.O V HB.O;refine nP hK ?_;clear hK K;refine sP 1 [0] λ K hK=>?_;go_simp;refine(rI _ V).mono ?_;rintro e V ⟨rfl,hv⟩;have sJ:=ag (HB.O.T (hv.mono HB.O.size));clear HB;have HB:=sJ;clear sJ
 try(have kO:=dO gm.O.1 ((hv.block _ (cS gm.O.2).1).T gm.O.2);clear gm;have gm:=kO;clear kO)
 clear hv x0 x1 x2 x3 x4 x5 y0 y1 y2 y3 y4 y5;obtain⟨x0,x1,x2,x3,x4,x5,y0,y1,y2,y3,y4,y5⟩:=HX.O V HB.O;refine nP hK ?_;clear hK K;refine sP 3 [0,1,2] λ K hK=>?_;go_simp;refine(rI _ V).mono ?_;rintro e V ⟨rfl,hv⟩;have sJ:=ag (HB.O.T (hv.mono HB.O.size));clear HB;have HB:=sJ;clear sJ
 try(have kO:=dO gm.O.1 ((hv.block _ (cS gm.O.2).1).T gm.O.2);clear gm;have gm:=kO;clear kO)
 clear hv x0 x1 x2 x3 x4 x5 y0 y1 y2 y3 y4 y5;obtain⟨x0,x1,x2,x3,x4,x5,y0,y1,y2,y3,y4,y5⟩:=HX.O V HB.O;refine nP hK ?_;clear hK K;refine sP 4 [0,1,2,3] λ K hK=>?_;go_simp;refine(Bz V).mono ?_;rintro e V ⟨rfl,hv⟩;have sJ:=ag (HB.O.T (hv.mono HB.O.size));clear HB;have HB:=sJ;clear sJ
 try(have kO:=dO gm.O.1 ((hv.block _ (cS gm.O.2).1).T gm.O.2);clear gm;have gm:=kO;clear kO)
 clear hv x0 x1 x2 x3 x4 x5 y0 y1 y2 y3 y4 y5;obtain⟨x0,x1,x2,x3,x4,x5,y0,y1,y2,y3,y4,y5⟩:=HX.O V HB.O;refine nP hK ?_;clear hK K;refine sP 6 [0,1,2,3,4,5] λ K hK=>?_;refine iG 306 _ _ rfl A 0 sN sN 306 rfl rfl gm.O.2 de bU bz ?_;intro V' gC lH mK;have sJ:=ag (mK w3 w3 gm.O.1 HB.O);have HA0:=ag (show w3.heap.size<=A/\V'.heap[A]? =some (.cells sN 306)from⟨gm.O.1,gC⟩);clear HB gm gC lH mK x0 x1 x2 x3 x4 x5 y0 y1 y2 y3 y4 y5;refine nP hK ?_;clear hK K;refine dP ?_;rotate_left
 all_goals
  have j4:=dO sJ.O HA0.O;clear sJ HA0;obtain⟨x0,x1,x2,x3,x4,x5,y0,y1,y2,y3,y4,y5⟩:=HX.O V' j4.O.1;have a0:=(af j4.O.2.2 0).T rfl;have a1:=(af j4.O.2.2 1).T rfl;simp only[cW]at a0 a1;obtain⟨V2,Gq⟩:=bL (V'.alloc (.cells (Sq ((c:Int)+(d:Int))) 33));have bG:Below w3 w3 V2:=j4.O.1.T (by rw[Gq];exact(gb).alloc j4.O.1.size _);obtain⟨z0,z1,z2,z3,z4,z5, -,t1,t2,t3,t4,t5⟩:=HX.O V2 bG;have hr:=HR.O V2 bG;have f0:=ax hr 0;have f1:=ax hr 1;have f2:=ax hr 2;have f3:=ax hr 3;have f4:=ax hr 4;have f5:=ax hr 5;have r0:=af hr 0;have r1:=af hr 1;have r2:=af hr 2;have r3:=af hr 3;have r4:=af hr 4;have r5:=af hr 5;simp only[cW]at r0 r1 r2 r3 r4 r5;have HE:=dO hr (H3.O.1.T (bG.mono H3.O.1.size));rw[Gq]at z0 z1 z2 z3 z4 z5 t1 t2 t3 t4 t5 f0 f1 f2 f3 f4 f5 r0 r1 r2 r3 r4 r5 HE;clear Gq bG hr;go_simp
  go_wp2_with fail
  refine bodyPost_ret (v:=iP ((c:Int)+(d:Int))) ?_ bp ⟨rfl,HE.O.2.T (mb an)⟩;rw[lC rfl];obtain⟨s0,s1,s2,s3,s4,s5⟩:=kI (MG (v0:=.int .i64 ((c:Int)+(d:Int))) (v1:=.int .i64 0) (v2:=.int .i64 0) (v3:=.int .u64 0) (v4:=.int .i64 0) (v5:=.int .i64 0) HE.O.1);go_simp
theorem Qh{a:az}(c:Nat)(h:ec w a xs)(hl:xs.length<=1000):
 Calls Tryz.prog 136 (sg a xs.length c) w λ e w'=>e= .returned (iP (xs.length:Int))/\Below w w w':=by
 obtain⟨n,hn⟩:=bL xs.length;have kH:(n:Int)<=1000:=an;have H:=ag h;have HN:=ag hn;have HBO:=ag (λ (j:Nat) (hj:j<=1000) (V:World)=>show Calls Tryz.prog 137 #[iP (j:Int),iP 1] V λ e w'=>e= .returned (iP ((j:Int)+1))/\Below V V w' from JK j 1 an V);obtain⟨w1,bY⟩:=bL ((w.alloc (.cells zn 33)).alloc (.cells zn 33));have cN:Below w w w1:=by rw[bY];go_grown
 obtain⟨tm,eb⟩:=bu (w2:=w1) fq;have H1:=eS cN tm eb;have qj:=ag bY;rw[<-hn];clear h hl hn cN tm eb bY;go_enter Tryz.func136,Tryz.ntmps136
 go_wp2_with fail
 rw[<-qj.O]
 go_loopw [4] (λ iv wr=>∃j:Nat,j<=n/\iv= .int .i64 (j:Int)/\Hid (Below w w wr/\wr.heap[w.heap.size]? =some (.cells zn 33)/\wr.heap[w.heap.size+1]? =some (.cells (qp j) 33))) (λ iv _=>n - (intOf iv).toNat)
 case atStart=>exact⟨0,aD _,rfl,H1⟩
 case round=>
  obtain⟨j,hj,rfl,hB⟩:=hrel;obtain⟨q0,q1,q2,q3,q4,q5⟩:=kI hB.O.2.2;by_cases cL:j<n
  ·have mn:(j:Int)<(n:Int):=an;obtain⟨x,hx⟩:∃x,xs[j]? =some x:=⟨_,aB (cm HN.O)⟩;obtain⟨B,o,rfl,hc⟩:∃B o,a=some ⟨B,o,none⟩/\_:=by
    rcases H.O.1 with h0|⟨B,o,e,hc⟩
    ·rw[h0]at hx;cases hx
    ·exact⟨B,o,e,hc j x hx⟩
   have c0:=carry hB.O.1 hc.1;have c1:=carry hB.O.1 hc.2.1;have c2:=carry hB.O.1 hc.2.2.1;have c3:=carry hB.O.1 hc.2.2.2;have hBd:Hid (Below w w wr.drew):=ag hB.O.1.drew;have LQ:wr.drew.heap[w.heap.size+1]? =some (.cells (qp j) 33):=hB.O.2.2;have hd0:=ag (show wr.drew.heap[w.heap.size]? =_ from hB.O.2.1);clear hx hc
   go_wp2_with fail
   refine bP 8 ?_;refine tP [0,1,2,3,4] ?_
   iterate 5 refine tO ?_
   refine au 3 rfl ?_;refine sP 5 [1,2,3,4] λ K hK=>?_;go_simp;refine(XA _ _ rfl rfl _).mono ?_;rintro e V ⟨rfl,hv⟩;have jG:=ag (hBd.O.T (hv.mono hBd.O.size));have hcV:=(hv.block _ (cS LQ).1).T LQ;have HZV:=ag ((hv.block _ (cS hd0.O).1).T hd0.O);have HDV:=ag hcV;clear hv q0 q1 q2 q3 q4 q5 c0 c1 c2 c3;obtain⟨q0,q1,q2,q3,q4,q5⟩:=kI hcV;clear hcV;refine nP hK ?_;clear hK K;refine sP 6 [0,1,2,3,4,5] λ K hK=>?_;go_simp;refine(HBO.O j an V).mono ?_;rintro e V2 ⟨rfl,mu⟩;have eJ:=eS (jG.O.T (mu.mono jG.O.size)) ((mu.block _ (cS HDV.O).1).T HDV.O) ((mu.block _ (cS HZV.O).1).T HZV.O);clear mu q0 q1 q2 q3 q4 q5;refine nP hK ?_;clear hK K;refine sP 7 [0,1,2,3,4,5,6] λ K hK=>?_;refine iG 33 _ _ rfl (w+1) 0 (qp j) (Sq ((j:Int)+1)) 33 rfl rfl eJ.O.2.1 cP bU bz ?_;intro V' gC lH mK;have HS:=eS (mK w w (bk _) eJ.O.1) ((lH w an).T eJ.O.2.2) gC;clear gC lH mK;refine nP hK ?_;clear hK K;refine dP ?_
   go_wp2_with fail
   exact⟨⟨j+1,an,by simp,ag ⟨HS.O.1,HS.O.2.1,HS.O.2.2⟩⟩,by simp[intOf];omega⟩
  ·obtain rfl:j=n:=an;have hr:=hB.O.2.1;have f0:=ax hr 0;have f1:=ax hr 1;have f2:=ax hr 2;have f3:=ax hr 3;have f4:=ax hr 4;have f5:=ax hr 5;obtain⟨r0,r1,r2,r3,r4,r5⟩:=kI hr;clear hr
   go_wp2_with fail
   refine bodyPost_ret (v:=iP (j:Int)) ?_ bp ⟨rfl,hB.O.1.T (mb (cH))⟩;rw[lC rfl];obtain⟨s0,s1,s2,s3,s4,s5⟩:=kI (MG (v0:=.int .i64 (j:Int)) (v1:=.int .i64 0) (v2:=.int .i64 0) (v3:=.int .u64 0) (v4:=.int .i64 0) (v5:=.int .i64 0) hB.O.2.1);go_simp
theorem xw{p:Prop}(h:p:=by
 rw[cY,bb]at c0;have HB:=ag sc;rw[<-hn];clear h hc hx sc hn;go_enter Tryz.func99,Tryz.ntmps99
 go_wp2_with fail
 go_ret;exact⟨rfl,HB.O⟩
 ):p:=h
theorem Od{a:az}(c:Nat)(h:ec w a xs)(x:aH)(hx:xs[0]? =some x)(bv:Value)(zb:bv.oneCell'=true):
 Calls Tryz.prog 99 #[.agg #[.bool true,.slice a xs.length c,bv]] w λ e w'=>e= .returned (.slice x.ka x.key.length x.kc)/\Below w w w':=by
 obtain⟨n,hn⟩:=bL xs.length;have kH:(0:Int)<(n:Int):=by have:=(aC.1 hx).1;omega
 have pI:0<n:=an;have sc:Below w w (w.alloc (.cells #[.bool true,.slice a n c,bv] 147)):=by go_grown
 obtain⟨B,o,rfl,hc⟩:∃B o,a=some ⟨B,o,none⟩/\_:=by
  rcases(h.below sc).1 with h0|⟨B,o,e,hc⟩
  ·rw[h0]at hx;cases hx
  ·exact⟨B,o,e,hc 0 x hx⟩
 have c0:=hc.1;exact xw
theorem K7{a:az}{xs:List a8}(c:Nat)(h:kJ w a xs)(x:a8)(hx:xs[0]? =some x)(bv:Value)(zb:bv.oneCell'=true):
 Calls Tryz.prog 99 #[.agg #[.bool false,bv,.slice a xs.length c]] w λ e w'=>e= .returned (.slice x.ka x.key.length x.kc)/\Below w w w':=by
 obtain⟨n,hn⟩:=bL xs.length;have kH:(0:Int)<(n:Int):=by have:=(aC.1 hx).1;omega
 have pI:0<n:=an;have sc:Below w w (w.alloc (.cells #[.bool false,bv,.slice a n c] 147)):=by go_grown
 obtain⟨B,o,rfl,hc⟩:∃B o,a=some ⟨B,o,none⟩/\_:=by
  rcases(h.below sc).1 with h0|⟨B,o,e,hc⟩
  ·rw[h0]at hx;cases hx
  ·exact⟨B,o,e,hc 0 x hx⟩
 have c0:=hc 0 _ rfl;exact xw
theorem TX(ys:List a8)(j:Nat):nA (ys.take j)<=nA ys:=by
 have h:nA ys=nA (ys.take j)+nA (ys.drop j):=by unfold nA;rw[<-jL,<-aJ,bj]
 omega
theorem JL{a b:az}{ys:List a8}(is:Bool)(c d:Nat)(h:ec w a xs)(h2:kJ w b ys)(hl:xs.length<=1000)(ri:ys.length<=1000)(hs:xs.length+nA ys<=1000000):
 Calls Tryz.prog 100 (BX (.agg (oS is a xs.length c b ys.length d))) w λ e w'=>e= .returned (iP ((xs.length+nA ys:Nat):Int))/\Below w w w':=by
 obtain⟨n,hn⟩:=bL ys.length;obtain⟨n0,hn0⟩:=bL xs.length;have kH:(n:Int)<=1000:=an;have ajo:(n0:Int)<=1000:=an;obtain⟨w2,fH⟩:=bL ((w.alloc (.cells (oS is a n0 c b n d) 147)).alloc (.cells zn 33));have bG:Below w w w2:=by rw[fH];go_grown
 have vr:w2.heap.size=w.heap.size+1+1:=by rw[fH];simp
 obtain⟨tm,eb⟩:=bu (w2:=w2) mO;have ZB:=ag (Qh c (h.below bG) hl);have HBO:=ag (λ (i j:Nat) (hj:i+j<=1073741824) (V:World)=>JK i j hj V);have HX:=ag (λ (V:World) (hV:Below w2 w2 V)=>Sm ((af ((hV.block _ an).T tm) 2).T rfl) (Sm ((hV.block _ an).T eb) ((h2.below bG).below hV)));have H2:=eS bG vr eb;have HS:=eS hs hn hn0;have DV:=ag fH;rw[<-hn0]at ZB⊢;rw[<-hn];rw[fH]at ZB;clear h h2 hl ri hs bG vr tm eb fH hn hn0;go_enter Tryz.func100,Tryz.ntmps100
 go_wp2_with first
  |((with_reducible refine ZB.O.mono ?_);rintro e V ⟨rfl,hv⟩;rw[<-DV.O]at hv;have HV:=ag hv;clear hv)
  |fail
 obtain⟨D,hD⟩:=bL V.heap.size;obtain⟨W3,P1⟩:=bL (V.alloc (.cells (qp n0) 33));have cu:Below w2 w2 W3:=HV.O.T (by rw[P1];exact(gb).alloc HV.O.size _);have h3:W3.heap[D]? =some (.cells (qp n0) 33):=by rw[P1,hD];exact ai _ _
 have HD:Hid (w2.heap.size<=D):=ag (by rw[hD];exact HV.O.size);rw[<-P1,<-hD];have H3:=dO cu h3;clear hD P1 cu h3
 go_loopw [4] (λ iv wr=>∃j m:Nat,j<=n/\iv= .int .i64 (j:Int)/\Hid (m=n0+nA (ys.take j))/\Hid (Below w2 w2 wr/\wr.heap[w.heap.size+1]? =some (.cells zn 33)/\wr.heap[D]? =some (.cells (qp m) 33))) (λ iv _=>n - (intOf iv).toNat)
 case atStart=>exact⟨0,n0,aD _,rfl,ag (by simp[nA]),ag ⟨H3.O.1,(HX.O _ H3.O.1).2.1,H3.O.2⟩⟩
 case round=>
  obtain⟨j,m,hj,rfl,hm,hB⟩:=hrel;obtain⟨q0,q1,q2,q3,q4,q5⟩:=kI hB.O.2.2;obtain⟨y2, -,hk⟩:=HX.O wr hB.O.1;by_cases cL:j<n
  ·have mn:(j:Int)<(n:Int):=an;obtain⟨y,hy⟩:∃y,ys[j]? =some y:=⟨_,aB (cm HS.O.2.1)⟩;obtain⟨B,o,rfl,hc⟩:∃B o,b=some ⟨B,o,none⟩/\_:=by
    rcases hk.1 with h0|⟨B,o,e,hc⟩
    ·rw[h0]at hy;cases hy
    ·exact⟨B,o,e,hc j y hy⟩
   have c2:=hc 2 _ rfl;have c3:=hc 3 _ rfl;have c4:=hc 4 _ rfl;have c5:=hc 5 _ rfl;have c6:=hc 6 _ rfl;have c7:=hc 7 _ rfl;have hsu:=Jh ys j y hy;have ma:=TX ys (j+1);have HM:Hid (m+y.count<=1000000/\m+y.count=n0+nA (ys.take (j+1))):=ag (iX hm.O HS.O);have hBd:Hid (Below w2 w2 wr.drew):=ag hB.O.1.drew;have LQ:=ag (show wr.drew.heap[w.heap.size+1]? =_/\wr.drew.heap[D]? =_ from hB.O.2);clear hc hy hsu ma cL hk hm
   go_wp2_with fail
   refine bP 9 ?_;refine tP [0,1,2,3,4,5,6] ?_
   iterate 7 refine tO ?_
   refine au 2 rfl ?_;refine sP 7 [0,1,2,3,4,5,6] λ K hK=>?_;go_simp;refine(HBO.O m y.count (cm HM.O) _).mono ?_;rintro e V2 ⟨rfl,mu⟩;have eJ:=eS (hBd.O.T (mu.mono hBd.O.size)) ((mu.block D (cS LQ.O.2).1).T LQ.O.2) ((mu.block (w+1) (cS LQ.O.1).1).T LQ.O.1);clear mu;refine nP hK ?_;clear hK K;refine sP 8 [0,1,2,3,4,5,6,7] λ K hK=>?_;refine iG 33 _ _ rfl D 0 (qp m) (Sq ((m:Int)+(y.count:Int))) 33 rfl rfl eJ.O.2.1 cP bU bz ?_;intro V' gC lH mK;have HS':=eS (mK w2 w2 HD.O eJ.O.1) ((lH (w+1) (iX HD.O H2.O.2.1)).T eJ.O.2.2) gC;clear gC lH mK;refine nP hK ?_;clear hK K;refine dP ?_
   go_wp2_with fail
   exact⟨⟨j+1,m+y.count,an,by simp,ag HM.O.2,ag ⟨HS'.O.1,HS'.O.2.1,HS'.O.2.2⟩⟩,by simp[intOf];omega⟩
  ·obtain rfl:j=n:=an;have vW:¬ (j:Int)<(j:Int):=an;have hr:=hB.O.2.1;have f0:=ax hr 0;have f1:=ax hr 1;have f2:=ax hr 2;have f3:=ax hr 3;have f4:=ax hr 4;have f5:=ax hr 5;obtain⟨r0,r1,r2,r3,r4,r5⟩:=kI hr;have HF:Hid ((n0:Int)+(nA ys:Int)=(m:Int)):=ag (by have:=hm.O;rw[HS.O.2.1,bd]at this;omega);clear hr hk hm cL
   go_wp2_with fail
   refine bodyPost_ret (v:=iP (m:Int)) ?_ bp ⟨by rw[<-HF.O],H2.O.1.T ((hB.O.1.mono H2.O.1.size).T (mb an))⟩;rw[lC rfl];obtain⟨s0,s1,s2,s3,s4,s5⟩:=kI (MG (v0:=.int .i64 (m:Int)) (v1:=.int .i64 0) (v2:=.int .i64 0) (v3:=.int .u64 0) (v4:=.int .i64 0) (v5:=.int .i64 0) hB.O.2.1);go_simp
section
variable {F : Fence} {n : Nat} {P : Program} {ops : Array Oper} {rest : List Oper} {op : Oper} {a : Act} {W : World} {Q : Exit -> Act -> World -> Prop}
theorem BH(Sn:op.guard=none)(ty:TypeId)(x:Operand)(ho:op.op= .load ty x)
 (b o:Nat)(hx:a.eval x= .pointer (some ⟨b,o,none⟩))(cs:List Value)(d:TypeDesc)(hc:W.rangeAt b o cs)
 (hu:P.underlying ty=some d)(hd:d.isRow=true)(hi:(P.info? ty).map (·.size)=some cs.length)
 (h:wpListIn F n P ops Q rest (a.put op.dst (.agg cs.toArray)) W):wpListIn F n P ops Q (op::rest) a W:=by
 refine wpListIn_plain Sn λ K' hK'=>?_;unfold Oper.wpIn;refine⟨by simp[Oper.about,ho],?_⟩;rw[nF F _ _ EX];have Tt:=run_loadAt_mid W b o ty cs d hc hu hd hi;simp[execOp,ho,hx,Tt,Result.andThen];exact hK' _ _ h
theorem BI(ty:TypeId)(Sn:op.guard=none)(x y:Operand)(ho:op.op= .store ty x y)
 (B:Nat)(zs cells:Array Value)(hx:a.eval x= .pointer (zp B))(hB:B=W.heap.size)(hy:a.eval y= .agg cells)(hz:zs.size=cells.size)(hi:(P.info? ty).map (·.size)=some cells.size)(h1:cells.all (·.oneCell')=true)
 (h:wpListIn F n P ops Q rest (a.put op.dst undef) (W.alloc (.cells cells ty))):wpListIn F n P ops Q (op::rest) a (W.alloc (.cells zs ty)):=by
 subst hB;refine wpListIn_plain Sn λ K' hK'=>?_;unfold Oper.wpIn;refine⟨by simp[Oper.about,ho],?_⟩;rw[nF F _ _ EX];have hn:=ai W (.cells zs ty);have Tt:=run_storeAt_mid (P:=P) (W.alloc (.cells zs ty)) W 0 ty cells (λ j hj=>by refine⟨?_,ax hn _⟩;rw[af hn,aN,br an];rfl) hi h1
 rw[zV W ty zs cells hz]at Tt;simp[execOp,ho,hx,hy,Tt,Result.andThen];exact hK' _ _ h
end
end
end Go.Proofs.YtbiififbfefkjaaGreatDoor

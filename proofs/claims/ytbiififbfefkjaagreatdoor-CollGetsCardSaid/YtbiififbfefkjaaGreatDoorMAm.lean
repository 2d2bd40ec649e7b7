/- The store, part 13. -/
import Derived.Test.YtbiififbfefkjaaGreatDoorMAi
set_option linter.unusedSimpArgs false
set_option linter.unusedVariables false
set_option maxRecDepth 100000
set_option maxHeartbeats 16000000
namespace Go.Proofs.YtbiififbfefkjaaGreatDoor
open Go.RowKit Go.Shelf
variable{W w:World}{B o c g m R:Nat}{t:TypeId}{v0 v1:Value}
section
attribute [-go_sem] Builtin.append_
theorem aax(s:Nat)(hs:s<=1099511627776):bits .or .u64 (IntKind.u64.wrap (((s/4294967296:Nat):Int)*4294967296)) ((s%4294967296:Nat):Int)=(s:Int):=by
 have w1:IntKind.u64.wrap (((s/4294967296:Nat):Int)*4294967296)=((s/4294967296*4294967296:Nat):Int):=by rw[bR];omega
 rw[w1,u64_or_nat _ _ an an,KX _ _ 32 4294967296 an de];omega
theorem lg{a b c d e:Value}{fz:Nat×Nat}(h:W.heap[B]? =some (.cells #[a,b,c,d,e] t fz)):W.cell? (za B 0)=some a/\W.cell? (za B 1)=some b/\W.cell? (za B 2)=some c/\W.cell? (za B 3)=some d/\W.cell? (za B 4)=some e:=⟨(af h 0).T rfl,(af h 1).T rfl,(af h 2).T rfl,(af h 3).T rfl,(af h 4).T rfl⟩
theorem NO{s:Nat}{del:Bool}{at_:Nat}(h:wZ g m s del at_)(hb:ay w (some ⟨B,o,none⟩) (dS g m s del at_))(hc:21<=c):
 Calls Tryz.prog 91 (sg (some ⟨B,o,none⟩) 21 c) w λ e w'=>e= .returned (.tuple (vm (.agg (pQ g m s del at_))))/\Below w w w':=by
 obtain⟨w1,bY⟩:=bL (w.alloc (.cells kh 45));have cN:Below w w w1:=by rw[bY];exact(ah _ w).alloc (cH) _
 have fW:=ag cN;have adC:at_<4294967296:=by cases del with
  |true=>rw[h.d rfl];decide
  |false=>have:=(h.a rfl).2;omega
 have hl:(dS g m s del at_).length=21:=by simp[dS,ie]
 have HLE:=ag hl;have ES:∀(i:Nat),ay w (some ⟨B,o+i,none⟩) ((dS g m s del at_).drop i):= λ i=>hb.drop i;have HNo:Hid (∀(i k n c2:Nat) (r:List Nat),n<4294967296->(dS g m s del at_).drop i=fK 4 n++r->k+i=21->∀W,Below w w W->Calls Tryz.prog 128 (sg (some ⟨B,o+i,none⟩) k c2) W λ e w'=>e= .returned (.int .u32 (n:Int))/\w'.heap=W.heap/\Below W W w'):=ag λ i k n c2 r hn he hk W hW=>Qb n hn he ((ES i).below hW) (by rw[bC,hl];omega);have Gc:=ag (HNo.O 0 21 g c _ h.g2 (by unfold dS;rfl) rfl);have HN4:=ag (HNo.O 4 17 m (c - 4) (fK 4 (s/4294967296)++(fK 4 (s%4294967296)++((if del then 1 else 0)::fK 4 at_))) h.m2 qQ rfl);have HN8:=ag (HNo.O 8 13 (s/4294967296) (c - 8) (fK 4 (s%4294967296)++((if del then 1 else 0)::fK 4 at_)) (cm h.s2) qQ rfl);have TG:=ag (HNo.O 12 9 (s%4294967296) (c - 12) ((if del then 1 else 0)::fK 4 at_) an qQ rfl);have TH:=ag (HNo.O 17 4 at_ (c - 17) [] adC qQ rfl);have qH:w.cell? (za B (o+16))=some (.int .u8 ((if del then 1 else 0:Nat):Int)):=by
  rcases hb.2 with h0|⟨B',o',e,Av⟩
  ·rw[h0]at hl;simp at hl
  ·cases e;exact Av 16 _ qQ
 have Zl:=ag λ W=>Dr h W;have HSV:=ag (aax s h.s2);have HCV:=ag λ (W:World) (hW:Below w w W)=>fu (c:=c) (hb.below hW) hl;have lH:=h.s2;simp only[bb]at Gc;have d4:¬ c=4:=an;have d8:¬ c=8:=an;have d12:¬ c=12:=an;have d17:¬ c=17:=an;have ajj:(21:Int)<=(c:Int):=an;have eb:w1.heap[w.heap.size]? =some (.cells kh 45):=qK bY;have LG:=ag eb;have sz0:w1.heap.size=w.heap.size+1:=by rw[bY];simp
 obtain⟨fl,acs⟩:∃fl:Nat,fl=if del then 1 else 0:=⟨_,rfl⟩;rw[<-acs]at qH;have ajk:((fl:Int)==1)=del:=by rw[acs];cases del<;>rfl
 have tn:=ag (λ (W:World) (hW:Below w1 w1 W)=>carry (w:=w) (cN.T (hW.mono cN.size)) qH);have HB_:=ag (ah w1 w1);have fl_:=tn.O _ HB_.O;have sz_:=sz0;unfold pQ at*;obtain⟨hi,hhi⟩:=bL (s/4294967296);obtain⟨lo,En⟩:=bL (s%4294967296);rw[<-hhi]at HN8 HSV;rw[<-En]at TG HSV;have ahI:hi<4294967296:=an;have ahJ:lo<4294967296:=an;have hab:(at_:Int)<=4294967295:=an;have ajl:(16:Int)<21:=by decide
 have whi:IntKind.u64.wrap (hi:Int)=(hi:Int):=by rw[bR];omega
 have wlo:IntKind.u64.wrap (lo:Int)=(lo:Int):=by rw[bR];omega
 have wat:IntKind.i64.wrap (at_:Int)=(at_:Int):=by rw[aI];omega
 have hsv:=HSV.O;have ajm:fl<=1:=by rw[acs];split<;>decide
 clear h hb hc hl ES HNo qH cN eb acs lH hhi En adC;go_enter Tryz.func91,Tryz.ntmps91
 go_wp2_with fail
 rw[<-bY];clear bY;refine bP 27 ?_;refine tP [0,2,3,6,7,11,12,16,17,18,19,20,21] ?_
 iterate 13 refine tO ?_
 refine au 14 rfl ?_;refine G6 1 25 [0] [] (λ K hK=>?_) λ K hK=>?_;go_simp;(with_reducible refine(Gc.O _ (fW.O.T (HB_.O.mono fW.O.size)).drew).mono ?_);rintro e w_1 ⟨rfl,afC,afD⟩;have TI:=ag (HB_.O.drew.T (afD.mono HB_.O.size));have afE:=tn.O _ TI.O;have afF:w_1.heap.size=w.heap.size+1:=by rw[afC];exact sz_
 clear fl_ afC afD;refine nP hK ?_;clear hK K;refine G6 4 25 [0,1,2,3] [0] (λ K hK=>?_) λ K hK=>?_;go_simp;(with_reducible refine(HN4.O _ (fW.O.T (TI.O.mono fW.O.size))).mono ?_);rintro e abh ⟨rfl,Xq,Xr⟩;have CH:=ag (TI.O.T (Xr.mono TI.O.size));have Xs:=tn.O _ CH.O;have Xt:abh.heap.size=w.heap.size+1:=by rw[Xq];exact afF
 clear afE Xq Xr;refine nP hK ?_;clear hK K;refine tP [5] ?_;refine tO ?_;refine au 11 rfl ?_;refine G6 8 25 [0,1,2,3,4,6,7] [0,1,2,3] (λ K hK=>?_) λ K hK=>?_;go_simp;(with_reducible refine(HN8.O _ (fW.O.T (CH.O.mono fW.O.size))).mono ?_);rintro e RD ⟨rfl,NP,NQ⟩;have tS:=ag (CH.O.T (NQ.mono CH.O.size));have NR:=tn.O _ tS.O;have NT:RD.heap.size=w.heap.size+1:=by rw[NP];exact Xt
 clear Xs NP NQ;refine nP hK ?_;clear hK K;refine tP [9,10] ?_
 iterate 2 refine tO ?_
 refine au 8 rfl ?_;refine G6 13 25 [0,1,2,3,4,6,7,8,11,12] [0,1,2,3,4,6,7] (λ K hK=>?_) λ K hK=>?_;go_simp;(with_reducible refine(TG.O _ (fW.O.T (tS.O.mono fW.O.size))).mono ?_);rintro e Gd ⟨rfl,Ds,Dt⟩;have nq:=ag (tS.O.T (Dt.mono tS.O.size));have Du:=tn.O _ nq.O;have Dv:Gd.heap.size=w.heap.size+1:=by rw[Ds];exact NT
 clear NR Ds Dt;refine nP hK ?_;clear hK K;refine tP [14,15] ?_
 iterate 2 refine tO ?_
 refine au 5 rfl ?_;refine G6 22 25 [0,1,2,3,4,6,7,8,11,12,13,20,21] [0,1,2,3,4,6,7,8,11,12] (λ K hK=>?_) λ K hK=>?_;go_simp;(with_reducible refine(TH.O _ (fW.O.T (nq.O.mono fW.O.size))).mono ?_);rintro e te ⟨rfl,xb,xc⟩;have mi:=ag (nq.O.T (xc.mono nq.O.size));have Ge:=tn.O _ mi.O;have xd:te.heap.size=w.heap.size+1:=by rw[xb];exact Dv
 clear Du xb xc;refine nP hK ?_;clear hK K;refine tP [23,24] ?_
 iterate 2 refine tO ?_
 refine au 2 rfl ?_;refine sP 25 [0,1,2,3,4,6,7,8,11,12,13,20,21] λ K hK=>?_;go_simp;have A7:=ag (mi.O.alloc mi.O.size (.cells kh 45));have A8:=tn.O _ A7.O;have A9:=ag (ai te (.cells kh 45));rw[xd]at A9;clear Ge;refine nP hK ?_;clear hK K;refine sP 26 [0,1,2,3,4,5,6,7,8,9,10,11,12,13,14,15,16,17,18,19,20,21,22,23,24,25] λ K hK=>?_;go_simp;refine nP hK ?_;clear hK K;refine dP ?_;go_simp;obtain⟨W,hW⟩:=bL (te.alloc (.cells (BZ g m s del at_) 45));have HA:Hid (W.heap[w.heap.size+1]? =some (.cells (BZ g m s del at_) 45)):=ag (anx hW xd);have r7:Hid (Below w1 w1 W):=ag (by rw[hW];exact mi.O.alloc mi.O.size _);rw[<-hW];clear A8 hW;rotate_left;go_simp;have nX:=ag (nq.O.alloc nq.O.size (.cells kh 45));have Gf:=tn.O _ nX.O;have rD:=ag (ai Gd (.cells kh 45));rw[Dv]at rD;clear Du;refine nP hK ?_;clear hK K;refine sP 22 [0,1,2,3,4,6,7,8,11,12,13,20,21] λ K hK=>?_;go_simp;(with_reducible refine(TH.O _ (fW.O.T (nX.O.mono fW.O.size))).mono ?_);rintro e CI ⟨rfl,Bc,nY⟩;have sA:=ag (nX.O.T (nY.mono nX.O.size));have Bd:=tn.O _ sA.O;have nZ:=ag ((nY.block _ (cS rD.O).1).T rD.O);obtain⟨z0,z1,z2,z3,z4⟩:=lg nZ.O;have zf:=ax nZ.O;clear Gf Bc nY;refine nP hK ?_;clear hK K;refine tP [23,24] ?_
 iterate 2 refine tO ?_
 refine au 1 rfl ?_;refine sP 26 [0,1,2,3,4,5,6,7,8,9,10,11,12,13,14,15,16,17,18,19,20,21,22,23,24,25] λ K hK=>?_;go_simp;refine nP hK ?_;clear hK K;refine dP ?_;go_simp;have HA:=ag (Cp (v0:=.int .u32 (g:Int)) (v1:=.int .u32 (m:Int)) (v2:=.int .u64 (s:Int)) (v3:=.bool del) (v4:=.int .i64 (at_:Int)) nZ.O);have r7:=ag (sA.O.T (iw (v0:=.int .u32 (g:Int)) (v1:=.int .u32 (m:Int)) (v2:=.int .u64 (s:Int)) (v3:=.bool del) (v4:=.int .i64 (at_:Int)) (eC sz0)));obtain⟨W,hW⟩:=bL ((((((CI.setCell (za (w+1) 0) (.int .u32 (g:Int))).setCell (za (w+1) 1) (.int .u32 (m:Int))).setCell (za (w+1) 2) (.int .u64 (s:Int))).setCell (za (w+1) 3) (.bool del)).setCell (za (w+1) 4) (.int .i64 (at_:Int))));rw[<-hW]at HA r7;rw[<-hW];clear Bd z0 z1 z2 z3 z4 zf hW;rotate_left;go_simp;have sB:=ag (tS.O.alloc tS.O.size (.cells kh 45));have NU:=tn.O _ sB.O;have xe:=ag (ai RD (.cells kh 45));rw[NT]at xe;clear NR;refine nP hK ?_;clear hK K;refine sP 13 [0,1,2,3,4,6,7,8,11,12] λ K hK=>?_;go_simp;(with_reducible refine(TG.O _ (fW.O.T (sB.O.mono fW.O.size))).mono ?_);rintro e Zu ⟨rfl,Gg,rE⟩;have oc:=ag (sB.O.T (rE.mono sB.O.size));have Gh:=tn.O _ oc.O;have xh:=ag ((rE.block _ (cS xe.O).1).T xe.O);clear NU Gg rE;refine nP hK ?_;clear hK K;refine tP [14,15] ?_
 iterate 2 refine tO ?_
 refine au 4 rfl ?_;refine sP 22 [0,1,2,3,4,6,7,8,11,12,13,20,21] λ K hK=>?_;go_simp;(with_reducible refine(TH.O _ (fW.O.T (oc.O.mono fW.O.size))).mono ?_);rintro e CJ ⟨rfl,Bf,od⟩;have sC:=ag (oc.O.T (od.mono oc.O.size));have Bh:=tn.O _ sC.O;have og:=ag ((od.block _ (cS xh.O).1).T xh.O);obtain⟨z0,z1,z2,z3,z4⟩:=lg og.O;have zf:=ax og.O;clear Gh Bf od;refine nP hK ?_;clear hK K;refine tP [23,24] ?_
 iterate 2 refine tO ?_
 refine au 1 rfl ?_;refine sP 26 [0,1,2,3,4,5,6,7,8,9,10,11,12,13,14,15,16,17,18,19,20,21,22,23,24,25] λ K hK=>?_;go_simp;refine nP hK ?_;clear hK K;refine dP ?_;go_simp;have HA:=ag (Cp (v0:=.int .u32 (g:Int)) (v1:=.int .u32 (m:Int)) (v2:=.int .u64 (s:Int)) (v3:=.bool del) (v4:=.int .i64 (at_:Int)) og.O);have r7:=ag (sC.O.T (iw (v0:=.int .u32 (g:Int)) (v1:=.int .u32 (m:Int)) (v2:=.int .u64 (s:Int)) (v3:=.bool del) (v4:=.int .i64 (at_:Int)) (eC sz0)));obtain⟨W,hW⟩:=bL ((((((CJ.setCell (za (w+1) 0) (.int .u32 (g:Int))).setCell (za (w+1) 1) (.int .u32 (m:Int))).setCell (za (w+1) 2) (.int .u64 (s:Int))).setCell (za (w+1) 3) (.bool del)).setCell (za (w+1) 4) (.int .i64 (at_:Int))));rw[<-hW]at HA r7;rw[<-hW];clear Bh z0 z1 z2 z3 z4 zf hW;rotate_left;go_simp;have yz:=ag (CH.O.alloc CH.O.size (.cells kh 45));have TJ:=tn.O _ yz.O;have CK:=ag (ai abh (.cells kh 45));rw[Xt]at CK;clear Xs;refine nP hK ?_;clear hK K;refine sP 8 [0,1,2,3,4,6,7] λ K hK=>?_;go_simp;(with_reducible refine(HN8.O _ (fW.O.T (yz.O.mono fW.O.size))).mono ?_);rintro e aaW ⟨rfl,NV,xj⟩;have sD:=ag (yz.O.T (xj.mono yz.O.size));have NW:=tn.O _ sD.O;have Dw:=ag ((xj.block _ (cS CK.O).1).T CK.O);clear TJ NV xj;refine nP hK ?_;clear hK K;refine tP [9,10] ?_
 iterate 2 refine tO ?_
 refine au 7 rfl ?_;refine sP 13 [0,1,2,3,4,6,7,8,11,12] λ K hK=>?_;go_simp;(with_reducible refine(TG.O _ (fW.O.T (sD.O.mono fW.O.size))).mono ?_);rintro e Zv ⟨rfl,Gi,rF⟩;have oh:=ag (sD.O.T (rF.mono sD.O.size));have Gj:=tn.O _ oh.O;have xl:=ag ((rF.block _ (cS Dw.O).1).T Dw.O);clear NW Gi rF;refine nP hK ?_;clear hK K;refine tP [14,15] ?_
 iterate 2 refine tO ?_
 refine au 4 rfl ?_;refine sP 22 [0,1,2,3,4,6,7,8,11,12,13,20,21] λ K hK=>?_;go_simp;(with_reducible refine(TH.O _ (fW.O.T (oh.O.mono fW.O.size))).mono ?_);rintro e CL ⟨rfl,Bi,om⟩;have sE:=ag (oh.O.T (om.mono oh.O.size));have Bj:=tn.O _ sE.O;have ot:=ag ((om.block _ (cS xl.O).1).T xl.O);obtain⟨z0,z1,z2,z3,z4⟩:=lg ot.O;have zf:=ax ot.O;clear Gj Bi om;refine nP hK ?_;clear hK K;refine tP [23,24] ?_
 iterate 2 refine tO ?_
 refine au 1 rfl ?_;refine sP 26 [0,1,2,3,4,5,6,7,8,9,10,11,12,13,14,15,16,17,18,19,20,21,22,23,24,25] λ K hK=>?_;go_simp;refine nP hK ?_;clear hK K;refine dP ?_;go_simp;have HA:=ag (Cp (v0:=.int .u32 (g:Int)) (v1:=.int .u32 (m:Int)) (v2:=.int .u64 (s:Int)) (v3:=.bool del) (v4:=.int .i64 (at_:Int)) ot.O);have r7:=ag (sE.O.T (iw (v0:=.int .u32 (g:Int)) (v1:=.int .u32 (m:Int)) (v2:=.int .u64 (s:Int)) (v3:=.bool del) (v4:=.int .i64 (at_:Int)) (eC sz0)));obtain⟨W,hW⟩:=bL ((((((CL.setCell (za (w+1) 0) (.int .u32 (g:Int))).setCell (za (w+1) 1) (.int .u32 (m:Int))).setCell (za (w+1) 2) (.int .u64 (s:Int))).setCell (za (w+1) 3) (.bool del)).setCell (za (w+1) 4) (.int .i64 (at_:Int))));rw[<-hW]at HA r7;rw[<-hW];clear Bj z0 z1 z2 z3 z4 zf hW;rotate_left;go_simp;have EB:=ag (TI.O.alloc TI.O.size (.cells kh 45));have aay:=tn.O _ EB.O;have KZ:=ag (ai w_1 (.cells kh 45));rw[afF]at KZ;clear afE;refine nP hK ?_;clear hK K;refine sP 4 [0,1,2,3] λ K hK=>?_;go_simp;(with_reducible refine(HN4.O _ (fW.O.T (EB.O.mono fW.O.size))).mono ?_);rintro e acK ⟨rfl,TK,CM⟩;have yA:=ag (EB.O.T (CM.mono EB.O.size));have TL:=tn.O _ yA.O;have JE:=ag ((CM.block _ (cS KZ.O).1).T KZ.O);clear aay TK CM;refine nP hK ?_;clear hK K;refine tP [5] ?_;refine tO ?_;refine au 10 rfl ?_;refine sP 8 [0,1,2,3,4,6,7] λ K hK=>?_;go_simp;(with_reducible refine(HN8.O _ (fW.O.T (yA.O.mono fW.O.size))).mono ?_);rintro e aaX ⟨rfl,NX,xm⟩;have sF:=ag (yA.O.T (xm.mono yA.O.size));have NY:=tn.O _ sF.O;have Dx:=ag ((xm.block _ (cS JE.O).1).T JE.O);clear TL NX xm;refine nP hK ?_;clear hK K;refine tP [9,10] ?_
 iterate 2 refine tO ?_
 refine au 7 rfl ?_;refine sP 13 [0,1,2,3,4,6,7,8,11,12] λ K hK=>?_;go_simp;(with_reducible refine(TG.O _ (fW.O.T (sF.O.mono fW.O.size))).mono ?_);rintro e Zw ⟨rfl,Gk,rG⟩;have ou:=ag (sF.O.T (rG.mono sF.O.size));have Gl:=tn.O _ ou.O;have xo:=ag ((rG.block _ (cS Dx.O).1).T Dx.O);clear NY Gk rG;refine nP hK ?_;clear hK K;refine tP [14,15] ?_
 iterate 2 refine tO ?_
 refine au 4 rfl ?_;refine sP 22 [0,1,2,3,4,6,7,8,11,12,13,20,21] λ K hK=>?_;go_simp;(with_reducible refine(TH.O _ (fW.O.T (ou.O.mono fW.O.size))).mono ?_);rintro e CN ⟨rfl,Bk,ow⟩;have sG:=ag (ou.O.T (ow.mono ou.O.size));have Bm:=tn.O _ sG.O;have oy:=ag ((ow.block _ (cS xo.O).1).T xo.O);obtain⟨z0,z1,z2,z3,z4⟩:=lg oy.O;have zf:=ax oy.O;clear Gl Bk ow;refine nP hK ?_;clear hK K;refine tP [23,24] ?_
 iterate 2 refine tO ?_
 refine au 1 rfl ?_;refine sP 26 [0,1,2,3,4,5,6,7,8,9,10,11,12,13,14,15,16,17,18,19,20,21,22,23,24,25] λ K hK=>?_;go_simp;refine nP hK ?_;clear hK K;refine dP ?_;go_simp;have HA:=ag (Cp (v0:=.int .u32 (g:Int)) (v1:=.int .u32 (m:Int)) (v2:=.int .u64 (s:Int)) (v3:=.bool del) (v4:=.int .i64 (at_:Int)) oy.O);have r7:=ag (sG.O.T (iw (v0:=.int .u32 (g:Int)) (v1:=.int .u32 (m:Int)) (v2:=.int .u64 (s:Int)) (v3:=.bool del) (v4:=.int .i64 (at_:Int)) (eC sz0)));obtain⟨W,hW⟩:=bL ((((((CN.setCell (za (w+1) 0) (.int .u32 (g:Int))).setCell (za (w+1) 1) (.int .u32 (m:Int))).setCell (za (w+1) 2) (.int .u64 (s:Int))).setCell (za (w+1) 3) (.bool del)).setCell (za (w+1) 4) (.int .i64 (at_:Int))));rw[<-hW]at HA r7;rw[<-hW];clear Bm z0 z1 z2 z3 z4 zf hW;rotate_left;go_simp;have RE:=ag (HB_.O.alloc HB_.O.size (.cells kh 45));have aeB:=tn.O _ RE.O;have Xu:=ag (ai w1 (.cells kh 45));rw[sz_]at Xu;clear fl_;refine nP hK ?_;clear hK K;refine sP 1 [0] λ K hK=>?_;go_simp;(with_reducible refine(Gc.O _ (fW.O.T (RE.O.mono fW.O.size)).drew).mono ?_);rintro e agM ⟨rfl,aaz,K0⟩;have EC:=ag (RE.O.drew.T (K0.mono RE.O.size));have aaA:=tn.O _ EC.O;have RF:=ag ((K0.block _ (cS Xu.O).1).T Xu.O);clear aeB aaz K0;refine nP hK ?_;clear hK K;refine sP 4 [0,1,2,3] λ K hK=>?_;go_simp;(with_reducible refine(HN4.O _ (fW.O.T (EC.O.mono fW.O.size))).mono ?_);rintro e acL ⟨rfl,TM,CO⟩;have yB:=ag (EC.O.T (CO.mono EC.O.size));have TN:=tn.O _ yB.O;have JF:=ag ((CO.block _ (cS RF.O).1).T RF.O);clear aaA TM CO;refine nP hK ?_;clear hK K;refine tP [5] ?_;refine tO ?_;refine au 10 rfl ?_;refine sP 8 [0,1,2,3,4,6,7] λ K hK=>?_;go_simp;(with_reducible refine(HN8.O _ (fW.O.T (yB.O.mono fW.O.size))).mono ?_);rintro e aaY ⟨rfl,NZ,xp⟩;have sH:=ag (yB.O.T (xp.mono yB.O.size));have N0:=tn.O _ sH.O;have Dy:=ag ((xp.block _ (cS JF.O).1).T JF.O);clear TN NZ xp;refine nP hK ?_;clear hK K;refine tP [9,10] ?_
 iterate 2 refine tO ?_
 refine au 7 rfl ?_;refine sP 13 [0,1,2,3,4,6,7,8,11,12] λ K hK=>?_;go_simp;(with_reducible refine(TG.O _ (fW.O.T (sH.O.mono fW.O.size))).mono ?_);rintro e Zx ⟨rfl,Gm,rH⟩;have oz:=ag (sH.O.T (rH.mono sH.O.size));have Gn:=tn.O _ oz.O;have xq:=ag ((rH.block _ (cS Dy.O).1).T Dy.O);clear N0 Gm rH;refine nP hK ?_;clear hK K;refine tP [14,15] ?_
 iterate 2 refine tO ?_
 refine au 4 rfl ?_;refine sP 22 [0,1,2,3,4,6,7,8,11,12,13,20,21] λ K hK=>?_;go_simp;(with_reducible refine(TH.O _ (fW.O.T (oz.O.mono fW.O.size))).mono ?_);rintro e CP ⟨rfl,Bu,oA⟩;have sI:=ag (oz.O.T (oA.mono oz.O.size));have By:=tn.O _ sI.O;have oB:=ag ((oA.block _ (cS xq.O).1).T xq.O);obtain⟨z0,z1,z2,z3,z4⟩:=lg oB.O;have zf:=ax oB.O;clear Gn Bu oA;refine nP hK ?_;clear hK K;refine tP [23,24] ?_
 iterate 2 refine tO ?_
 refine au 1 rfl ?_;refine sP 26 [0,1,2,3,4,5,6,7,8,9,10,11,12,13,14,15,16,17,18,19,20,21,22,23,24,25] λ K hK=>?_;go_simp;refine nP hK ?_;clear hK K;refine dP ?_;go_simp;have HA:=ag (Cp (v0:=.int .u32 (g:Int)) (v1:=.int .u32 (m:Int)) (v2:=.int .u64 (s:Int)) (v3:=.bool del) (v4:=.int .i64 (at_:Int)) oB.O);have r7:=ag (sI.O.T (iw (v0:=.int .u32 (g:Int)) (v1:=.int .u32 (m:Int)) (v2:=.int .u64 (s:Int)) (v3:=.bool del) (v4:=.int .i64 (at_:Int)) (eC sz0)));obtain⟨W,hW⟩:=bL ((((((CP.setCell (za (w+1) 0) (.int .u32 (g:Int))).setCell (za (w+1) 1) (.int .u32 (m:Int))).setCell (za (w+1) 2) (.int .u64 (s:Int))).setCell (za (w+1) 3) (.bool del)).setCell (za (w+1) 4) (.int .i64 (at_:Int))));rw[<-hW]at HA r7;rw[<-hW];clear By z0 z1 z2 z3 z4 zf hW;rotate_left
 all_goals
  obtain⟨a0,a1,a2,a3,a4⟩:=lg HA.O;have HEW:=ag (Zl.O W);clear sz_
  go_wp2_with first
   |((with_reducible refine HEW.O.mono ?_);rintro e w9 ⟨ae,ce,rfl,iL,N6, -,ug⟩;have HB9:=ag (r7.O.T (ug.mono r7.O.size));have ha9:=(ug.block _ (cS HA.O).1).T HA.O;clear a0 a1 a2 a3 a4;obtain⟨a0,a1,a2,a3,a4⟩:=lg ha9;have Zy:=(HB9.O.block _ (cS LG.O).1).T LG.O;obtain⟨z0,z1,z2,z3,z4⟩:=lg Zy;have zf:=ax Zy;have HX9:=ag Zy;have k1:=fu (c:=ce) iL (HLE.O);have k2:=HCV.O w9 (fW.O.T (HB9.O.mono fW.O.size));clear iL N6 ug ha9 Zy)
   |fail
 all_goals
  refine bodyPost_ret (v:=.tuple (vm (.agg (BZ g m s del at_)))) ?_ bp ⟨rfl,(fW.O.T (HB9.O.mono fW.O.size)).T (iw (cH))⟩;obtain⟨s0,s1,s2,s3,s4⟩:=lg (Cp (v0:=.int .u32 (g:Int)) (v1:=.int .u32 (m:Int)) (v2:=.int .u64 (s:Int)) (v3:=.bool del) (v4:=.int .i64 (at_:Int)) HX9.O);rw[results_cell_tmp rfl];go_simp
theorem Yt{u v:Value}{fz:Nat×Nat}(h:W.heap[B]? =some (.cells #[u,v] t fz)):W.cell? (za B 0)=some u/\W.cell? (za B 1)=some v:=⟨(af h 0).T rfl,(af h 1).T rfl⟩
theorem aid{a0 a1:Value}{fz:Nat×Nat}(h:W.heap[R]? =some (.cells #[a0,a1] t fz)):((W.setCell (za R 0) v0).setCell (za R 1) v1).heap[R]? =some (.cells #[v0,v1] t fz):=by simpa using aU (j:=1) v1 (aU (j:=0) v0 h)
theorem QL{n₀:Nat}(h:n₀<=R):Below n₀ W ((W.setCell (za R 0) v0).setCell (za R 1) v1):=((ah n₀ W).setCell (p:=(za R 0)) h _).setCell (p:=(za R 1)) h _
theorem ab5(g m:Nat)(h:1<=g\/(g=0/\m=0))(w:World):Calls Tryz.prog 83 (BX (.agg (vk g m))) w λ e w'=>e= .returned (.bool true)/\Below w w w':=by
 have HB:Hid (Below w w (w.alloc (.cells (vk g m) 43))):=ag ((ah _ w).alloc (cH) _);rcases h with h|⟨rfl,rfl⟩
 ·have e1:decide ((0:Int)<(g:Int))=true:=dU;have e2:¬ g=0:=an;have e3:0<g:=an;clear h;go_enter Tryz.func83,Tryz.ntmps83
  go_wp2_with fail
  go_ret;exact⟨rfl,HB.O⟩
 ·have heq:∀W:World,(binOp BinOp.eql 43 (.agg ml) (.agg ml)).run Tryz.prog W= .ok (.bool true) W:= λ W=>bU;simp only[iY]at HB⊢;go_enter Tryz.func83,Tryz.ntmps83
  go_wp2_with fail
  go_ret;exact⟨rfl,HB.O⟩
theorem Yu(hg:1<=g\/(g=0/\m=0))(jk:g<4294967295)(hm:m<4294967296){xs:List Nat}(hb:ay w (some ⟨B,o,none⟩) xs)(hl:xs.length<1000000):
 Calls Tryz.prog 44 (acZ (.agg (vk g m)) (some ⟨B,o,none⟩) xs.length c) w λ e w'=>∃m':Nat,m'<4294967296/\e= .returned (.tuple (vm (.agg (vk (g+1) m'))))/\Below w w w':=by
 obtain⟨w1,bY⟩:=bL ((w.alloc (.cells (vk g m) 43)).alloc (.cells ml 43));have cN:Below w w w1:=by rw[bY];go_grown
 have eb:=bu (w2:=w1) fq;have LG:=ag eb;have fW:=ag cN;have HI:=ag (ab5 g m hg w1);have HXS:=ag hb;have x0:w1.cell? (za w 0)=some (.int .u32 (g:Int)):=(af eb.1 0).T rfl;have x1:w1.cell? (za w 1)=some (.int .u32 (m:Int)):=(af eb.1 1).T rfl;have wg:IntKind.u32.wrap ((g:Int)+1)=(g:Int)+1:=by rw[eo];omega
 have eg:((g:Int)+1==0)=false:=dU;have hgi:(g:Int)<4294967295:=an;have Fy:=ag hl;obtain⟨b0,h0⟩:=bL (m%256);obtain⟨b1,h1⟩:=bL (m/256%256);obtain⟨b2,h2⟩:=bL (m/65536%256);obtain⟨b3,h3⟩:=bL (m/16777216);have e0:(m:Int)%256=(b0:Int):=an;have e1:(m:Int)/256%256=(b1:Int):=an;have e2:(m:Int)/65536%256=(b2:Int):=an;have e3:(m:Int)/16777216=(b3:Int):=an;have q0:b0<256:=an;have q1:b1<256:=an;have q2:b2<256:=an;have q3:b3<256:=an;have HS:Hid (∀W:World,Calls Tryz.prog 84 (sg (zp W) 4 4) (W.alloc (.cells (acU b0 b1 b2 b3) 5)) λ e w'=>∃s:Nat,s<4294967296/\e= .returned (.int .u32 (s:Int))/\Below W W w'):=ag λ W=>by
  have cL:∀y∈[b0,b1,b2,b3],y<256:=by intro y hy;simp at hy;omega
  refine(Q6 [b0,b1,b2,b3] W.heap.size 0 4 _ cL cP (λ j x hj=>?_)).mono ?_
  ·rw[bO];rcases j with _|_|_|_|j
   ·cases hj;rfl
   ·cases hj;rfl
   ·cases hj;rfl
   ·cases hj;rfl
   ·simp at hj
  ·rintro e w' ⟨rfl,hb⟩;exact⟨_,jZ _ (qx _ _ (jZ 0 de) cL),rfl,((ah _ W).alloc (cH) _).T (hb.mono cP)⟩
 have HM:Hid (∀(s:Nat) (W:World),s<4294967296->Below w w W->Calls Tryz.prog 85 #[.int .u32 (s:Int),.slice (some ⟨B,o,none⟩) xs.length c] W λ e w'=>∃s':Nat,s'<4294967296/\e= .returned (.int .u32 (s':Int))/\Below W W w'):=ag λ s W hs hW=>by
  have Mp:=HXS.O.below hW;refine(E9 s xs B o c W hs Mp.1 Fy.O (λ j x hj=>?_)).mono ?_
  ·rcases Mp.2 with h0|⟨B',o',e,hc⟩
   ·rw[h0]at hj;cases hj
   ·cases e;exact hc j x hj
  ·rintro e w' ⟨rfl,hb⟩;exact⟨_,jZ _ (qx _ _ (jZ _ hs) Mp.1),rfl,hb⟩
 clear hg jk hm hb hl cN eb h0 h1 h2 h3;rw[bY]at HI x0 x1;go_enter Tryz.func44,Tryz.ntmps44
 go_wp2_with first
  |((with_reducible refine HI.O.mono ?_);rintro e w2 ⟨rfl,bG⟩;rw[<-bY]at bG;have eJ:=ag bG;have y0:w2.cell? (za w 0)=some (.int .u32 (g:Int)):=(af ((bG.block _ (cS LG.O.1).1).T LG.O.1) 0).T rfl;have y1:w2.cell? (za w 1)=some (.int .u32 (m:Int)):=(af ((bG.block _ (cS LG.O.1).1).T LG.O.1) 1).T rfl;clear bG x0 x1)
  |((with_reducible refine(HS.O w2).mono ?_);rintro e w3 ⟨s,hs,rfl,cu⟩;have ek:=ag (eJ.O.T (cu.mono eJ.O.size));have z0:=carry cu y0;have HMM:=ag (HM.O s w3.drew hs (fW.O.T (ek.O.mono fW.O.size)).drew);clear cu y0 y1)
  |fail
 refine bP 9 ?_;refine tP [0,1,2,3,4] ?_
 iterate 5 refine tO ?_
 refine au 4 rfl ?_;refine sP 5 [3,4] λ K hK=>?_;go_simp;(with_reducible refine HMM.O.mono ?_);rintro e w4 ⟨s2,lH,rfl,dX⟩;have pB:=ag (ek.O.drew.T (dX.mono ek.O.size));have y0:=carry (w:=w3) ((ah _ w3).drew.T (dX.mono (cH))) z0;have zq:=(pB.O.block _ (cS LG.O.2).1).T LG.O.2;obtain⟨r0,r1⟩:=Yt zq;have rf:=ax zq;have HX4:=ag zq;clear dX z0 zq;refine nP hK ?_;clear hK K;refine tP [6] ?_;refine tO ?_;refine au 2 rfl ?_;refine sP 7 [0,1,2,3,4,5,6] λ K hK=>?_;go_simp;refine nP hK ?_;clear hK K;refine tP [8] ?_;refine tO ?_;refine au 0 rfl ?_;refine dP ?_;go_simp
 go_wp2_with fail
 refine bodyPost_ret (v:=.tuple (vm (.agg (vk (g+1) s2)))) ?_ bp ⟨s2,lH,rfl,(fW.O.T (pB.O.mono fW.O.size)).T (QL (bk _))⟩;obtain⟨t0,t1⟩:=Yt (aid (v0:=.int .u32 ((g:Int)+1)) (v1:=.int .u32 (s2:Int)) HX4.O);rw[results_cell_tmp rfl];go_simp
end
end Go.Proofs.YtbiififbfefkjaaGreatDoor

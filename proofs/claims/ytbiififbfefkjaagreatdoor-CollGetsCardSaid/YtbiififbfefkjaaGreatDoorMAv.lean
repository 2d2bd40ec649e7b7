/- The store, part 22. -/
import Derived.Test.YtbiififbfefkjaaGreatDoorMAq
import Derived.Test.YtbiififbfefkjaaGreatDoorMAt
set_option linter.unusedSimpArgs false
set_option linter.unusedVariables false
set_option maxRecDepth 100000
set_option maxHeartbeats 16000000
namespace Go.Proofs.YtbiififbfefkjaaGreatDoor
open Go.RowKit Go.Shelf
variable{w:World}{cf d1 c1 a2 d2 c2 q:Nat}
section
attribute [local go_sem] Oper.semAt_some
attribute [-go_sem] Builtin.append_
def eP:bX:=⟨[],0,0,0,false,0,0⟩
abbrev JZ(B0:Nat)(id:ByteArray)(y:bX)(wk wn:Int)(kn:Bool)(tx:ByteArray)(g m s:Nat)(d:Bool)(a p1 e1 f1 p2 e2 f2:Nat)(wt:Bool):Array Value:=(Ij (zp B0) id (cE y.id) y.g y.m y.s y.del y.at_ wk wn kn tx g m s d a p1 e1 f1 p2 e2 f2 wt)
def kP(W:World)(X B0:Nat)(id:ByteArray)(y:bX)(wk wn:Int)(kn:Bool)(tx:ByteArray)(g m s:Nat)(d:Bool)(a p1 e1 f1 p2 e2 f2:Nat)(wt:Bool):Prop:=W.heap[X]? =some (.cells (JZ B0 id y wk wn kn tx g m s d a p1 e1 f1 p2 e2 f2 wt) 79)
def rS(es:List bX)(id:List Nat):Option bX->Prop
 |some x=>x∈es/\x.id=id
 |none=>∀x∈es,x.id≠id
def j8(o:Option bX):Bool:=match o with|some x=> !x.del|none=>false
theorem CW{b:az}{a1:Nat}{ps:List Piece}(hF:aQ w b cf ps)(hm:Marks (aw ps)){es:List bX}(hC:gD (aw ps) a1 d1 c1 a2 d2 c2 q es)(hq:q<=1099511627776)(s:ByteArray)(DG:s.size<=4611686018427387904):
 Calls Tryz.prog 18 #[bN b ps.length cf,j7 a1 d1 c1 a2 d2 c2 q,.string s] w λ e w'=>Below w w w'/\((yR s≠0/\e= .returned (.tuple #[.pointer none,.int .i64 290]))\/(yR s=0/\∃(o:Option bX) (X B0:Nat) (wk wn:Int),e= .returned (.tuple (ac1 (zp X)))/\w.heap.size<=X/\w.heap.size<=B0/\X≠B0/\rS es (kE s) o/\jV w' B0 b ps.length cf a1 d1 c1 a2 d2 c2 q/\kP w' X B0 s (o.getD eP) wk wn o.isSome ⟨#[]⟩ 0 0 0 false 0 0 0 0 0 0 0 (j8 o)/\∀x,o=some x->wk=kindOf x.del/\wn=fN x.del x.n)):=by
 obtain⟨w1,bY⟩:=bL ((w.alloc (.cells (fA b ps.length cf) 31)).alloc (.cells (CU a1 d1 c1 a2 d2 c2 q) 37));have cN:Below w w w1:=by rw[bY];go_grown
 have gC:w1.heap.size=w.heap.size+1+1:=by rw[bY];simp
 have eb:=bu (w2:=w1) fq;have tg:=aF eb.1;have qa:=aF eb.2;have LF:=ag (GN (hF.below cN) hm hC hq);have HDK:=ag (Gp s DG);have H1:=oT cN gC eb bY;have HFN:=ag (λ (hid:yR s=0) (B0:Nat) (V:World) (hV:Below w w V) (hS:jV V B0 b ps.length cf a1 d1 c1 a2 d2 c2 q)=>X6 hS (hF.below hV) hm hC s hid);have eh:=hC.apart;rw[bY]at LF tg qa;unfold bN at LF;unfold j7 at LF;unfold bN j7;clear hF hm hC hq DG cN gC eb bY;by_cases hid:yR s=0
 ·have Yn:=ag hid;rw[hid]at HDK;by_cases hk:∃x,x∈es/\x.id=kE s
  ·obtain⟨x,hx,Hi⟩:=hk;have HFD:Hid (∀(B0:Nat) (V:World),Below w w V->jV V B0 b ps.length cf a1 d1 c1 a2 d2 c2 q->Calls Tryz.prog 37 (J8 (zp B0) s) V λ e w'=>e= .returned (.tuple (zo (.agg (DM (cE x.id) x.g x.m x.s x.del x.at_ (kindOf x.del) (fN x.del x.n)))))/\Below V V w'):=ag λ B0 V hV hS=>(HFN.O Yn.O B0 V hV hS).mono λ e w' ⟨hb,h⟩=>by
    rcases h with⟨z,hz,hzi,rfl⟩|⟨mr,_⟩
    ·have:z=x:=JI (f:=bX.id) eh hz hx (hzi.T Hi.symm);subst this;exact⟨rfl,hb⟩
    ·exact absurd Hi (mr x hx)
   have HX:Hid (rS es (kE s) (some x)):=ag ⟨hx,Hi⟩;clear HFN hid eh hx Hi;go_enter Tryz.func18,Tryz.ntmps18
   go_wp2_with first
    |(refine dG 31 ?_)
    |(refine dG 37 ?_)
    |((with_reducible refine LF.O.mono ?_);rintro e w2 ⟨rfl,bG⟩;rw[<-H1.O.2.2.2]at bG;obtain⟨w3,gV⟩:=bL ((w2.alloc (.cells (O8 b ps.length cf a1 d1 c1 a2 d2 c2 q) 84)).alloc (.cells (U6 (zp w2) s) 79));have cu:Below w1 w1 w3:=by rw[gV];exact(bG.alloc bG.size _).alloc (by have:=bG.size;simp;omega) _
      have lH:=bG.size;have uX:=bu (w:=w2) (w2:=w3) qR;have Nh:=(bG.block _ (cm H1.O.2.1)).T H1.O.2.2.1.1;have PF:=(bG.block _ (cm H1.O.2.1)).T H1.O.2.2.1.2;have ru:=aF Nh;have Eh:=aF PF;have h03:Below w w w3:=H1.O.1.T (cu.mono H1.O.1.size);have g0:=(af uX.2 0).T rfl;simp only[cW]at g0;have H3:=eS uX h03 (show w.heap.size+1+1<=w2.heap.size by have:=H1.O.2.1;omega);have CX:=ag (HFD.O w2 w3 h03 uX.1);have G4:=ag (show w3.heap.size=w2.heap.size+1+1 by rw[gV];simp);rw[gV]at g0 CX;have nE:=ag gV;clear bG gV cu uX Nh PF h03 lH)
    |((with_reducible refine(HDK.O _).mono ?_);rintro e w4 ⟨rfl,kd⟩;rw[kd];clear kd w4)
    |((with_reducible refine CX.O.mono ?_);rintro e w4 ⟨rfl,dX⟩;rw[<-nE.O]at dX;have H4:=ag dX;have zq:=(dX.block _ uy).T H3.O.1.2;have HX4:=ag zq;clear dX zq g0)
    |(refine fT 77 rfl _ _ rfl (w2+1) 2 (U6 (zp w2) s) (DM (cE x.id) x.g x.m x.s x.del x.at_ (kindOf x.del) (fN x.del x.n)) 79 rfl rfl HX4.O cP bU bz (λ w5 h1 h2 h3=>?_);simp only[eu,jX,cW]at h1;have x0:=(af h1 0).T rfl;have x6:=(af h1 6).T rfl;have LV:=(af h1 13).T rfl;have J0:=(af h1 36).T rfl;simp only[cW]at x0 x6 LV J0;have xf:=ax h1 13;have xg:=ax h1 36;have Hv:=eS h1 ((h2 w2 an).T ((H4.O.block _ uy).T H3.O.1.1)) (h3 w w (cm H3.O.2.2) (H3.O.2.1.T (H4.O.mono H3.O.2.1.size)));clear h1 h2 h3)
    |fail
   go_ret2;have mq:((w5.setCell (za (w2+1) 13) (.bool true)).setCell (za (w2+1) 36) (.bool (!x.del))).heap[w2.heap.size+1]? =some (.cells #[.pointer (zp w2),.string s,.string (cE x.id),.int .u32 (x.g:Int),.int .u32 (x.m:Int),.int .u64 (x.s:Int),.bool x.del,.int .i64 (x.at_:Int),.int .i64 (kindOf x.del),.int .i64 (fN x.del x.n),.string ⟨#[]⟩,.slice none 0 0,.slice none 0 0,.bool true,.string ⟨#[]⟩,.int .u32 0,.int .u32 0,.int .u64 0,.bool false,.int .i64 0,.int .i64 0,.int .i64 0,.int .i64 0,.int .i64 0,.int .i64 0,.int .u64 0,.int .i64 0,.int .i64 0,.int .i64 0,.int .i64 0,.int .i64 0,.int .i64 0,.int .i64 0,.int .u64 0,.int .i64 0,.int .i64 0,.bool (!x.del)] 79):=by simpa using aU (j:=36) (.bool (!x.del)) (aU (j:=13) (.bool true) Hv.O.1)
   have ma:jV ((w5.setCell (za (w2+1) 13) (.bool true)).setCell (za (w2+1) 36) (.bool (!x.del))) w2 b ps.length cf a1 d1 c1 a2 d2 c2 q:=(aq _ _ _ _ cP).T ((aq _ _ _ _ cP).T Hv.O.2.1);have Iw:Below w w ((w5.setCell (za (w2+1) 13) (.bool true)).setCell (za (w2+1) 36) (.bool (!x.del))):=(Hv.O.2.2.setCell (p:=(za (w2+1) 13)) (show w.heap.size<=w2.heap.size+1 by have:=H3.O.2.2;omega) _).setCell (p:=(za (w2+1) 36)) (show w.heap.size<=w2.heap.size+1 by have:=H3.O.2.2;omega) _;exact⟨Iw,.inr ⟨Yn.O,some x,w2.heap.size+1,w2.heap.size,kindOf x.del,fN x.del x.n,rfl,by have:=H3.O.2.2;omega,by have:=H3.O.2.2;omega,an,HX.O,ma,mq, λ y hy=>by cases hy;exact⟨rfl,rfl⟩⟩⟩
  ·have HFD:Hid (∀(B0:Nat) (V:World),Below w w V->jV V B0 b ps.length cf a1 d1 c1 a2 d2 c2 q->Calls Tryz.prog 37 (J8 (zp B0) s) V λ e w'=>e= .returned (.tuple (U3 (.agg vN)))/\Below V V w'):=ag λ B0 V hV hS=>(HFN.O Yn.O B0 V hV hS).mono λ e w' ⟨hb,h⟩=>by
    rcases h with⟨z,hz,hzi,rfl⟩|⟨mr,rfl⟩
    ·exact absurd ⟨z,hz,hzi⟩ hk
    ·exact⟨rfl,hb⟩
   have HNO:Hid (rS es (kE s) none):=ag λ x hx e=>hk ⟨x,hx,e⟩;clear HFN hid eh hk;go_enter Tryz.func18,Tryz.ntmps18
   go_wp2_with first
    |(refine dG 31 ?_)
    |(refine dG 37 ?_)
    |((with_reducible refine LF.O.mono ?_);rintro e w2 ⟨rfl,bG⟩;rw[<-H1.O.2.2.2]at bG;obtain⟨w3,gV⟩:=bL ((w2.alloc (.cells (O8 b ps.length cf a1 d1 c1 a2 d2 c2 q) 84)).alloc (.cells (U6 (zp w2) s) 79));have cu:Below w1 w1 w3:=by rw[gV];exact(bG.alloc bG.size _).alloc (by have:=bG.size;simp;omega) _
      have lH:=bG.size;have uX:=bu (w:=w2) (w2:=w3) qR;have Nh:=(bG.block _ (cm H1.O.2.1)).T H1.O.2.2.1.1;have PF:=(bG.block _ (cm H1.O.2.1)).T H1.O.2.2.1.2;have ru:=aF Nh;have Eh:=aF PF;have h03:Below w w w3:=H1.O.1.T (cu.mono H1.O.1.size);have g0:=(af uX.2 0).T rfl;simp only[cW]at g0;have H3:=eS uX h03 (show w.heap.size+1+1<=w2.heap.size by have:=H1.O.2.1;omega);have CX:=ag (HFD.O w2 w3 h03 uX.1);have G4:=ag (show w3.heap.size=w2.heap.size+1+1 by rw[gV];simp);rw[gV]at g0 CX;have nE:=ag gV;clear bG gV cu uX Nh PF h03 lH)
    |((with_reducible refine(HDK.O _).mono ?_);rintro e w4 ⟨rfl,kd⟩;rw[kd];clear kd w4)
    |((with_reducible refine CX.O.mono ?_);rintro e w4 ⟨rfl,dX⟩;rw[<-nE.O]at dX;have H4:=ag dX;have zq:=(dX.block _ uy).T H3.O.1.2;have HX4:=ag zq;clear dX zq g0)
    |(refine fT 77 rfl _ _ rfl (w2+1) 2 (U6 (zp w2) s) vN 79 rfl rfl HX4.O cP bU bz (λ w5 h1 h2 h3=>?_);simp only[eu,jX,cW]at h1;have x0:=(af h1 0).T rfl;have x6:=(af h1 6).T rfl;have LV:=(af h1 13).T rfl;have J0:=(af h1 36).T rfl;simp only[cW]at x0 x6 LV J0;have xf:=ax h1 13;have xg:=ax h1 36;have Hv:=eS h1 ((h2 w2 an).T ((H4.O.block _ uy).T H3.O.1.1)) (h3 w w (cm H3.O.2.2) (H3.O.2.1.T (H4.O.mono H3.O.2.1.size)));clear h1 h2 h3)
    |fail
   go_ret2;have mq:((w5.setCell (za (w2+1) 13) (.bool false)).setCell (za (w2+1) 36) (.bool false)).heap[w2.heap.size+1]? =some (.cells (U6 (zp w2) s) 79):=by simpa using aU (j:=36) (.bool false) (aU (j:=13) (.bool false) Hv.O.1)
   have ma:jV ((w5.setCell (za (w2+1) 13) (.bool false)).setCell (za (w2+1) 36) (.bool false)) w2 b ps.length cf a1 d1 c1 a2 d2 c2 q:=(aq _ _ _ _ cP).T ((aq _ _ _ _ cP).T Hv.O.2.1);have Iw:Below w w ((w5.setCell (za (w2+1) 13) (.bool false)).setCell (za (w2+1) 36) (.bool false)):=(Hv.O.2.2.setCell (p:=(za (w2+1) 13)) (show w.heap.size<=w2.heap.size+1 by have:=H3.O.2.2;omega) _).setCell (p:=(za (w2+1) 36)) (show w.heap.size<=w2.heap.size+1 by have:=H3.O.2.2;omega) _;exact⟨Iw,.inr ⟨Yn.O,none,w2.heap.size+1,w2.heap.size,0,0,rfl,by have:=H3.O.2.2;omega,by have:=H3.O.2.2;omega,an,HNO.O,ma,mq, λ y hy=>by cases hy⟩⟩
 ·have af6:yR s=290:=by
   unfold yR at hid⊢;split at hid
   ·exact absurd rfl hid
   ·rename_i h;rw[if_neg h]
  have Yn:=ag hid;rw[af6]at HDK;clear HFN hid eh af6;go_enter Tryz.func18,Tryz.ntmps18
  go_wp2_with first
   |(refine dG 31 ?_)
   |(refine dG 37 ?_)
   |((with_reducible refine LF.O.mono ?_);rintro e w2 ⟨rfl,bG⟩;rw[<-H1.O.2.2.2]at bG;have eJ:=ag bG;clear bG)
   |((with_reducible refine(HDK.O _).mono ?_);rintro e w4 ⟨rfl,kd⟩;rw[kd];clear kd w4)
   |fail
  go_ret2;exact⟨H1.O.1.T (eJ.O.mono H1.O.1.size),.inl ⟨Yn.O,rfl⟩⟩
theorem J1{X B0 k a1':Nat}{b:az}(hS:jV w B0 b k cf a1' d1 c1 a2 d2 c2 q){id:ByteArray}{y:bX}{wk wn:Int}{kn:Bool}{tx:ByteArray}{g m s:Nat}{d:Bool}{a p1 e1 f1 p2 e2 f2:Nat}{wt:Bool}(hX:kP w X B0 id y wk wn kn tx g m s d a p1 e1 f1 p2 e2 f2 wt)(dN:X≠B0)
 (hg:1<=y.g\/(y.g=0/\y.m=0))(jk:y.g<4294967295)(hm:y.m<4294967296)(hq:q<1099511627776)(htx:tx.size<1000000):
 Calls Tryz.prog 23 (iS (zp X)) w λ e w'=>∃m':Nat,m'<4294967296/\e= .returned (.int .i64 0)/\kP w' X B0 id y wk wn kn tx (y.g+1) m' (q+1) d a p1 e1 f1 p2 e2 f2 wt/\ns (·=X) w w':=by
 have O7:=(cS hX).1;have hBs:=(cS hS).1;obtain⟨cA,wA,hcA,UW,TR,Hg,Zb⟩:=nr tx w;obtain⟨wI,X7⟩:=bL (w.alloc (.cells ml 43));have UX:Below w w wI:=by rw[X7];go_grown
 have hnI:wI.heap[w.heap.size]? =some (.cells ml 43):=qK X7;have UY:wI.heap.size=w.heap.size+1:=by rw[X7];simp
 obtain⟨cC,wC,hcC,hkC,hgC,hbC,hsC⟩:=nr tx wI;rw[UY]at hcC hkC;have ZH:=ag X7;have Cu:=ag Hg;have HBI:=ag UX;have HBC:=ag (HBI.O.T (hbC.mono HBI.O.size));have HS:Hid (wA.heap.size=w.heap.size+1):=ag an;have HSC:Hid (wC.heap.size=w.heap.size+1+1/\wI.heap.size=w.heap.size+1):=ag an;have JW:=ag (λ (V:World) (hV:Below w w V)=>show V.heap[X]? =some (.cells (Ij (zp B0) id (cE y.id) y.g y.m y.s y.del y.at_ wk wn kn tx g m s d a p1 e1 f1 p2 e2 f2 wt) 79)from(hV.block X O7).T hX);have LW:=ag (λ (V:World) (hV:Below w w V)=>hS.below hV);have HF:Hid (∀W,Below w w W->W.cell? (za X 0)=some (.pointer (zp B0))/\W.cell? (za X 3)=some (.int .u32 (y.g:Int))/\W.cell? (za X 4)=some (.int .u32 (y.m:Int))/\W.cell? (za X 14)=some (.string tx)/\W.cell? (za B0 21)=some (.int .u64 (q:Int))):=ag λ W hb=>by have h:=JW.O W hb;have h2:=LW.O W hb;exact⟨(af h 0).T rfl,(af h 3).T rfl,(af h 4).T rfl,(af h 14).T rfl,(af h2 21).T rfl⟩
 have HG:Hid (∀(V:World) (ka:Nat) (kc:Nat),Below w w V->ay V (zp ka) (kE tx)->tx.size<=kc->Calls Tryz.prog 44 (acZ (.agg (vk y.g y.m)) (zp ka) tx.size kc) V λ e w'=>∃m':Nat,m'<4294967296/\e= .returned (.tuple (vm (.agg (vk (y.g+1) m'))))/\Below V V w'):=ag λ V ka kc hV hk tw=>by have:=Yu (c:=kc) hg jk hm hk (by rw[iA];exact htx);rw[iA]at this;exact this
 have py:((q:Int)==1099511627776)=false:=dU;have pK:¬ ((q:Int)=1099511627776):=an;have yV:IntKind.u64.wrap ((q:Int)+1)=(q:Int)+1:=by rw[bR];omega
 have vd:=ag dN;clear hS hX O7 hBs hg jk hm htx Zb hsC UY X7 dN hq;have nt:=ah w w;have j4:=ag nt;clear nt;go_enter Tryz.func23,Tryz.ntmps23
 go_wp2_with fail
 obtain⟨x0,x3,x4,BL,GQ⟩:=HF.O _ j4.O;refine bP 18 ?_;refine tP [0,1,2,3,4,5,6,7,8,9] ?_
 iterate 10 refine tO ?_
 refine au 8 rfl ?_;refine G6 10 15 [6,7,8,9] [] (λ K hK=>?_) λ K hK=>?_;go_simp;clear x0 x3 x4 BL GQ;obtain⟨x0,x3,x4,BL,GQ⟩:=HF.O _ Cu.O;refine nP hK ?_;clear hK K;refine G6 11 15 [0,1,2,3,4,5,6,7,8,9,10] [6,7,8,9] (λ K hK=>?_) λ K hK=>?_;go_simp;have jG:=ag (Cu.O);(with_reducible refine(HG.O _ _ _ jG.O (UW) (TR)).mono ?_);rintro e w3 ⟨m',Ie,rfl,cu⟩;have ek:=eS (jG.O.T (cu.mono jG.O.size)) cu Ie;clear cu Ie;refine nP hK ?_;clear hK K;refine tP [12,13,14] ?_
 iterate 3 refine tO ?_
 refine au 3 rfl ?_;refine sP 15 [0,1,2,3,4,5,6,7,8,9,10] λ K hK=>?_;go_simp;obtain⟨w5,kY⟩:=bL (w3.alloc (.cells ml 43));have dV:Below w3 w3 w5:=by rw[kY];go_grown
 have HA:Hid (w5.heap[w3.heap.size]? =some (.cells ml 43)/\Below w w w5):=ag ⟨by rw[kY];exact ai _ _,ek.O.1.T (dV.mono ek.O.1.size)⟩;rw[<-kY];have HL:Hid (w.heap.size<=w3.heap.size):=ag ek.O.1.size;clear kY dV;refine nP hK ?_;clear hK K;refine sP 16 [0,1,2,3,4,5,6,7,8,9,10,11,12,13,15] λ K hK=>?_;refine DO ?_;refine pN 43 (vk (y.g+1) m') HA.O.1 (λ w7 g1 g2 g3=>?_);have nz:=eS g1 (g3 w w (cm HL.O) HA.O.2) ek.O.2.2;clear g1 g2 g3;refine nP hK ?_;clear hK K;refine tP [17] ?_;refine tO ?_;refine au 0 rfl ?_;refine dP ?_;go_simp;have a0:=(af nz.O.1 0).T rfl;have a1:=(af nz.O.1 1).T rfl;simp only[cW]at a0 a1;clear x0 x3 x4 BL GQ;obtain⟨x0,x3,x4,BL,GQ⟩:=HF.O _ nz.O.2.1;clear x3 x4 BL;have Yv:Hid (w7.heap[X]? =some (.cells (Ij (zp B0) id (cE y.id) y.g y.m y.s y.del y.at_ wk wn kn tx g m s d a p1 e1 f1 p2 e2 f2 wt) 79)/\jV w7 B0 b k cf a1' d1 c1 a2 d2 c2 q/\∀V:World,(∀j,j≠X->V.heap[j]? =w7.heap[j]?)->(∀n U,n<=X->Below n U w7->Below n U V)->ns (·=X) w7 V):=ag ⟨JW.O w7 nz.O.2.1,LW.O w7 nz.O.2.1, λ V h1 h2=>by have:=h2 0 w7 (aD _) (gb);exact⟨this.os,this.tape,this.output,this.size, λ j _ hj=>h1 j hj⟩⟩
 go_wp2_with fail
 refine bP 20 ?_;refine tP [0,1,2,3,4,5,6,7,8,9,10,11,12,13,14] ?_
 iterate 15 refine tO ?_
 refine au 5 rfl ?_;refine sP 15 [0,2,3,4,5,6,7,8,9,10,12,13,14] λ K hK=>?_;refine DO ?_;refine iG 43 _ _ rfl X 15 (Ij (zp B0) id (cE y.id) y.g y.m y.s y.del y.at_ wk wn kn tx g m s d a p1 e1 f1 p2 e2 f2 wt) (vk (y.g+1) m') 79 rfl rfl Yv.O.1 cP bU bz (λ w8 g1 g2 g3=>?_);simp only[eu,jX,cW]at g1;have HO8:Hid (ns (·=X) w7 w8):=ag ((Yv.O.2.2 w8 g2 (λ n U hn hb=>g3 n U hn hb.drew)));clear g3 x0 GQ;have x0:=(af g1 0).T rfl;have qE:=(af g1 17).T rfl;simp only[cW]at x0 qE;have GQ:=(af ((g2 B0 (λ e=>vd.O e.symm)).T Yv.O.2.1) 21).T rfl;simp only[cW]at GQ;have xg:=ax g1 17;have O6:=ag g1;clear g1 g2 a0 a1;refine nP hK ?_;clear hK K;refine tP [16,17,18] ?_
 iterate 3 refine tO ?_
 refine au 1 rfl ?_;refine sP 19 [0,1,2,3,4,5,6,7,8,9,10,11,12,13,14,15,16,17,18] λ K hK=>?_;go_simp;refine nP hK ?_;clear hK K;refine dP ?_;go_simp
 go_wp2_with fail
 go_ret;exact⟨m',nz.O.2.2,rfl,by unfold kP JZ;simpa using aU (j:=17) (.int .u64 ((q:Int)+1)) O6.O,((ns.bH nz.O.2.1).T HO8.O).T ⟨rfl,rfl,rfl,by simp[World.setCell], λ j _ hj=>aq _ _ _ _ hj⟩⟩;go_simp;obtain⟨wJ,X8⟩:=bL (wA.alloc (.cells ml 43));have HBJ:Hid (Below wA wA wJ):=ag (by rw[X8];go_grown);have HNJ:Hid (wJ.heap[wA.heap.size]? =some (.cells ml 43)):=ag (qK X8);have HSJ:Hid (wJ.heap.size=wA.heap.size+1):=ag (by rw[X8];simp);rw[<-X8];clear X8;clear x0 x3 x4 BL GQ;obtain⟨x0,x3,x4,BL,GQ⟩:=HF.O _ (Cu.O.T (HBJ.O.mono Cu.O.size));refine nP hK ?_;clear hK K;refine sP 11 [0,1,2,3,4,5,6,7,8,9,10] λ K hK=>?_;go_simp;have jG:=ag (Cu.O.T (HBJ.O.mono Cu.O.size));(with_reducible refine(HG.O _ _ _ jG.O (UW.below HBJ.O) (TR)).mono ?_);rintro e w3 ⟨m',Ie,rfl,cu⟩;have ek:=eS (jG.O.T (cu.mono jG.O.size)) cu Ie;clear cu Ie;have HA:Hid (w3.heap[wA.heap.size]? =some (.cells ml 43)/\Below w w w3):=ag ⟨(ek.O.2.1.block _ (cm HSJ.O)).T HNJ.O,ek.O.1⟩;refine nP hK ?_;clear hK K;refine tP [12,13,14] ?_
 iterate 3 refine tO ?_
 refine au 2 rfl ?_;refine sP 16 [0,1,2,3,4,5,6,7,8,9,10,11,12,13,15] λ K hK=>?_;refine DO ?_;refine pN 43 (vk (y.g+1) m') HA.O.1 (λ w7 g1 g2 g3=>?_);have nz:=eS g1 (g3 w w (cm HS.O) HA.O.2) ek.O.2.2;clear g1 g2 g3;refine nP hK ?_;clear hK K;refine tP [17] ?_;refine tO ?_;refine au 0 rfl ?_;refine dP ?_;go_simp;have a0:=(af nz.O.1 0).T rfl;have a1:=(af nz.O.1 1).T rfl;simp only[cW]at a0 a1;clear x0 x3 x4 BL GQ;obtain⟨x0,x3,x4,BL,GQ⟩:=HF.O _ nz.O.2.1;clear x3 x4 BL;have Yv:Hid (w7.heap[X]? =some (.cells (Ij (zp B0) id (cE y.id) y.g y.m y.s y.del y.at_ wk wn kn tx g m s d a p1 e1 f1 p2 e2 f2 wt) 79)/\jV w7 B0 b k cf a1' d1 c1 a2 d2 c2 q/\∀V:World,(∀j,j≠X->V.heap[j]? =w7.heap[j]?)->(∀n U,n<=X->Below n U w7->Below n U V)->ns (·=X) w7 V):=ag ⟨JW.O w7 nz.O.2.1,LW.O w7 nz.O.2.1, λ V h1 h2=>by have:=h2 0 w7 (aD _) (gb);exact⟨this.os,this.tape,this.output,this.size, λ j _ hj=>h1 j hj⟩⟩
 go_wp2_with fail
 refine bP 20 ?_;refine tP [0,1,2,3,4,5,6,7,8,9,10,11,12,13,14] ?_
 iterate 15 refine tO ?_
 refine au 5 rfl ?_;refine sP 15 [0,2,3,4,5,6,7,8,9,10,12,13,14] λ K hK=>?_;refine DO ?_;refine iG 43 _ _ rfl X 15 (Ij (zp B0) id (cE y.id) y.g y.m y.s y.del y.at_ wk wn kn tx g m s d a p1 e1 f1 p2 e2 f2 wt) (vk (y.g+1) m') 79 rfl rfl Yv.O.1 cP bU bz (λ w8 g1 g2 g3=>?_);simp only[eu,jX,cW]at g1;have HO8:Hid (ns (·=X) w7 w8):=ag ((Yv.O.2.2 w8 g2 (λ n U hn hb=>g3 n U hn hb.drew)));clear g3 x0 GQ;have x0:=(af g1 0).T rfl;have qE:=(af g1 17).T rfl;simp only[cW]at x0 qE;have GQ:=(af ((g2 B0 (λ e=>vd.O e.symm)).T Yv.O.2.1) 21).T rfl;simp only[cW]at GQ;have xg:=ax g1 17;have O6:=ag g1;clear g1 g2 a0 a1;refine nP hK ?_;clear hK K;refine tP [16,17,18] ?_
 iterate 3 refine tO ?_
 refine au 1 rfl ?_;refine sP 19 [0,1,2,3,4,5,6,7,8,9,10,11,12,13,14,15,16,17,18] λ K hK=>?_;go_simp;refine nP hK ?_;clear hK K;refine dP ?_;go_simp
 go_wp2_with fail
 go_ret;exact⟨m',nz.O.2.2,rfl,by unfold kP JZ;simpa using aU (j:=17) (.int .u64 ((q:Int)+1)) O6.O,((ns.bH nz.O.2.1).T HO8.O).T ⟨rfl,rfl,rfl,by simp[World.setCell], λ j _ hj=>aq _ _ _ _ hj⟩⟩;go_simp;rw[<-ZH.O];clear x0 x3 x4 BL GQ;obtain⟨x0,x3,x4,BL,GQ⟩:=HF.O _ HBI.O;refine nP hK ?_;clear hK K;refine sP 10 [6,7,8,9] λ K hK=>?_;go_simp;clear x0 x3 x4 BL GQ;obtain⟨x0,x3,x4,BL,GQ⟩:=HF.O _ HBC.O;refine nP hK ?_;clear hK K;refine sP 11 [0,1,2,3,4,5,6,7,8,9,10] λ K hK=>?_;go_simp;have jG:=ag (HBC.O);(with_reducible refine(HG.O _ _ _ jG.O (hkC) (hgC)).mono ?_);rintro e w3 ⟨m',Ie,rfl,cu⟩;have ek:=eS (jG.O.T (cu.mono jG.O.size)) cu Ie;clear cu Ie;have HA:Hid (w3.heap[w.heap.size]? =some (.cells ml 43)/\Below w w w3):=ag ⟨(ek.O.2.1.block _ (cm HSC.O)).T ((hbC.block _ (cm HSC.O)).T hnI),ek.O.1⟩;refine nP hK ?_;clear hK K;refine tP [12,13,14] ?_
 iterate 3 refine tO ?_
 refine au 2 rfl ?_;refine sP 16 [0,1,2,3,4,5,6,7,8,9,10,11,12,13,15] λ K hK=>?_;refine DO ?_;refine pN 43 (vk (y.g+1) m') HA.O.1 (λ w7 g1 g2 g3=>?_);have nz:=eS g1 (g3 w w an HA.O.2) ek.O.2.2;clear g1 g2 g3;refine nP hK ?_;clear hK K;refine tP [17] ?_;refine tO ?_;refine au 0 rfl ?_;refine dP ?_;go_simp;have a0:=(af nz.O.1 0).T rfl;have a1:=(af nz.O.1 1).T rfl;simp only[cW]at a0 a1;clear x0 x3 x4 BL GQ;obtain⟨x0,x3,x4,BL,GQ⟩:=HF.O _ nz.O.2.1;clear x3 x4 BL;have Yv:Hid (w7.heap[X]? =some (.cells (Ij (zp B0) id (cE y.id) y.g y.m y.s y.del y.at_ wk wn kn tx g m s d a p1 e1 f1 p2 e2 f2 wt) 79)/\jV w7 B0 b k cf a1' d1 c1 a2 d2 c2 q/\∀V:World,(∀j,j≠X->V.heap[j]? =w7.heap[j]?)->(∀n U,n<=X->Below n U w7->Below n U V)->ns (·=X) w7 V):=ag ⟨JW.O w7 nz.O.2.1,LW.O w7 nz.O.2.1, λ V h1 h2=>by have:=h2 0 w7 (aD _) (gb);exact⟨this.os,this.tape,this.output,this.size, λ j _ hj=>h1 j hj⟩⟩
 go_wp2_with fail
 refine bP 20 ?_;refine tP [0,1,2,3,4,5,6,7,8,9,10,11,12,13,14] ?_
 iterate 15 refine tO ?_
 refine au 5 rfl ?_;refine sP 15 [0,2,3,4,5,6,7,8,9,10,12,13,14] λ K hK=>?_;refine DO ?_;refine iG 43 _ _ rfl X 15 (Ij (zp B0) id (cE y.id) y.g y.m y.s y.del y.at_ wk wn kn tx g m s d a p1 e1 f1 p2 e2 f2 wt) (vk (y.g+1) m') 79 rfl rfl Yv.O.1 cP bU bz (λ w8 g1 g2 g3=>?_);simp only[eu,jX,cW]at g1;have HO8:Hid (ns (·=X) w7 w8):=ag ((Yv.O.2.2 w8 g2 (λ n U hn hb=>g3 n U hn hb.drew)));clear g3 x0 GQ;have x0:=(af g1 0).T rfl;have qE:=(af g1 17).T rfl;simp only[cW]at x0 qE;have GQ:=(af ((g2 B0 (λ e=>vd.O e.symm)).T Yv.O.2.1) 21).T rfl;simp only[cW]at GQ;have xg:=ax g1 17;have O6:=ag g1;clear g1 g2 a0 a1;refine nP hK ?_;clear hK K;refine tP [16,17,18] ?_
 iterate 3 refine tO ?_
 refine au 1 rfl ?_;refine sP 19 [0,1,2,3,4,5,6,7,8,9,10,11,12,13,14,15,16,17,18] λ K hK=>?_;go_simp;refine nP hK ?_;clear hK K;refine dP ?_;go_simp
 go_wp2_with fail
 go_ret;exact⟨m',nz.O.2.2,rfl,by unfold kP JZ;simpa using aU (j:=17) (.int .u64 ((q:Int)+1)) O6.O,((ns.bH nz.O.2.1).T HO8.O).T ⟨rfl,rfl,rfl,by simp[World.setCell], λ j _ hj=>aq _ _ _ _ hj⟩⟩
end
end Go.Proofs.YtbiififbfefkjaaGreatDoor

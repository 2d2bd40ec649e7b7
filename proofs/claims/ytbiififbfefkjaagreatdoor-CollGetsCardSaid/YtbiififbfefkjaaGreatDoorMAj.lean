/- The store, part 10. -/
import Derived.Test.YtbiififbfefkjaaGreatDoorMAf
import Derived.Test.YtbiififbfefkjaaGreatDoorMAg
import Derived.Test.YtbiififbfefkjaaGreatDoorMAh
set_option linter.unusedSimpArgs false
set_option linter.unusedVariables false
set_option maxRecDepth 100000
set_option maxHeartbeats 16000000
namespace Go.Proofs.YtbiififbfefkjaaGreatDoor
open Go.RowKit Go.Shelf
variable{w:World}{c A o cb x:Nat}{ps:List Piece}{xs a b:List Nat}{p:Prop}
section
attribute [-go_sem] Builtin.append_
def oP(b:az)(c:Nat):Prop:=(b=none/\c=0)\/∃B o,b=some ⟨B,o,none⟩
theorem PC{b:az}(h:qV w b ps)(hb:oP b c):FG w b ps.length (ps.map AI):=by
 rcases h.1 with h0|⟨B,o,e,hc⟩
 ·subst h0;rcases hb with⟨hb,_⟩|⟨B,o,hb⟩
  ·exact .inl ⟨rfl,hb⟩
  ·exact .inr ⟨B,o,hb, λ j u hj=>by simp at hj⟩
 ·refine .inr ⟨B,o,e, λ j u hj=>?_⟩;obtain⟨p,hp,rfl⟩:∃p,ps[j]? =some p/\AI p=u:=by simpa using hj
  exact hc j p hp
theorem M7{w2:World}{b:az}(hF:aQ w b c ps)(ke:oP b c)(hx:ay w (some ⟨A,o,none⟩) xs)(h11:1<=xs.length)(h12:xs.length<=100000)(jN:(aw ps).length+xs.length<=524288)
 {L N:Nat}(hL:L=ps.length)(hN:N=xs.length)(adn:L<=524288)(h2:Below w w w2)
 (l8:w2.heap[w.heap.size]? =some (.cells (fA b L c) 31))
 (hR:w2.heap[w.heap.size+1]? =some (.cells kF 31)):
 ∃(a4:az) (k4:Nat) (w4:World) (g6 c6:Nat) (w6:World) (g8 c8:Nat) (w8:World),
  (Builtin.append_ #[29,29] 29 #[.slice none 0 0,.slice b L c]).run Tryz.prog (((((w2.setCell (za w 0) (.slice none 0 0)).setCell (za w 1) (.slice b L c)).setCell (za w 2) (.int .i64 (-1))).setCell (za w 3) (.int .i64 (-1))).setCell (za w 4) (.bool false))= .ok (.slice a4 L k4) w4/\
  (Builtin.append_ #[28,28] 28 (fP (zp w4) 0 0 (some ⟨A,o,none⟩) N cb)).run Tryz.prog (w4.alloc (.cells #[] 5))= .ok (.slice (zp g6) N c6) w6/\
  (Builtin.append_ #[29,29] 29 (fP a4 L k4 (zp w6) 1 1)).run Tryz.prog (w6.alloc (.cells (sg (zp g6) N c6) 28))= .ok (.slice (zp g8) (L+1) c8) w8/\
  w8.heap[w.heap.size]? =some (.cells (fA b L c) 31)/\
  w8.heap[w.heap.size+1]? =some (.cells kF 31)/\
  aQ w8 (zp g8) c8 (ps++[(some ⟨g6,0,none⟩,xs,c6)])/\w.heap.size+2<=g8/\w.heap.size+2<=g6/\Below w w w8:=by
 obtain⟨w3,gV⟩:=bL (((((w2.setCell (za w 0) (.slice none 0 0)).setCell (za w 1) (.slice b L c)).setCell (za w 2) (.int .i64 (-1))).setCell (za w 3) (.int .i64 (-1))).setCell (za w 4) (.bool false));have Zm:w3.heap[w.heap.size]? =some (.cells (fA b L c) 31):=by rw[gV];exact Cp l8
 have hR3:w3.heap[w.heap.size+1]? =some (.cells kF 31):=by rw[gV,mW _ an];exact hR
 have cu:Below w w w3:=by rw[gV];exact h2.T (iw (cH))
 have VS:=hF.below cu;obtain⟨a4,k4,w4,lu,yX,Er⟩:=mg (P:=Tryz.prog) (cc:=c) 29 28 (.slice none 0 0) 1 24 bU Tryz.Kt rfl de (W:=w3) (n₀:=w3.heap.size) (k:=0) (c:=0) (a:=none) (xs:=[]) cP (PC VS.pieces ke) (by intro u hu;obtain⟨p,_,rfl⟩:=aM.1 hu;rfl) ⟨rfl,.inl ⟨rfl,rfl⟩⟩ (by rw[<-hL];omega) an (cH) (λ e=>by rcases ke with⟨_,h⟩|⟨B,o,h⟩;exact h;rw[h]at e;cases e);rw[bn,aN,<-hL]at yX;rw[aN,<-hL]at lu Er;have dX:=cu.T (Er.below.mono cu.size);obtain⟨w5,kY⟩:=bL (w4.alloc (.cells #[] 5));have dV:Below w4 w4 w5:=by rw[kY];go_grown
 have r6:=yt w4 (n₀:=w4.heap.size) (cH);rw[<-kY]at r6;obtain⟨g6,c6,w6,tI,C7,UI⟩:=fg (cc:=cb) r6 (hx.below (dX.T (dV.mono dX.size))) hN.symm (cm hN) (cm hN) dV.size;rw[bn,aN]at C7;rw[aN]at tI UI;have PE:Below w4 w4 w6:=dV.T UI.below;obtain⟨g8,c8,w8,acg,hr8,BR,hg8,ahf,ahg⟩:=kZ (P:=Tryz.prog) 29 28 (.slice none 0 0) 1 24 bU Tryz.Kt rfl de (sg (zp g6) N c6) rfl bz (dC.row PE yX) an an (aj Er.below.size PE.size);have ado:Below w3 w3 w8:=(Er.below.T (PE.mono Er.below.size)).T BR;have Zn:=(ado.block _ (cS Zm).1).T Zm;have Rp:=(ado.block _ (cS hR3).1).T hR3;have afh:=cu.T (ado.mono cu.size);have ai1:w.heap.size+2<=w3.heap.size:=(cS hR3).1;have ai2:=Er.below.size;have S3:w4.heap.size<=g6:=UI.fresh (cH) dV.size;have hy6:=(dk C7 hx.1).1;have hc6:=(dk C7 hx.1).2.1;have hG:dC w3 w6 w8 (.slice a4 L k4) (.slice (zp g8) (L+1) c8):=⟨BR, λ j hj hv=>ahf.block j hj (λ e=>hv e.symm),ahg.elim (λ h=>.inl h.symm) (λ h=>.inr ⟨g8,rfl,h⟩)⟩;have hy8:=hG.bytes hy6 λ B o e=>by
  cases e;rcases bg yX with⟨rfl,_⟩|⟨g,cur,rfl,_,h⟩
  ·simp[Value.ownBlock]
  ·exact qz ui
 rw[gV]at lu;rw[kY]at tI;refine⟨a4,k4,w4,g6,c6,w6,g8,c8,w8,lu,tI,acg,Zn,Rp,⟨⟨.inr ⟨g8,0,rfl, λ j p hp=>?_⟩, λ p hp=>?_⟩,?_,?_⟩,an,an,afh⟩
 ·rw[aN];refine kK hr8 j _ ?_;have:(ps++[((some ⟨g6,0,none⟩,xs,c6):Piece)]).map AI=ps.map AI++[.slice (zp g6) N c6]:=by simp[AI,hN]
  rw[<-this,aW,hp];rfl
 ·rcases aG.1 hp with h|h
  ·exact(hF.below afh).pieces.2 p h
  ·obtain rfl:=aE.1 h;exact⟨λ e=>by have e:xs=[]:=e;rw[e]at h11;simp at h11,by rw[<-hN];exact hc6,hy8⟩
 ·simp[aw]at jN⊢;omega
 ·have:=lQ hr8;rw[ar,<-hL];exact this
theorem nT(h:p:=by
 rw[gq]at e;exact h _ (ak e) x rfl
 ):p:=h
theorem M8{b:az}(hF:aQ w b c ps)(ke:oP b c)(hx:ay w (some ⟨A,o,none⟩) xs)(h1:1<=xs.length)(h2:xs.length<=100000)(jN:(aw ps).length+xs.length<=524288):
 Calls Tryz.prog 31 #[bN b ps.length c,.slice (some ⟨A,o,none⟩) xs.length cb] w λ e w'=>∃B' c' pc,e= .returned (.tuple #[bN (zp B') (ps.length+1) c',.int .i64 0])/\aQ w' (zp B') c' (ps++[pc])/\pc.2.1=xs/\w.heap.size<=B'/\eZ w pc.1/\Below w w w':=by
 obtain⟨L,hL⟩:=bL ps.length;obtain⟨N,hN⟩:=bL xs.length;have adp:= λ (w2:World) (h:Below w w w2)=>VX (hF.below h) xs.length jN;have adn:=hF.LB;have HF:=ag hF;have HX:=ag hx;have M9:=dO hL hN;have S4:=ag ke;have HN:=dO h1 h2;have FA:=ag jN;rw[<-hL,<-hN]at adp⊢;rw[<-hL]at adn;have HA:=ag adp;have H0:Hid (Below w w ((w.alloc (.cells (fA b L c) 31)).alloc (.cells kF 31))):=ag bW;clear adp hF hx ke h1 h2 jN hL hN;go_enter Tryz.func31,Tryz.ntmps31;unfold bN at*
 go_wp2_with first
  |((with_reducible refine(HA.O _ H0.O).mono ?_);rintro e w2 ⟨rfl,bG⟩;have H2:=ag (H0.O.T (bG.mono H0.O.size));obtain⟨l8,hR⟩:=bu bG;obtain⟨c0,c1,c2,c3,c4⟩:=dF l8;have g0:=ax l8 0;have g1:=ax l8 1;have g2:=ax l8 2;have g3:=ax l8 3;have g4:=ax l8 4;obtain⟨a4,k4,w4,g6,c6,w6,g8,c8,w8,lu,tI,acg,Zn,Rp,hF8,hg8,afi,BR⟩:=M7 (cb:=cb) HF.O S4.O HX.O HN.O.1 HN.O.2 FA.O M9.O.1 M9.O.2 adn H2.O l8 hR;obtain⟨d0,d1,d2,d3,d4⟩:=dF Zn;have e0:=ax Zn 0;have e1:=ax Zn 1;have e2:=ax Zn 2;have e3:=ax Zn 3;have e4:=ax Zn 4;have r0:=af Rp 0;have r1:=af Rp 1;have r2:=af Rp 2;have r3:=af Rp 3;have r4:=af Rp 4;have f0:=ax Rp 0;have f1:=ax Rp 1;have f2:=ax Rp 2;have f3:=ax Rp 3;have f4:=ax Rp 4;simp only[cW]at r0 r1 r2 r3 r4;have HZ:=dO Zn Rp;have HE:=eS hF8 hg8 BR;have HG6:=ag afi;clear l8 hR bG Zn Rp hF8 hg8 afi BR)
  |fail
 have hR9:(w8.setCell (za w 1) (.slice (zp g8) (L+1) c8)).heap[w.heap.size+1]? =_:=(aq _ _ _ _ (by show w.heap.size+1≠w.heap.size;omega)).T HZ.O.2;refine bodyPost_ret (v:=.tuple (vm (.agg (fA (zp g8) (L+1) c8)))) ?_ bp ?_
 ·rw[results_cell_tmp rfl];have hs:=af (Cp (v0:=.slice none 0 0) (v1:=.slice (zp g8) (L+1) c8) (v2:=.int .i64 (-1)) (v3:=.int .i64 (-1)) (v4:=.bool false) hR9);have s0:=hs 0;have s1:=hs 1;have s2:=hs 2;have s3:=hs 3;have s4:=hs 4;simp only[cW]at s0 s1 s2 s3 s4;clear hs hR9;go_simp
 ·have dN:∀(cs:List Value),cs.length=5->(∀v∈cs,∀x:Nat,v≠.int .u8 (x:Int))->∀(j x:Nat),cs.toArray[j]? ≠some (.int .u8 (x:Int)):= λ cs _ h j x e=>by
   exact nT
  have h8:=HE.O.1;have h9:=fQ (W':=w8.setCell (za w 1) (.slice (zp g8) (L+1) c8)) (λ j hj=>aq _ _ _ _ hj) HZ.O.1 (dN _ rfl cP) h8 (λ G o e=>by cases e;have:=HE.O.2.1;show g8≠w.heap.size;omega);exact⟨g8,c8,_,rfl,fQ (λ j hj=>mW j hj) hR9 (dN _ rfl cP) h9 (λ G o e=>by cases e;have:=HE.O.2.1;omega),rfl,by have:=HE.O.2.1;omega,(λ p e=>by cases e;have:=HG6.O;show w.heap.size<=g6;omega),(HE.O.2.2.setCell (p:=(za w 1)) (cH) _).T (iw an)⟩
section
variable {P : Program} {fn : Func} {p p2 u : Tmp} {ty ty2 : TypeId} (tmps : Array Value) (w : World) (b b2 : Nat) (cs cs2 : List Value) (d d2 : TypeDesc)
theorem abP(h:fn.results=#[.cell p ty,.tmp u])(hp:tmps.getD p undef= .pointer (zp b))(hc:w.rangeAt b 0 cs)(hu:P.underlying ty=some d)(hd:d.isRow=true)(hi:(P.info? ty).map (·.size)=some cs.length)(r:Value)(hr:tmps.getD u undef=r):
 (results fn tmps).run P w= .ok (.tuple #[.agg cs.toArray,r]) w:=by
 have e:=run_loadVar_mid w b 0 ty cs d hc hu hd hi;rw[results_cell_tmp h,hp,hr];simp[asAddr,e,Result.andThen]
theorem KH(h:fn.results=#[.cell p ty,.cell p2 ty2])(hp:tmps.getD p undef= .pointer (zp b))(C0:tmps.getD p2 undef= .pointer (zp b2))(hc:w.rangeAt b 0 cs)(PF:w.rangeAt b2 0 cs2)(hu:P.underlying ty=some d)(hd:d.isRow=true)(hi:(P.info? ty).map (·.size)=some cs.length)(Ss:P.underlying ty2=some d2)(sV:d2.isRow=true)(Y1:(P.info? ty2).map (·.size)=some cs2.length):
 (results fn tmps).run P w= .ok (.tuple #[.agg cs.toArray,.agg cs2.toArray]) w:=by
 have e:=run_loadVar_mid w b 0 ty cs d hc hu hd hi;have e2:=run_loadVar_mid w b2 0 ty2 cs2 d2 PF Ss sV Y1;have q:tmps[p]?.getD undef= .pointer (zp b):=by simpa using hp
 have q2:tmps[p2]?.getD undef= .pointer (zp b2):=by simpa using C0
 simp only[results,h];simp[eD,Result.andThen,q,q2,asAddr,e,e2]
theorem Ex(h:fn.results=#[.cell p ty,.cell p2 ty2,.tmp u])(hp:tmps.getD p undef= .pointer (zp b))(C0:tmps.getD p2 undef= .pointer (zp b2))(hc:w.rangeAt b 0 cs)(PF:w.rangeAt b2 0 cs2)(hu:P.underlying ty=some d)(hd:d.isRow=true)(hi:(P.info? ty).map (·.size)=some cs.length)(Ss:P.underlying ty2=some d2)(sV:d2.isRow=true)(Y1:(P.info? ty2).map (·.size)=some cs2.length)(r:Value)(hr:tmps.getD u undef=r):
 (results fn tmps).run P w= .ok (.tuple #[.agg cs.toArray,.agg cs2.toArray,r]) w:=by
 have e:=run_loadVar_mid w b 0 ty cs d hc hu hd hi;have e2:=run_loadVar_mid w b2 0 ty2 cs2 d2 PF Ss sV Y1;have q:tmps[p]?.getD undef= .pointer (zp b):=by simpa using hp
 have q2:tmps[p2]?.getD undef= .pointer (zp b2):=by simpa using C0
 have q3:tmps[u]?.getD undef=r:=by simpa using hr
 simp only[results,h];simp[eD,Result.andThen,q,q2,q3,asAddr,e,e2]
end
theorem Wu{b a:az}{cp:Nat}(hF:aQ w b c ps)(hm:Marks (aw ps))(ke:oP b c){p:List Nat}(hp:ay w a p)(h1:1<=p.length)(h2:p.length<=4096)(jN:(aw ps).length+(ed (aw ps).length (ft p)).length<=524288):
 Calls Tryz.prog 97 #[bN b ps.length c,.slice a p.length cp] w λ e w'=>∃B' c' pc,e= .returned (.tuple #[bN (zp B') (ps.length+1) c',.int .i64 (db (aw ps).length:Int)])/\aQ w' (zp B') c' (ps++[pc])/\pc.2.1=ed (aw ps).length (ft p)/\w.heap.size<=B'/\eZ w pc.1/\Below w w w':=by
 have Wv:=hF.small;have hol:=qM p;have VH:=Fj (aw ps).length (ft p);have h1l:1<=(ed (aw ps).length (ft p)).length:=by obtain⟨y,ys,e⟩:=ym p;have e2:=FH (aw ps).length (ft p) (aB (show(ft p).length - 1<(ft p).length by omega));rw[show(ft p).length - 1+1=(ft p).length by omega,bd]at e2;rw[e2,ny];simp
 have jB:= λ (w2:World) (h:Below w w w2)=>MR (hF.below h);have DS:= λ (w2:World) (h:Below w w w2)=>MP cp (hp.below h) h1 h2;have yN:= λ (w2:World) (A B:az) (k k2:Nat) (hA:ay w2 A (aw ps)) (hB:ay w2 B (ft p))=>Na k k2 hA hm Wv hB an an;have acj:= λ (w2:World) (h:Below w w w2) (B k:Nat) (hB:ay w2 (zp B) (ed (aw ps).length (ft p)))=>M8 (cb:=k) (hF.below h) ke hB h1l an jN;obtain⟨nn,Dc⟩:=bL ((ed (aw ps).length (ft p)).length);obtain⟨no,mr⟩:=bL ((ft p).length);obtain⟨na,hna⟩:=bL ((aw ps).length);obtain⟨np,hnp⟩:=bL p.length;obtain⟨nb,Jq⟩:=bL (db (aw ps).length);rw[<-Jq]at yN⊢;rw[<-Dc]at yN acj;rw[<-mr]at DS yN;rw[<-hna]at jB yN acj⊢;rw[<-hnp]at DS⊢;have ahh:=ag jB;have ahi:=ag DS;have ahj:=ag yN;have Nb:=ag acj;clear jB DS yN acj hF hm ke hp h1 h2 jN Wv hol VH h1l Dc mr hna hnp Jq;generalize ps.length=L at*;have H0:Hid (Below w w ((w.alloc (.cells (fA b L c) 31)).alloc (.cells kF 31))):=ag bW;go_enter Tryz.func97,Tryz.ntmps97;unfold bN at*
 go_wp2_with first
  |((with_reducible refine(ahh.O _ H0.O).mono ?_);rintro e w2 ⟨A2,k2,rfl,I5,bG⟩;have H2:=ag (H0.O.T (bG.mono H0.O.size));have HY2:=ag I5;obtain⟨l8,hR⟩:=bu bG;have HZ:=dO l8 hR;clear l8 hR bG I5)
  |((with_reducible refine(ahi.O _ H2.O).mono ?_);rintro e w3 ⟨B3,k3,rfl,hy3,cu⟩;have H3:=oT (H2.O.T (cu.mono H2.O.size)) (HY2.O.below cu) hy3 cu;clear cu hy3)
  |((with_reducible refine(ahj.O _ _ _ _ _ H3.O.2.1 H3.O.2.2.1).mono ?_);rintro e w4 ⟨B4,k4,rfl,hy4,Kn,dX⟩;clear Kn;have qh:=H3.O.2.2.2.T (dX.mono H3.O.2.2.2.size);have H4:=dO (H3.O.1.T (dX.mono H3.O.1.size)) hy4;have Hl:=(qh.block _ (cS HZ.O.1).1).T HZ.O.1;have hR4:=(qh.block _ (cS HZ.O.2).1).T HZ.O.2;obtain⟨c0,c1,c2,c3,c4⟩:=dF Hl;have S6:=dO Hl hR4;clear dX hy4 qh Hl hR4)
  |((with_reducible refine(Nb.O _ H4.O.1 _ _ H4.O.2).mono ?_);rintro e w5 ⟨B5,k5,pc,rfl,hF5,vY,ahk,afk,dV⟩;have HE:=G2 hF5 vY (H4.O.1.T (dV.mono H4.O.1.size)) ((dV.block _ (cS S6.O.1).1).T S6.O.1) ((dV.block _ (cS S6.O.2).1).T S6.O.2);have HG5:Hid (w.heap.size+2<=B5):=ag (by have:=(cS S6.O.2).1;omega);have HP5:=ag (show eZ w pc.1 from λ p e=>aj H4.O.1.size (afk p e));clear hF5 vY dV ahk afk c0 c1 c2 c3 c4)
  |(refine lz 31 (fA (zp B5) (L+1) k5) HE.O.2.2.2.1 (λ w6 h1 h2 h3=>?_);have H6:=eS h1 (λ j (hj:j≠w.heap.size)=>h2 j hj) (h3 w w (cH) HE.O.2.2.1);have Cv:=aF h1;clear h1 h2 h3)
  |(refine lz 31 (fA (zp B5) (L+1) k5) ((H6.O.2.1 (w+1) an).T HE.O.2.2.2.2) (λ w7 h1 h2 h3=>?_);have H7:=eS h1 (λ j (hj:j≠w.heap.size+1)=>h2 j hj) (h3 w w (bk _) H6.O.2.2);clear h1 h2 h3)
  |(refine dG 31 ?_)
  |fail
 have dN:∀(cs:List Value),cs.length=5->(∀v∈cs,∀x:Nat,v≠.int .u8 (x:Int))->∀(j x:Nat),cs.toArray[j]? ≠some (.int .u8 (x:Int)):= λ cs _ h j x e=>by exact nT
 have h6:=fQ (λ j hj=>H6.O.2.1 j hj) HE.O.2.2.2.1 (dN _ rfl cP) HE.O.1 (λ G o e=>by cases e;have:=HG5.O;omega);have h7:=fQ (λ j hj=>H7.O.2.1 j hj) ((H6.O.2.1 (w+1) an).T HE.O.2.2.2.2) (dN _ rfl cP) h6 (λ G o e=>by cases e;have:=HG5.O;omega);exact bodyPost_ret (v:=.tuple #[.agg (fA (zp B5) (L+1) k5),.int .i64 (nb:Int)]) (abP _ _ (w+1) (fA (zp B5) (L+1) k5) _ rfl rfl (aF H7.O.1) Tryz.underlying31 rfl bU _ rfl) bp ⟨B5,k5,pc,rfl,h7,HE.O.2.1,by have:=HG5.O;omega,HP5.O,H7.O.2.2⟩
end
section
attribute [local go_sem] Oper.semAt_some
attribute [-go_sem] Builtin.append_
theorem Th(x:Int)(w:World):Calls Tryz.prog 237 #[.int .u8 x] w λ e w'=>e= .returned (.bool false)/\w'=w:=by
 go_enter Tryz.func237,Tryz.ntmps237
 go_wp2_with fail
 go_ret;exact⟨rfl,rfl⟩
def AW(x y:Nat):Int:=if x<y then-1 else if y<x then 1 else 0
theorem ry(h:p:=by
 go_enter Tryz.func211,Tryz.ntmps211
 go_wp2_with first
  |((with_reducible refine(Th _ _).mono ?_);rintro e w2 ⟨rfl,rfl⟩)
  |fail
 go_ret;exact⟨rfl,rfl⟩
 ):p:=h
theorem No(x y:Nat)(w:World):Calls Tryz.prog 211 #[.int .u8 (x:Int),.int .u8 (y:Int)] w λ e w'=>e= .returned (.int .i64 (AW x y))/\w'=w:=by
 have key:(x<y/\AW x y= -1)\/(y<x/\AW x y=1)\/(x=y/\AW x y=0):=by
  unfold AW;rcases iK x y with h|h|h
  ·left;exact⟨h,by rw[if_pos h]⟩
  ·right;right;exact⟨h,by rw[if_neg an,if_neg an]⟩
  ·right;left;exact⟨h,by rw[if_neg an,if_pos h]⟩
 rcases key with⟨h,e⟩|⟨h,e⟩|⟨rfl,e⟩
 ·rw[e];clear e;have h1:decide ((x:Int)<(y:Int))=true:=dU;exact ry
 ·rw[e];clear e;have h1:decide ((x:Int)<(y:Int))=false:=dU;have h2:decide ((y:Int)<(x:Int))=true:=dU;exact ry
 ·rw[e];clear e;exact ry
theorem abQ(x y:Nat)(xs ys:List Nat):cmpL (x::xs) (y::ys)=if AW x y=0 then cmpL xs ys else AW x y:=by
 show(if x<y then(-1:Int)else if y<x then 1 else cmpL xs ys)=_;unfold AW;split
 ·simp
 ·split
  ·simp
  ·simp
theorem yw{W:World}{a:az}(h:ay W a xs){j:Nat}(hj:xs[j]? =some x):∃B o,a=some ⟨B,o,none⟩/\W.cell? (za B (o+j))=some (.int .u8 (x:Int)):=by
 rcases h.2 with h|⟨B,o,e,h⟩
 ·rw[h]at hj;simp at hj
 ·exact⟨B,o,e,h j x hj⟩
theorem FW{i:Nat}(h:xs[i]? =some x):xs.drop i=x::xs.drop (i+1):=by rw[bI (aC.1 h).1,(aC.1 h).2]
theorem KO{p q:az}(c d:Nat)(ha:ay w p a)(hb:ay w q b)(kA:a.length<=1000000):
 Calls Tryz.prog 191 (fP p a.length c q b.length d) w λ e w'=>e= .returned (.int .i64 (cmpL a b))/\w'=w:=by
 have HA:=ag ha;have HB:=ag hb;have acn:(a.length:Int)<=1000000:=an;clear ha hb kA;go_enter Tryz.func191,Tryz.ntmps191
 go_wp2_with fail
 go_loopw [11] (λ iv wr=>∃i:Nat,i<=a.length/\i<=b.length/\iv= .int .i64 (i:Int)/\Hid (wr=w)/\Hid (cmpL (a.drop i) (b.drop i)=cmpL a b)) (λ iv _=>a.length - (intOf iv).toNat)
 case atStart=>exact⟨0,an,an,rfl,ag rfl,ag rfl⟩
 case round=>
  obtain⟨i,hi,hib,rfl,hw,hc⟩:=hrel;by_cases cL:i<a.length
  ·obtain⟨x,hx⟩:∃x,a[i]? =some x:=⟨a[i],by simp[cL]⟩;obtain⟨B,o,rfl,Ca⟩:=yw HA.O hx;have eb:=FW hx;rw[<-hw.O]at Ca;have mn:(i:Int)<(a.length:Int):=an;have zP:(i:Int)<=1000000:=an;by_cases hlb:i<b.length
   ·obtain⟨y,hy⟩:∃y,b[i]? =some y:=⟨b[i],by simp[hlb]⟩;obtain⟨B',o',rfl,hcy⟩:=yw HB.O hy;have tt:=FW hy;rw[<-hw.O]at hcy;have hjb:decide ((b.length:Int)<=(i:Int))=false:=dU;have ai4:(i:Int)<(b.length:Int):=an;have HC:Hid (cmpL a b=if AW x y=0 then cmpL (a.drop (i+1)) (b.drop (i+1))else AW x y):=ag (by rw[<-hc.O,eb,tt,abQ]);clear hx hy eb tt hc;by_cases h0:AW x y=0
    ·have h0i:(AW x y==0)=true:=by simp[h0]
     go_wp2_with first
      |((with_reducible refine(No x y _).mono ?_);rintro e w2 ⟨rfl,fH⟩;rw[fH];clear fH w2)
      |fail
     exact⟨⟨i+1,an,an,by simp,hw,ag (by rw[HC.O,if_pos h0])⟩,by simp[intOf];omega⟩
    ·have h0i:(AW x y==0)=false:=by simp[h0]
     have LN:Hid (AW x y=cmpL a b):=ag (by rw[HC.O,if_neg h0])
     go_wp2_with first
      |((with_reducible refine(No x y _).mono ?_);rintro e w2 ⟨rfl,fH⟩;rw[fH];clear fH w2)
      |fail
     go_ret;exact⟨by rw[LN.O];rfl,hw.O⟩
   ·have hjb:decide ((b.length:Int)<=(i:Int))=true:=dU;have HC:Hid (cmpL a b=1):=ag (by rw[<-hc.O,eb,(dh an:b.drop i=[])];rfl);clear hx eb hc
    go_wp2_with fail
    go_ret;exact⟨by rw[HC.O];rfl,hw.O⟩
  ·obtain rfl:i=a.length:=an;by_cases hl:a.length<b.length
   ·have hli:decide ((a.length:Int)<(b.length:Int))=true:=dU;have HC:Hid (cmpL a b= -1):=ag (by
     obtain⟨y,hy⟩:∃y,b[a.length]? =some y:=⟨b[a.length],by simp[hl]⟩;rw[<-hc.O,FW hy,dh (cH)];rfl)
    clear hc
    go_wp2_with fail
    go_ret;exact⟨by rw[HC.O];rfl,hw.O⟩
   ·have hli:decide ((a.length:Int)<(b.length:Int))=false:=dU;have HC:Hid (cmpL a b=0):=ag (by rw[<-hc.O,dh (cH),(dh an:b.drop a.length=[])];rfl);clear hc
    go_wp2_with fail
    go_ret;exact⟨by rw[HC.O];rfl,hw.O⟩
theorem AX{p q:az}(c d:Nat)(ha:ay w p a)(hb:ay w q b)(kA:a.length<=1000000):
 Calls Tryz.prog 156 (fP p a.length c q b.length d) w λ e w'=>e= .returned (.bool (decide (cmpL a b<0)))/\w'=w:=by
 have HC:=ag (KO c d ha hb kA);have acn:(a.length:Int)<=1000000:=an;clear ha hb kA;go_enter Tryz.func156,Tryz.ntmps156
 go_wp2_with first
  |((with_reducible refine HC.O.mono ?_);rintro e w2 ⟨rfl,fH⟩;rw[fH];clear fH w2)
  |fail
 go_ret;exact⟨rfl,rfl⟩
theorem Aa{p q:az}(c d:Nat)(ha:ay w p a)(hb:ay w q b)(kA:a.length<=1000000):
 Calls Tryz.prog 192 (fP p a.length c q b.length d) w λ e w'=>e= .returned (.bool (decide (a=b)))/\Below w w w':=by
 have HA:=ag ha;have HB:=ag hb;have acn:(a.length:Int)<=1000000:=an;clear ha hb kA;by_cases hl:a.length=b.length
 ·have dN:((a.length:Int)==(b.length:Int))=true:=by simp[hl]
  have WL:((a.length:Int)=(b.length:Int)):=an;have HL:=ag hl;clear hl;go_enter Tryz.func192,Tryz.ntmps192
  go_wp2_with fail
  go_loopw [13] (λ iv wr=>∃i:Nat,i<=a.length/\iv= .int .i64 (i:Int)/\Hid (Below w w wr)/\Hid (a.take i=b.take i)) (λ iv _=>a.length - (intOf iv).toNat)
  case atStart=>exact⟨0,an,rfl,ag (gb),ag rfl⟩
  case round=>
   obtain⟨i,hi,rfl,hw,hc⟩:=hrel;by_cases cL:i<a.length
   ·obtain⟨x,hx⟩:∃x,a[i]? =some x:=⟨a[i],by simp[cL]⟩;obtain⟨y,hy⟩:∃y,b[i]? =some y:=⟨b[i]'(cm HL.O),by have:=HL.O;simp⟩;obtain⟨B,o,rfl,Ca⟩:=yw HA.O hx;obtain⟨B',o',rfl,hcy⟩:=yw HB.O hy;have f1:=carry hw.O Ca;have f2:=carry hw.O hcy;have mn:(i:Int)<(a.length:Int):=an;have hjb:(i:Int)<(b.length:Int):=an;have zP:(i:Int)<=1000000:=an;have HX:=dO hx hy;clear Ca hcy hx hy;by_cases UO:x=y
    ·have hn:((x:Int)!=(y:Int))=false:=dU;have hT:Hid (a.take (i+1)=b.take (i+1)):=ag (by rw[aL,aL,HX.O.1,HX.O.2,hc.O,UO]);clear UO
     go_wp2_with fail
     refine bP 9 ?_;refine tP [0,1,2,3,4,5,6,7,8] ?_
     iterate 9 refine tO ?_
     refine au 0 rfl ?_;refine dP ?_;go_simp
     go_wp2_with fail
     exact⟨⟨i+1,an,by simp,ag hw.O.drew,hT⟩,by simp[intOf];omega⟩
    ·have hn:((x:Int)!=(y:Int))=true:=dU;have hT:Hid (decide (a=b)=false):=ag (by
      simp only[decide_eq_false_iff_not];intro h;have h1:=HX.O.1;rw[h,HX.O.2]at h1;exact UO (fp h1).symm)
     clear UO
     go_wp2_with fail
     refine bP 9 ?_;refine tP [0,1,2,3,4,5,6,7,8] ?_
     iterate 9 refine tO ?_
     refine au 0 rfl ?_;refine dP ?_;go_simp
     go_wp2_with fail
     go_ret;exact⟨by rw[hT.O];rfl,hw.O.drew⟩
   ·have hT:Hid (decide (a=b)=true):=ag (by
     have h:=hc.O;have hl:=HL.O;rw[aY an,aY an]at h;simp[h])
    have mn:¬ (i:Int)<(a.length:Int):=an
    go_wp2_with fail
    go_ret;exact⟨by rw[hT.O];rfl,hw.O⟩
 ·have dN:((a.length:Int)==(b.length:Int))=false:=dU;have HE:Hid (decide (a=b)=false):=ag (by simp;intro h;exact hl (by rw[h]));go_enter Tryz.func192,Tryz.ntmps192
  go_wp2_with fail
  go_ret;exact⟨by rw[HE.O];rfl,gb⟩
structure eH where
 ka:az
 key:List Nat
 kc:Nat
 put:Bool
 va:az
 val:List Nat
 vc:Nat
def eH.cells(x:eH):List Value:=(vq x.ka x.key.length x.kc x.put x.va x.val.length x.vc)
abbrev aes(ka:az)(kl kc:Nat)(p:Bool)(va:az)(vl vc:Nat):Value:=.agg (vq ka kl kc p va vl vc)
def je(W:World)(a:az)(l:List eH):Prop:=cV eH.cells 5 W a l/\∀x∈l,ay W x.ka x.key/\ay W x.va x.val
theorem je.below{W W':World}{a:az}{l:List eH}(h:je W a l)(hb:Below W W W'):je W' a l:=⟨h.1.below hb, λ x hx=>⟨(h.2 x hx).1.below hb,(h.2 x hx).2.below hb⟩⟩
def sZ(x:eH):Prop:=1<=x.key.length/\x.key.length<=120/\x.val.length<=100/\(x.put=false->x.val=[])
theorem WM{kl vl:Nat}{p:Bool}(h1:1<=kl)(h2:kl<=120)(h3:vl<=100)(h4:p=false->vl=0)(ka va:az)(kc vc:Nat)(w:World):
 Calls Tryz.prog 155 #[aes ka kl kc p va vl vc] w λ e w'=>e= .returned (.bool true)/\Below w w w':=by
 have HB:Hid (Below w w (w.alloc (.cells (vq ka kl kc p va vl vc) 174))):=ag bW;have e1:decide ((kl:Int)<1)=false:=dU;have e2:decide ((120:Int)<(kl:Int))=false:=dU;have e3:decide ((100:Int)<(vl:Int))=false:=dU;have e4:¬ kl=0:=an;have e5:kl<=120:=h2;have e6:vl<=100:=h3;cases p with
 |true=>
  clear h1 h2 h3 h4;go_enter Tryz.func155,Tryz.ntmps155
  go_wp2_with fail
  go_ret;exact⟨rfl,HB.O⟩
 |false=>
  obtain rfl:=h4 rfl;clear h1 h2 h3 h4;go_enter Tryz.func155,Tryz.ntmps155
  go_wp2_with fail
  go_ret;exact⟨rfl,HB.O⟩
theorem Dn{a:az}{l:List eH}(c:Nat)(h:je w a l)(ho:∀x∈l,sZ x)(hr:cR (l.map eH.key))(hlen:l.length<=1000):
 Calls Tryz.prog 120 (sg a l.length c) w λ e w'=>e= .returned (.int .i64 0)/\Below w w w':=by
 have HE:=eS h ho hr;have Ru:(l.length:Int)<=1000:=an;clear h ho hr;go_enter Tryz.func120,Tryz.ntmps120
 go_wp2_with fail
 go_loopw [7] (λ iv wr=>∃i:Nat,i<=l.length/\iv= .int .i64 (i:Int)/\Hid (Below w w wr)) (λ iv _=>l.length - (intOf iv).toNat)
 case atStart=>exact⟨0,an,rfl,ag (gb)⟩
 case round=>
  obtain⟨i,hi,rfl,hw⟩:=hrel;by_cases cL:i<l.length
  ·obtain⟨x,hx⟩:∃x,l[i]? =some x:=⟨l[i],by simp[cL]⟩;obtain⟨B,o,rfl⟩:=HE.O.1.1.some_ an;have hg:wr.rangeAt B (o+i*5) (vq x.ka x.key.length x.kc x.put x.va x.val.length x.vc):=(HE.O.1.below hw.O).1.get hx;have kD:=HE.O.2.1 x (ak hx);have HM:=ag λ W=>WM (p:=x.put) kD.1 kD.2.1 kD.2.2.1 (λ e=>by rw[kD.2.2.2 e];rfl) x.ka x.va x.kc x.vc W;obtain⟨W1,vK⟩:=bL (wr.alloc (.cells (vq x.ka x.key.length x.kc x.put x.va x.val.length x.vc) 174));have Iw:Below w w W1:=by rw[vK];exact hw.O.alloc hw.O.size _
   have hn:W1.heap[wr.heap.size]? =some (.cells (vq x.ka x.key.length x.kc x.put x.va x.val.length x.vc) 174):=qK vK;have mn:(i:Int)<(l.length:Int):=an;have zP:(i:Int)<=1000:=an;have HX:=ag hx;clear hx kD;by_cases h0:i=0
   ·subst h0;have HV:Hid (∀V,Below W1.drew.heap.size W1.drew V->True/\True/\Hid (Below w w V)):=ag λ V hb=>⟨trivial,trivial,ag (Iw.drew.T (hb.mono Iw.size))⟩;have Cv:=run_loadAt_mid (P:=Tryz.prog) W1.drew wr 0 174 (vq x.ka x.key.length x.kc x.put x.va x.val.length x.vc) _ (aF (W:=W1.drew) hn) Tryz.underlying174 rfl bU;have c1:True:=trivial;rw[vK]at Cv HV;clear hn Iw vK
    go_wp2_with first
     |(refine dG 174 ?_)
     |(refine mf 174 rfl _ _ rfl _ _ _ rfl cP rfl rfl bU bz ?_)
     |fail
    refine bP 19 ?_;refine tP [0] ?_;refine tO ?_;refine au 18 rfl ?_;refine sP 1 [0] λ K hK=>?_;go_simp;(with_reducible refine(HM.O _).mono ?_);rintro e w2 ⟨rfl,bG⟩;obtain⟨v1,v2,v3⟩:=HV.O w2 bG;clear Cv c1;refine nP hK ?_;clear hK K;refine Ra [(2,true),(3,true),(4,true),(5,true),(6,true),(7,false),(8,false),(9,false),(10,false),(11,false),(12,false),(13,false),(14,false)] ?_
    iterate 5 refine tO ?_
    iterate 8 refine tF ?_
    refine au 4 rfl ?_;refine sP 15 [0,1,2,3,4,5,6,7,8,9,10,11,12,13,14] λ K hK=>?_;go_simp;refine nP hK ?_;clear hK K;refine Ra [(16,false),(17,true),(18,true)] ?_
    iterate 1 refine tF ?_
    iterate 2 refine tO ?_
    refine au 0 rfl ?_;refine dP ?_;go_simp
    go_wp2_with fail
    exact⟨⟨1,an,rfl,v3⟩,by simp[intOf];omega⟩
   ·obtain⟨m,rfl⟩:∃m,i=m+1:=⟨i - 1,an⟩;obtain⟨y,hy⟩:∃y,l[m]? =some y:=⟨l[m]'an,by simp<;>omega⟩;have hgy:wr.rangeAt B (o+m*5) (vq y.ka y.key.length y.kc y.put y.va y.val.length y.vc):=(HE.O.1.below hw.O).1.get hy;have AH:cmpL y.key x.key= -1:=HE.O.2.2 m _ _ kj (by simp[HX.O]);have LO:Hid (∀V,Below w w V->Calls Tryz.prog 156 (fP y.ka y.key.length y.kc x.ka x.key.length x.kc) V λ e w'=>e= .returned (.bool true)/\w'=V):=ag λ V hb=>by
     have he:=HE.O.1.below hb;refine(AX y.kc x.kc (he.2 y (ak hy)).1 (he.2 x (ak HX.O)).1 (by have:=HE.O.2.1 y (ak hy);unfold sZ at this;omega)).mono ?_;rintro e w' ⟨rfl,rfl⟩;rw[AH];exact⟨rfl,rfl⟩
    have HV:Hid (∀V,Below W1.drew.heap.size W1.drew V->V.cell? ⟨B,o+m*5,none⟩=some (.slice y.ka y.key.length y.kc)/\V.cell? (za wr 0)=some (.slice x.ka x.key.length x.kc)/\Hid (Below w w V)):=ag λ V hb=>by
     have cN:Below wr wr W1:=by rw[vK];go_grown
     exact⟨carry hb (carry cN.drew (hgy 0 _ rfl)),carry hb ((af (W:=W1.drew) hn 0).T rfl),ag (Iw.drew.T (hb.mono Iw.size))⟩
    have Cv:=run_loadAt_mid (P:=Tryz.prog) W1.drew wr 0 174 (vq x.ka x.key.length x.kc x.put x.va x.val.length x.vc) _ (aF (W:=W1.drew) hn) Tryz.underlying174 rfl bU;have c1:True:=trivial;have Mg:(0:Int)<(m:Int)+1:=an;have SC:IntKind.i64.wrap (m:Int)=(m:Int):=by rw[aI];omega
    have hm3:(m:Int)<(l.length:Int):=an;rw[vK]at Cv HV;clear hn Iw vK hgy AH hy
    go_wp2_with first
     |(refine dG 174 ?_)
     |(refine mf 174 rfl _ _ rfl _ _ _ rfl cP rfl rfl bU bz ?_)
     |fail
    refine bP 19 ?_;refine tP [0] ?_;refine tO ?_;refine au 18 rfl ?_;refine sP 1 [0] λ K hK=>?_;go_simp;(with_reducible refine(HM.O _).mono ?_);rintro e w2 ⟨rfl,bG⟩;obtain⟨v1,v2,v3⟩:=HV.O w2 bG;clear Cv c1;refine nP hK ?_;clear hK K;refine tP [2,3,4,5,6,7,8,9,10,11,12,13,14] ?_
    iterate 13 refine tO ?_
    refine au 4 rfl ?_;refine sP 15 [0,1,2,3,4,5,6,7,8,9,10,11,12,13,14] λ K hK=>?_;go_simp;(with_reducible refine(LO.O _ v3.O).mono ?_);rintro e w4 ⟨rfl,kd⟩;rw[kd];clear kd w4;refine nP hK ?_;clear hK K;refine tP [16,17,18] ?_
    iterate 3 refine tO ?_
    refine au 0 rfl ?_;refine dP ?_;go_simp
    go_wp2_with fail
    exact⟨⟨m+2,an,by simp;omega,v3⟩,by simp[intOf];omega⟩
  ·obtain rfl:i=l.length:=an
   go_wp2_with fail
   go_ret;exact⟨rfl,hw.O⟩
end
section
attribute [-go_sem] Builtin.append_
def acu(v:Int):List Value:=[.int .i64 v]
def rL(W:World)(a:az)(fs:List Int):Prop:=cV acu 1 W a fs/\∀v∈fs, -9223372036854775808<=v/\v<9223372036854775808
theorem rL.below{W W':World}{a:az}{fs:List Int}(h:rL W a fs)(hb:Below W W W'):rL W' a fs:=⟨cV.below h.1 hb,h.2⟩
theorem RJ:(Tryz.prog.info? 3).map (λ i=>(i.zero,i.size,i.bytes))=some (some (.int .i64 0),1,8):=bU
structure Gs(n:Nat)(ks:List Nat):Prop where
 sum:ks.sum=n
 le6:∀k∈ks,1<=k/\k<=6
 one:n<=6->ks=[n]
 three:6<n->∀k∈ks,3<=k
def nG(ks:List Nat):List Value:=(ks.map λ k:Nat=>Value.int .i64 (k:Int))
theorem xx(h:p:=by
 obtain⟨g',c',w5,eh,zg,jE⟩:=key (m - 3) ((m:Int) - 3) an an an an;clear key
 go_wp2_with fail
 exact⟨⟨m - (m - 3),i+1,_,_,_,congrArg (Value.int .i64) (cm HB.O),by simp,rfl,by have:=HB.O;omega,by have:=HB.O;omega,zg,jE⟩,by have:=HB.O;simp[intOf];omega⟩
 ):p:=h
theorem Qj{a:az}{fs:List Int}(c n:Nat)(h:rL w a fs)(h1:1<=n)(hn:n<=1000)(qH:fs.length<4611686018427387904):
 Calls Tryz.prog 60 #[.int .i64 (n:Int),.slice a fs.length c] w λ e w'=>∃(ks:List Nat) (q:az) (k:Nat),Gs n ks/\e= .returned (.slice q ks.length k)/\w'.ownsRow w 3 1 (.slice q ks.length k) ks.length (nG ks)/\Below w w w':=by
 obtain⟨F,hF⟩:=bL fs.length;have hF1:(F:Int)<4611686018427387904:=an;have HF:=dO h hF;have HN:=dO h1 hn;have kH:(n:Int)<=1000:=an;rw[<-hF];clear h h1 hn qH hF;go_enter Tryz.func60,Tryz.ntmps60
 go_wp2_with fail
 go_loopw [0,5,6] (λ nv ov iv wr=>∃(m i:Nat) (q:az) (L k:Nat),nv= .int .i64 (m:Int)/\iv= .int .i64 (i:Int)/\ov= .slice q L k/\m<=1000/\i+m<=1000/\Hid (∃ks:List Nat,L=ks.length/\wr.ownsRow w 3 1 (.slice q L k) L (nG ks)/\m+ks.sum=n/\(∀k∈ks,3<=k/\k<=6)/\(if ks=[]then m=n else 3<=m/\6<n)/\L+m<=1000)/\Hid (Below w w wr)) (λ nv _ _ _=>(intOf nv).toNat)
 case atStart=>exact⟨n,0,none,0,0,rfl,rfl,rfl,HN.O.2,by have:=HN.O.2;omega,ag ⟨[],rfl,⟨by simp[nG],.inl ⟨rfl,rfl⟩⟩,by simp,by simp,by simp,by have:=HN.O.2;omega⟩,ag (gb)⟩
 case round=>
  obtain⟨m,i,q,L,k,rfl,rfl,rfl,hm,him,LM,hB⟩:=hrel;by_cases h6:6<m
  ·have key:∀(kk:Nat) (K:Int),K=(kk:Int)->3<=kk->kk<=6->3<=m - kk->∃g' c' w5,(Builtin.append_ #[24,24] 24 (fP q L k (zp wr) 1 1)).run Tryz.prog (wr.alloc (.cells #[.int .i64 K] 3))= .ok (.slice (zp g') (L+1) c') w5/\Hid (∃ks:List Nat,L+1=ks.length/\w5.ownsRow w 3 1 (.slice (zp g') (L+1) c') (L+1) (nG ks)/\(m - kk)+ks.sum=n/\(∀k∈ks,3<=k/\k<=6)/\(if ks=[]then m - kk=n else 3<=m - kk/\6<n)/\L+1+(m - kk)<=1000)/\Hid (Below w w w5):= λ kk K hK g1 g2 g3=>by
    subst hK;obtain⟨ks,e1,e2,e3,e4,e5,e6⟩:=LM.O;obtain⟨g',c',w5,eh,hr,hg⟩:=gR (P:=Tryz.prog) 24 3 (.int .i64 0) 1 8 bU RJ rfl de [.int .i64 (kk:Int)] rfl bz e2 an an hB.O.size;refine⟨g',c',w5,eh,ag ⟨ks++[kk],by simp[e1],by simpa[nG]using hr,by simp;omega, λ x hx=>?_,by simp;refine⟨an,?_⟩;split at e5<;>omega,an⟩,ag (hB.O.T hg.below)⟩;rcases aG.1 hx with hx|hx
    ·exact e4 x hx
    ·rw[aE]at hx;omega
   have h6i:(6:Int)<(m:Int):=an;have hmi:(m:Int)<=1000:=an;have hii:(i:Int)<=1000:=an;have HB:=dO hm him;clear hm him LM;by_cases hif:i<F
   ·have ahO:(i:Int)<(F:Int):=an;obtain⟨v,hv⟩:∃v,fs[i]? =some v:=⟨_,aB (cm HF.O.2)⟩;obtain⟨B,o,hA⟩:=HF.O.1.1.some_ (cm HF.O.2);have Ak:w.rangeAt B (o+i*1) (acu v):=by
     have h1:=HF.O.1.1;rw[hA]at h1;exact h1.get hv
    have c0:=(nm Ak hB.O) 0 _ rfl;rw[Nat.mul_one,bb]at c0;have hv9:=HF.O.1.2 v (ak hv);obtain⟨r,hr⟩:=bL (Int.tmod v 4);have C8: -3<=r/\r<=3:=by
     rcases Int.le_total 0 v with h0|h0
     ·rw[hr,dm h0];omega
     ·have:Int.tmod v 4= -Int.tmod (-v) 4:=by rw[Int.neg_tmod];omega
      rw[hr,this,dm an];omega
    have oO:=C8.1;have nL:=C8.2;obtain⟨z,hz⟩:∃z:Nat,(z:Int)=(r+4)%4:=⟨((r+4)%4).toNat,an⟩;have Hl:z<4:=an;have e1:Int.tmod v 4=r:=hr.symm;have e2:Int.tmod (r+4) 4=(z:Int):=by rw[dm an,hz]
    have e3:(r+4)%4=(z:Int):=hz.symm;have yI:=hv9.1;have mu:=hv9.2;have ajp:(z:Int)<4:=an;subst hA;clear Ak hv hr C8 hz hv9;by_cases h3:(m:Int) - (3+(z:Int))<3
    ·have d3:decide ((m:Int) - (3+(z:Int))<3)=true:=decide_eq_true h3;exact xx
    ·have d3:decide ((m:Int) - (3+(z:Int))<3)=false:=decide_eq_false h3;obtain⟨g',c',w5,eh,zg,jE⟩:=key (3+z) (3+(z:Int)) an an an an;clear key
     go_wp2_with fail
     exact⟨⟨m - (3+z),i+1,_,_,_,congrArg (Value.int .i64) (cm HB.O),by simp,rfl,by have:=HB.O;omega,by have:=HB.O;omega,zg,jE⟩,by have:=HB.O;simp[intOf];omega⟩
   ·have ahO:¬ (i:Int)<(F:Int):=an;by_cases h3:(m:Int) - 6<3
    ·have d3:decide ((m:Int) - 6<3)=true:=decide_eq_true h3;exact xx
    ·have d3:decide ((m:Int) - 6<3)=false:=decide_eq_false h3;obtain⟨g',c',w5,eh,zg,jE⟩:=key (6) (6) an an an an;clear key
     go_wp2_with fail
     exact⟨⟨m - (6),i+1,_,_,_,congrArg (Value.int .i64) (cm HB.O),by simp,rfl,by have:=HB.O;omega,by have:=HB.O;omega,zg,jE⟩,by have:=HB.O;simp[intOf];omega⟩
  ·obtain⟨ks,e1,e2,e3,e4,e5,e6⟩:=LM.O;have Mg:1<=m:=by
    split at e5
    ·have:=HN.O.1;omega
    ·omega
   obtain⟨g',c',w5,eh,hr,hg⟩:=gR (P:=Tryz.prog) 24 3 (.int .i64 0) 1 8 bU RJ rfl de [.int .i64 (m:Int)] rfl bz e2 an an hB.O.size;have afK:nG (ks++[m])=nG ks++[.int .i64 (m:Int)]:=by unfold nG;simp
   have Ck:(Builtin.append_ #[24,24] 24 (fP q L k (zp wr) 1 1)).run Tryz.prog (wr.alloc (.cells (Ih m) 3))= .ok (.slice (zp g') (L+1) c') w5:=eh;have HE:Hid (Gs n (ks++[m])/\L+1=(ks++[m]).length/\w5.ownsRow w 3 1 (.slice (zp g') (L+1) c') (L+1) (nG (ks++[m]))/\Below w w w5):=ag ⟨⟨by simp;omega, λ x hx=>?_, λ hn6=>?_, λ hn6 x hx=>?_⟩,by simp[e1],by rw[afK];exact hr,hB.O.T hg.below⟩
   ·have RK:¬ (6:Int)<(m:Int):=an;have d6:decide ((6:Int)<(m:Int))=false:=decide_eq_false RK;have hmp:(0:Int)<(m:Int):=an;have dmp:decide ((0:Int)<(m:Int))=true:=decide_eq_true hmp;have hm7:(m:Int)<=6:=an;have zH:0<m:=an;clear RK LM hm him e1 e2 e3 e4 e5 e6 hr hg h6 Mg eh afK
    go_wp2_with fail
    go_ret;exact⟨ks++[m],_,_,HE.O.1,by rw[<-HE.O.2.1];rfl,by rw[<-HE.O.2.1];exact HE.O.2.2.1,HE.O.2.2.2⟩
   ·rcases aG.1 hx with hx|hx
    ·have:=e4 x hx;omega
    ·rw[aE]at hx;omega
   ·have As:ks=[]:=by
     cases ks with
     |nil=>rfl
     |cons y l=>
      have h1:=e4 y cP;have h2:=e5;simp at h2;omega
    subst As;simp at e3;simp[e3]
   ·rcases aG.1 hx with hx|hx
    ·exact(e4 x hx).1
    ·rw[aE]at hx;split at e5
     ·omega
     ·omega
end
end Go.Proofs.YtbiififbfefkjaaGreatDoor
